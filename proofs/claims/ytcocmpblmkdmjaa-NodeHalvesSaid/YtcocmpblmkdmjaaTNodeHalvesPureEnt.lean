-- A part of the text PureEnt, thinned by a program of this session.
import Derived.Test.YtcocmpblmkdmjaaTNodeHalvesPurePut
import Derived.Test.YtcocmpblmkdmjaaTNodeHalvesPrx18
namespace Go.Proofs.Ytcocmpblmkdmjaa.Pure
set_option linter.unusedVariables false
open Go.RowKit Go.Proofs.Ytcocmpblmkdmjaa.Pr Go.Proofs.YtcocmpblmkdmjaaW.PrintWords Go.Proofs.YtcocmpblmkdmjaaW.PrintLast
def getE (k:ByteArray):List Ent→Option ByteArray
 | []=>none
 | e::r=>if cb (L e.1) (L k)=0 then some e.2 else getE k r
theorem cb_eq {a b:List UInt8} (h:cb a b=0):a=b:=(cb_zero a b).1 h
theorem K_succ (x:ByteArray) (keys:List ByteArray) (j:Nat):K (x::keys) (j+1)=K keys j:=by
 unfold K
 congr 1
theorem at_tail {x k:ByteArray} {keys:List ByteArray} {p:Nat} (h:At (x::keys) k (p+1)):At keys k p :=
 ⟨by have:=h.le;simp at this;omega,fun j hj=>by have:=h.low (j+1) (by omega);rwa [K_succ] at this,fun hp=>by have:=h.here (by simp;omega);rwa [K_succ] at this,fun j j1 j2=>by have:=h.high (j+1) (by omega) (by simp;omega);rwa [K_succ] at this⟩
theorem getE_at (k:ByteArray):∀ (es:List Ent) (p:Nat),At (es.map Prod.fst) k p→getE k es=if p < (es.map Prod.fst).length∧cb (K (es.map Prod.fst) p) (L k)=0 then some (rdOf ByteArray.empty (es.map Prod.snd) (p:Int)) else none
 | [],p,h=>by rw [if_neg (by simp)];rfl
 | e::r,0,h=>by
  have h0:0≤cb (L e.1) (L k):=h.here (by simp)
  simp only [getE]
  by_cases c:cb (L e.1) (L k)=0
  ·have c':0 < ((e::r).map Prod.fst).length∧cb (K ((e::r).map Prod.fst) 0) (L k)=0:=⟨by simp,c⟩
   rw [if_pos c,if_pos c']
   rfl
  ·have c':¬ (0 < ((e::r).map Prod.fst).length∧cb (K ((e::r).map Prod.fst) 0) (L k)=0):=fun h=>c h.2
   rw [if_neg c,if_neg c']
   have hno:∀ (r:List Ent),(∀ j,j < r.length→0 < cb (K (r.map Prod.fst) j) (L k))→getE k r=none:=by
    intro r
    induction r with
    | nil=>intro _;rfl
    | cons e r ih =>
     intro h
     have h0:0 < cb (L e.1) (L k):=h 0 (by simp)
     simp only [getE]
     rw [if_neg (by omega)]
     exact ih (fun j hj=>by have:=h (j+1) (by simp;omega);rwa [List.map_cons,K_succ] at this)
   exact hno r (fun j hj=>by have:=h.high (j+1) (by omega) (by simp;omega);rwa [List.map_cons,K_succ] at this)
 | e::r,p+1,h=>by
  have h0:cb (L e.1) (L k) < 0:=h.low 0 (by omega)
  have ih:=getE_at k r p (at_tail h)
  have hc:(p+1 < ((e::r).map Prod.fst).length∧cb (K ((e::r).map Prod.fst) (p+1)) (L k)=0)↔(p < (r.map Prod.fst).length∧cb (K (r.map Prod.fst) p) (L k)=0):=by
   rw [List.map_cons,K_succ,List.length_cons]
   omega
  simp only [getE]
  rw [if_neg (by omega),ih]
  by_cases c:p < (r.map Prod.fst).length∧cb (K (r.map Prod.fst) p) (L k)=0
  ·rw [if_pos c,if_pos (hc.2 c)]
   unfold rdOf
   simp
  ·rw [if_neg c,if_neg (fun h=>c (hc.1 h))]
theorem ents_of {keys vals:List ByteArray} (h:vals.length=keys.length):∃ es:List Ent,es.map Prod.fst=keys∧es.map Prod.snd=vals :=
 ⟨keys.zip vals,List.map_fst_zip (by omega),List.map_snd_zip (by omega)⟩
def GoodK (high:ByteArray) (keys:List ByteArray):Prop :=
 (∀ x ∈ keys,ckey x=0∧(high.toList=[]∨cb (L x) (L high) < 0))∧keys.Pairwise fun a b=>cb (L a) (L b) < 0
theorem kAll_of {high:ByteArray} {keys:List ByteArray}:∀ (d i:Nat),(∀ j,i≤j→j < i+d→kB high keys j=true)→kAll high keys d i=true
 | 0,_,_=>rfl
 | d+1,i,h=>by
  rw [kAll_yes (h i (Nat.le_refl _) (by omega))]
  exact kAll_of d (i+1) (fun j h1 h2=>h j (by omega) (by omega))
theorem K_get {keys:List ByteArray} {j:Nat} (h:j < keys.length):K keys j=L keys[j]:=by
 unfold K
 rw [rd_get h]
theorem kAll_iff (high:ByteArray) (keys:List ByteArray):kAll high keys keys.length 0=true↔GoodK high keys:=by
 constructor
 ·intro h
  refine ⟨fun x hx=>?_,List.pairwise_iff_getElem.2 fun i j hi hj hij=>?_⟩
  ·obtain ⟨j,hj,rfl⟩:=List.getElem_of_mem hx
   have hb:=kAll_get _ _ h j (Nat.zero_le _) (by omega)
   unfold kB at hb
   simp only [Bool.and_eq_true,Bool.or_eq_true,decide_eq_true_eq] at hb
   obtain ⟨b1,_,b3⟩:=hb
   rw [rd_get hj] at b1 b3
   refine ⟨b1,b3.imp id fun b3=>?_⟩
   rw [bl_neg] at b3
   exact of_decide_eq_true b3
  ·have:=mono2 h i j hij hj
   rwa [K_get hi,K_get hj] at this
 ·rintro ⟨h1,h2⟩
  refine kAll_of _ _ fun j _ hj=>?_
  have hj:j < keys.length:=by omega
  obtain ⟨g1,g2⟩:=h1 _ (List.getElem_mem hj)
  unfold kB
  simp only [Bool.and_eq_true,Bool.or_eq_true,decide_eq_true_eq]
  rw [rd_get hj]
  refine ⟨g1,?_,g2.imp id fun g=>by rw [bl_neg];exact decide_eq_true g⟩
  by_cases e:j=0
  ·exact .inl e
  ·right
   have e1:(j:Int) - 1=((j - 1:Nat):Int):=by omega
   rw [e1,rd_get (by omega),bl_neg]
   exact decide_eq_true (List.pairwise_iff_getElem.1 h2 (j - 1) j (by omega) hj (by omega))
theorem nodeB_iff (lv lsn rt:Int) (high:ByteArray) (keys vals:List ByteArray) (kids:List Int):nodeB lv lsn rt high keys vals kids=true↔((0≤lv∧lv≤20)∧(0≤lsn∧lsn≤1099511627776)∧(0≤rt∧rt≤4096)∧(high.toList=[]∨ckey high=0)∧partsB lv keys vals kids=true∧szN lv high keys vals kids≤256∧GoodK high keys):=by
 unfold nodeB
 simp only [Bool.and_eq_true,Bool.or_eq_true,decide_eq_true_eq,kAll_iff]
theorem sz_sub {a b:List ByteArray} (h:a.Sublist b):sz a≤sz b:=by
 induction h with
 | slnil=>exact Int.le_refl _
 | cons x h ih=>simp only [sz];omega
 | cons_cons x h ih=>simp only [sz];omega
theorem nodeB_sub {lsn rt:Int} {high:ByteArray} {keys vals ks vs:List ByteArray} (h:nodeB 0 lsn rt high keys vals []=true) (hh:high.size≤140737488351232) (hl:keys.length≤256) (hk:ks.Sublist keys) (hv:vs.Sublist vals) (he:vs.length=ks.length):nodeB 0 lsn rt high ks vs []=true:=by
 rw [nodeB_iff] at h ⊢
 obtain ⟨h1,h2,h3,h4,h5,h6,h7,h8⟩:=h
 unfold partsB at h5 ⊢
 rw [if_pos rfl] at h5 ⊢
 simp only [Bool.and_eq_true,decide_eq_true_eq,Bool.not_eq_true',List.any_eq_false] at h5 ⊢
 obtain ⟨p1,p2,p3⟩:=h5
 have gk:GoodK high keys:=⟨h7,h8⟩
 have k1:=keys_small ((kAll_iff _ _).2 gk)
 have v1:∀ y ∈ vals,y.size≤32:=by
  refine vals_small ?_
  rw [Bool.not_eq_true',List.any_eq_false]
  exact p3
 have hkl:=hk.length_le
 have s1:=sz_le 16 keys k1
 have s2:=sz_le 16 ks (fun y hy=>k1 y (hk.subset hy))
 have s3:=sz_le 32 vals v1
 have s4:=sz_le 32 vs (fun y hy=>v1 y (hv.subset hy))
 have s5:=sz_sub hk
 have s6:=sz_sub hv
 refine ⟨h1,h2,h3,h4,⟨he,p2,fun x hx=>p3 x (hv.subset hx)⟩,?_,fun x hx=>h7 x (hk.subset hx),h8.sublist hk⟩
 unfold szN at h6 ⊢
 rw [if_pos rfl,w64 (by omega) (by omega)] at h6 ⊢
 omega
def getR (k:ByteArray) (es:List Ent):ByteArray×Bool×Int:=match getE k es with|some v=>(v,true,0)|none=>(⟨#[]⟩,false,0)
theorem get_val (lsn rt:Int) (high:ByteArray) (es:List Ent) (k:ByteArray) (hh:high.size≤140737488351232) (hl:(es.map Prod.fst).length*16≤140737488351232) (hg:∀ y ∈ es.map Prod.fst,y.size≤140737488351232) :
  Ev (fun n=>node_Get.f n 0 lsn rt high (es.map Prod.fst) (es.map Prod.snd) [] k) (if askV 0 lsn rt high (es.map Prod.fst) (es.map Prod.snd) [] k ⟨#[]⟩ 1 0=0 then getR k es else (⟨#[]⟩,false,askV 0 lsn rt high (es.map Prod.fst) (es.map Prod.snd) [] k ⟨#[]⟩ 1 0)):=by
 have ha:=asked_ev 0 lsn rt high (es.map Prod.fst) (es.map Prod.snd) [] hl (by simpa using hl) (by decide) hg k (⟨#[]⟩:ByteArray) 1 0
 by_cases he:askV 0 lsn rt high (es.map Prod.fst) (es.map Prod.snd) [] k ⟨#[]⟩ 1 0=0
 ·rw [if_pos he]
  rw [he] at ha
  obtain ⟨hb,_,_⟩:=askV_zero he
  obtain ⟨hs,_,_⟩:=nodeB_facts hb
  obtain ⟨p,hp,hpl⟩:=place_at hs k
  have hge:=getE_at k es p hp
  unfold getR
  have hlen:(es.map Prod.snd).length=(es.map Prod.fst).length:=by simp
  by_cases c:p < (es.map Prod.fst).length∧cb (K (es.map Prod.fst) p) (L k)=0
  ·rw [if_pos c] at hge
   rw [hge]
   rw [decide_eq_true c] at hpl
   exact Ev.bind ha (Ev.pos rfl (Ev.bindc hpl (Ev.pos rfl (Ev.pos (by omega) (Ev.pos (by dsimp only;omega) (Ev.now _))))))
  ·rw [if_neg c] at hge
   rw [hge]
   rw [decide_eq_false c] at hpl
   exact Ev.bind ha (Ev.pos rfl (Ev.bindc hpl (Ev.neg (fun e=>by cases e) (Ev.now _))))
 ·rw [if_neg he]
  exact Ev.bind ha (Ev.neg he (Ev.now _))
theorem leaf_ok {lsn rt:Int} {high:ByteArray} {es:List Ent} (h:nodeB 0 lsn rt high (es.map Prod.fst) (es.map Prod.snd) []=true) (hn:es.length≤300):(es.map Prod.fst).length*16≤140737488351232∧∀ y ∈ es.map Prod.fst,y.size≤140737488351232:=by
 obtain ⟨hs,_,_⟩:=nodeB_facts h
 refine ⟨by simp;omega,fun y hy=>?_⟩
 have:=keys_small hs y hy
 omega
end Go.Proofs.Ytcocmpblmkdmjaa.Pure
