-- A part of the text PurePut, thinned by a program of this session.
import Derived.Test.YtcocmpblmkdmjaaTNodeBackPureLeft
import Derived.Test.YtcocmpblmkdmjaaTNodeBackPrx25
import Derived.Test.YtcocmpblmkdmjaaTNodeBackPrx28
import Derived.Test.YtcocmpblmkdmjaaTNodeBackNodePut
import Derived.Test.YtcocmpblmkdmjaaTNodeBackNodeDel
namespace Go.Proofs.Ytcocmpblmkdmjaa.Pure
set_option linter.unusedVariables false
open Go.RowKit Go.Proofs.Ytcocmpblmkdmjaa.Pr Go.Proofs.YtcocmpblmkdmjaaW.PrintWords Go.Proofs.YtcocmpblmkdmjaaW.PrintLast
abbrev E8:=Int×Int×Int×ByteArray×List ByteArray×List ByteArray×List Int×Int
abbrev Ent:=ByteArray×ByteArray
def rfin (n:Nat) (lsn rt:Int) (high:ByteArray) (ks vs:List ByteArray):Option E8 :=
 (latticeref06_Right.f n 0 lsn rt high ks vs []).bind fun t=>if t=true then some (0,lsn,rt,high,ks,vs,[],(0:Int)) else some (0,0,0,(⟨#[]⟩:ByteArray),([]:List ByteArray),([]:List ByteArray),([]:List Int),5)
theorem sz_of {keys:List ByteArray} (hg:∀ y ∈ keys,y.size≤140737488351232):∀ j:Nat,j < keys.length→(rdOf ByteArray.empty keys (j:Int)).size≤140737488351232:=fun j hj=>by
 rw [rd_get hj]
 exact hg _ (List.getElem_mem _)
theorem ba_ext {x y:ByteArray} (h:L x=L y):x=y:=by
 cases x;cases y
 unfold L at h
 congr 1
 exact Array.ext' (by simpa using h)
theorem tl_iff {x y:ByteArray}:x.toList=y.toList↔cb (L x) (L y)=0:=by rw [tl,tl,cb_zero]
theorem rput_done (lsn rt:Int) (high k v:ByteArray) (keys vals:List ByteArray) (hl:keys.length≤256) (hvl:vals.length=keys.length) (R:E8):∀ (d i:Nat),i≤keys.length→keys.length - i=d→(∀ j,i≤j→j < keys.length→0 < cb (K keys j) (L k))→∀ ks vs:List ByteArray,ks.length≤i+1→vs.length≤i+1 →
  Ev (fun n=>rfin n lsn rt high (ks++keys.drop i) (vs++vals.drop i)) R →
  Ev (fun n=>latticeref07_Put.l0 n k v true keys (keys.length:Int) (i:Int) 0 lsn rt high keys vals [] 0 lsn rt high ks vs []) R:=by
 intro d
 induction d with
 | zero =>
  intro i g1 g2 g3 ks vs l1 l2 hf
  obtain rfl:i=keys.length:=by omega
  rw [List.drop_length,show vals.drop keys.length=[] by rw [← hvl,List.drop_length],List.append_nil,List.append_nil] at hf
  refine Ev.step (fun _=>latticeref07_Put.l0.eq_2 _ _ _ _ _ _ _ _ _ _ _ _ _ _ _ _ _ _ _ _ _) ?_
  exact Ev.neg (by omega) (Ev.pos rfl hf)
 | succ d ih =>
  intro i g1 g2 g3 ks vs l1 l2 hf
  have hi:i < keys.length:=by omega
  have hi2:i < vals.length:=by omega
  have hc:0 < cb (L (rdOf ByteArray.empty keys (i:Int))) (L k):=g3 i (Nat.le_refl _) hi
  have hne:¬ (rdOf ByteArray.empty keys (i:Int)).toList=k.toList:=fun e=>by
   rw [tl_iff] at e
   omega
  refine Ev.step (fun _=>latticeref07_Put.l0.eq_2 _ _ _ _ _ _ _ _ _ _ _ _ _ _ _ _ _ _ _ _ _) ?_
  refine Ev.pos (by omega) (Ev.pos (by omega) (Ev.pos (by omega) (Ev.pos rfl ?_)))
  refine Ev.step (fun _=>latticeref07_Put.j1.eq_2 _ _ _ _ _ _ _ _ _ _ _ _ _ _ _ _ _ _ _ _ _ _ _ _) ?_
  refine Ev.neg (by decide) (Ev.neg hne (Ev.pos (by omega) (Ev.pos (by omega) (Ev.pos (by omega) (Ev.pos (by omega) ?_)))))
  rw [rd_get hi,rd_get hi2,w64 (by omega) (by omega)]
  refine ih (i+1) (by omega) (by omega) (fun j h1 h2=>g3 j (by omega) h2) (ks++[keys[i]]) (vs++[vals[i]]) (by simp;omega) (by simp;omega) ?_
  rw [List.append_assoc,List.append_assoc,List.singleton_append,List.singleton_append,← List.drop_eq_getElem_cons hi,← List.drop_eq_getElem_cons hi2]
  exact hf
structure At (keys:List ByteArray) (k:ByteArray) (p:Nat):Prop where
 le:p≤keys.length
 low:∀ j,j < p→cb (K keys j) (L k) < 0
 here:p < keys.length→0≤cb (K keys p) (L k)
 high:∀ j,p < j→j < keys.length→0 < cb (K keys j) (L k)
def insK (keys:List ByteArray) (k:ByteArray) (p:Nat):List ByteArray:=if p < keys.length∧cb (K keys p) (L k)=0 then keys else keys.take p++k::keys.drop p
def insV (keys vals:List ByteArray) (k v:ByteArray) (p:Nat):List ByteArray:=if p < keys.length∧cb (K keys p) (L k)=0 then vals.set p v else vals.take p++v::vals.drop p
theorem rput_at (lsn rt:Int) (high k v:ByteArray) (keys vals:List ByteArray) (hl:keys.length≤256) (hvl:vals.length=keys.length) (hg:∀ y ∈ keys,y.size≤140737488351232) (p:Nat) (hp:At keys k p) (R:E8)
  (hf:Ev (fun n=>rfin n lsn rt high (insK keys k p) (insV keys vals k v p)) R):∀ (d i:Nat),i≤p→p - i=d →
  Ev (fun n=>latticeref07_Put.l0 n k v false keys (keys.length:Int) (i:Int) 0 lsn rt high keys vals [] 0 lsn rt high (keys.take i) (vals.take i) []) R:=by
 obtain ⟨h1,h2,h3,h4⟩:=hp
 have hsz:=sz_of hg
 intro d
 induction d with
 | zero =>
  intro i g1 g2
  obtain rfl:i=p:=by omega
  refine Ev.step (fun _=>latticeref07_Put.l0.eq_2 _ _ _ _ _ _ _ _ _ _ _ _ _ _ _ _ _ _ _ _ _) ?_
  by_cases c:i < keys.length
  ·have h3:=h3 c
   have c2:i < vals.length:=by omega
   have hge:(cb (L (rdOf ByteArray.empty keys (i:Int))) (L k))≥0:=h3
   refine Ev.pos (by omega) (Ev.pos (by omega) (Ev.pos (by omega) (Ev.neg (by decide) (Ev.bind (cmp_ev _ _ (hsz i c)) ?_))))
   rw [decide_eq_true hge]
   refine Ev.step (fun _=>latticeref07_Put.j1.eq_2 _ _ _ _ _ _ _ _ _ _ _ _ _ _ _ _ _ _ _ _ _ _ _ _) ?_
   refine Ev.pos rfl (Ev.pos (by rw [List.length_take];omega) (Ev.bindc rfl (Ev.pos (by rw [List.length_take];omega) (Ev.bindc rfl ?_))))
   unfold insK insV at hf
   by_cases e:cb (K keys i) (L k)=0
   ·rw [if_pos ⟨c,e⟩,if_pos ⟨c,e⟩] at hf
    have e':(rdOf ByteArray.empty keys (i:Int)).toList=k.toList:=tl_iff.2 e
    refine Ev.pos e' ?_
    rw [w64 (by omega) (by omega)]
    refine rput_done lsn rt high k v keys vals hl hvl R _ (i+1) (by omega) rfl (fun j j1 j2=>h4 j (by omega) j2) (keys.take i++[k]) (vals.take i++[v]) (by simp;omega) (by simp;omega) ?_
    have ek:k=keys[i]:=by
     have e2:rdOf ByteArray.empty keys (i:Int)=k:=ba_ext ((cb_zero _ _).1 e)
     rw [← e2,rd_get c]
    rw [List.append_assoc,List.append_assoc,List.singleton_append,List.singleton_append]
    rw [List.set_eq_take_append_cons_drop,if_pos c2] at hf
    have:keys.take i++k::keys.drop (i+1)=keys:=by
     rw [ek,← List.drop_eq_getElem_cons c,List.take_append_drop]
    rw [this]
    exact hf
   ·rw [if_neg (fun h=>e h.2),if_neg (fun h=>e h.2)] at hf
    have e':¬ (rdOf ByteArray.empty keys (i:Int)).toList=k.toList:=fun h=>e (tl_iff.1 h)
    refine Ev.neg e' (Ev.pos (by rw [List.length_append,List.length_take];simp;omega) (Ev.pos (by omega) (Ev.pos (by omega) (Ev.pos (by rw [List.length_append,List.length_take];simp;omega) ?_))))
    rw [rd_get c,rd_get c2,w64 (by omega) (by omega)]
    refine rput_done lsn rt high k v keys vals hl hvl R _ (i+1) (by omega) rfl (fun j j1 j2=>h4 j (by omega) j2) (keys.take i++[k]++[keys[i]]) (vals.take i++[v]++[vals[i]]) (by simp;omega) (by simp;omega) ?_
    rw [List.append_assoc,List.append_assoc,List.append_assoc,List.append_assoc,List.singleton_append,List.singleton_append,List.singleton_append,List.singleton_append,← List.drop_eq_getElem_cons c,← List.drop_eq_getElem_cons c2]
    exact hf
  ·obtain rfl:i=keys.length:=by omega
   unfold insK insV at hf
   rw [if_neg (fun h=>c h.1),if_neg (fun h=>c h.1)] at hf
   refine Ev.neg (by omega) (Ev.neg (by decide) (Ev.pos (by rw [List.length_take];omega) (Ev.bindc rfl (Ev.pos (by rw [List.length_take];omega) (Ev.bindc rfl ?_)))))
   rw [List.drop_length,show vals.drop keys.length=[] by rw [← hvl,List.drop_length]] at hf
   exact hf
 | succ d ih =>
  intro i g1 g2
  have ih:=ih (i+1) (by omega) (by omega)
  have hi:i < keys.length:=by omega
  have hi2:i < vals.length:=by omega
  have hc:cb (L (rdOf ByteArray.empty keys (i:Int))) (L k) < 0:=h2 i (by omega)
  have hne:¬ (rdOf ByteArray.empty keys (i:Int)).toList=k.toList:=fun e=>by
   rw [tl_iff] at e
   omega
  refine Ev.step (fun _=>latticeref07_Put.l0.eq_2 _ _ _ _ _ _ _ _ _ _ _ _ _ _ _ _ _ _ _ _ _) ?_
  refine Ev.pos (by omega) (Ev.pos (by omega) (Ev.pos (by omega) (Ev.neg (by decide) (Ev.bind (cmp_ev _ _ (hsz i hi)) ?_))))
  rw [decide_eq_false (by omega)]
  refine Ev.step (fun _=>latticeref07_Put.j1.eq_2 _ _ _ _ _ _ _ _ _ _ _ _ _ _ _ _ _ _ _ _ _ _ _ _) ?_
  refine Ev.neg (by decide) (Ev.neg hne (Ev.pos (by rw [List.length_take];omega) (Ev.pos (by omega) (Ev.pos (by omega) (Ev.pos (by rw [List.length_take];omega) ?_)))))
  rw [rd_get hi,rd_get hi2,take_more hi,take_more hi2,w64 (by omega) (by omega)]
  exact ih
theorem place_at {high:ByteArray} {keys:List ByteArray} (hs:kAll high keys keys.length 0=true) (k:ByteArray):∃ p,At keys k p∧key_Place.f keys k=some ((p:Int),decide (p < keys.length∧cb (K keys p) (L k)=0)):=by
 obtain ⟨p,h1,h2,h3,h4⟩:=place_ev keys k
 exact ⟨p,⟨h1,h2,h3,fun j j1 j2=>behind hs h3 j j1 j2⟩,h4⟩
theorem ins_len {keys vals:List ByteArray} {k v:ByteArray} {p:Nat} (hl:keys.length≤256) (hvl:vals.length=keys.length) (hp:p≤keys.length):(insK keys k p).length≤257∧(insV keys vals k v p).length=(insK keys k p).length:=by
 unfold insK insV
 split
 ·exact ⟨by omega,by rw [List.length_set];exact hvl⟩
 ·constructor
  ·simp;omega
  ·simp;omega
theorem put_val (lv lsn rt:Int) (high:ByteArray) (keys vals:List ByteArray) (kids:List Int) (hl:keys.length*16≤140737488351232) (hv:vals.length*16≤140737488351232) (hk:kids.length*8≤140737488351232) (hg:∀ y ∈ keys,y.size≤140737488351232) (k v:ByteArray) (hh:high.size≤140737488351232) (hks:k.size≤140737488351232) :
  (∃ e,e=askV lv lsn rt high keys vals kids k v 1 0∧e≠0∧Ev (fun n=>putG n lv lsn rt high keys vals kids k v) (0,0,0,⟨#[]⟩,[],[],[],e)∧Ev (fun n=>latticeref07_Put.f n lv lsn rt high keys vals kids k v) (0,0,0,⟨#[]⟩,[],[],[],e)) ∨
  (askV lv lsn rt high keys vals kids k v 1 0=0∧lv=0∧kids=[]∧vals.length=keys.length∧keys.length≤256∧nodeB lv lsn rt high keys vals kids=true∧∃ p,At keys k p ∧
   Ev (fun n=>putG n lv lsn rt high keys vals kids k v) (partR (nodeB 0 lsn rt high (insK keys k p) (insV keys vals k v p) []) 0 lsn rt high (insK keys k p) (insV keys vals k v p) []) ∧
   Ev (fun n=>latticeref07_Put.f n lv lsn rt high keys vals kids k v) (partR (nodeB 0 lsn rt high (insK keys k p) (insV keys vals k v p) []) 0 lsn rt high (insK keys k p) (insV keys vals k v p) [])):=by
 have ha:=asked_ev lv lsn rt high keys vals kids hl hv hk hg k v 1 0
 have hr:=rasked_ev lv lsn rt high keys vals kids hl hv hk hg k v 1 0 hh
 by_cases he:askV lv lsn rt high keys vals kids k v 1 0=0
 ·right
  obtain ⟨hb,hlv,_⟩:=askV_zero he
  have hlv:=hlv rfl
  subst hlv
  obtain ⟨hn,hle,_⟩:=nodeB_small hb hh hl
  obtain ⟨rfl,hvl⟩:=hle rfl
  obtain ⟨hs,_,_⟩:=nodeB_facts hb
  obtain ⟨p,hp,hpl⟩:=place_at hs k
  obtain ⟨n1,n2⟩:=ins_len (k:=k) (v:=v) hn hvl hp.le
  rw [he] at ha hr
  have hgi:∀ y ∈ insK keys k p,y.size≤140737488351232:=by
   intro y hy
   unfold insK at hy
   split at hy
   ·exact hg y hy
   ·rcases List.mem_append.1 hy with hy|hy
    ·exact hg y (List.mem_of_mem_take hy)
    ·rcases List.mem_cons.1 hy with rfl|hy
     ·exact hks
     ·exact hg y (List.mem_of_mem_drop hy)
  refine ⟨he,rfl,rfl,hvl,hn,hb,p,hp,Ev.bind ha (Ev.pos rfl (Ev.pos ⟨by omega,by omega,by decide⟩ (Ev.bindc hpl ?_))),Ev.bind hr (Ev.pos rfl (Ev.bindc rfl ?_))⟩
  ·have fin:=check_part 0 lsn rt high (insK keys k p) (insV keys vals k v p) [] (by omega) (by omega)
   have hple:=hp.le
   by_cases c:p < keys.length∧cb (K keys p) (L k)=0
   ·have e1:insK keys k p=keys:=if_pos c
    have e2:insV keys vals k v p=vals.set p v:=if_pos c
    rw [e1,e2] at fin ⊢
    refine Ev.pos (decide_eq_true c) (Ev.pos ⟨by omega,by dsimp only;omega⟩ ?_)
    exact fin
   ·have e1:insK keys k p=keys.take p++k::keys.drop p:=if_neg c
    have e2:insV keys vals k v p=vals.take p++v::vals.drop p:=if_neg c
    rw [e1,e2] at fin ⊢
    refine Ev.neg (by simpa using c) (Ev.pos ⟨by omega,by dsimp only;omega,by dsimp only;omega⟩ ?_)
    exact fin
  ·exact rput_at lsn rt high k v keys vals hn hvl hg p hp _ (right_part 0 lsn rt high (insK keys k p) (insV keys vals k v p) [] (by omega) (by omega) (by decide) hgi) _ 0 (Nat.zero_le _) rfl
 ·exact .inl ⟨_,rfl,he,Ev.bind ha (Ev.neg he (Ev.now _)),Ev.bind hr (Ev.neg he (Ev.now _))⟩
def delL (keys xs:List ByteArray) (k:ByteArray) (p:Nat):List ByteArray:=if p < keys.length∧cb (K keys p) (L k)=0 then xs.take p++xs.drop (p+1) else xs
theorem rdel_more (lsn rt:Int) (high k:ByteArray) (keys vals:List ByteArray) (hl:keys.length≤256) (hvl:vals.length=keys.length) (q:Nat) (hq:∀ j,q≤j→j < keys.length→cb (K keys j) (L k)≠0):∀ (d i:Nat),q≤i→i≤keys.length→keys.length - i=d→∀ ks vs:List ByteArray,ks.length≤i→vs.length≤i →
  Ev (fun n=>latticeref07_Del.l0 n k keys (keys.length:Int) (i:Int) 0 lsn rt high keys vals [] 0 lsn rt high ks vs []) (0,lsn,rt,high,ks++keys.drop i,vs++vals.drop i,[],0):=by
 intro d
 induction d with
 | zero =>
  intro i g0 g1 g2 ks vs l1 l2
  obtain rfl:i=keys.length:=by omega
  refine Ev.step (fun _=>latticeref07_Del.l0.eq_2 _ _ _ _ _ _ _ _ _ _ _ _ _ _ _ _ _ _ _) ?_
  rw [List.drop_length,show vals.drop keys.length=[] by rw [← hvl,List.drop_length],List.append_nil,List.append_nil]
  exact Ev.neg (by omega) (Ev.now _)
 | succ d ih =>
  intro i g0 g1 g2 ks vs l1 l2
  have hi:i < keys.length:=by omega
  have hi2:i < vals.length:=by omega
  have hne:¬ (rdOf ByteArray.empty keys (i:Int)).toList=k.toList:=fun e=>hq i g0 hi (tl_iff.1 e)
  refine Ev.step (fun _=>latticeref07_Del.l0.eq_2 _ _ _ _ _ _ _ _ _ _ _ _ _ _ _ _ _ _ _) ?_
  refine Ev.pos (by omega) (Ev.pos (by omega) (Ev.pos (by omega) (Ev.neg hne (Ev.pos (by omega) (Ev.pos (by omega) (Ev.pos (by omega) ?_))))))
  rw [rd_get hi,rd_get hi2,w64 (by omega) (by omega),List.drop_eq_getElem_cons hi,List.drop_eq_getElem_cons hi2]
  have:=ih (i+1) (by omega) (by omega) (by omega) (ks++[keys[i]]) (vs++[vals[i]]) (by simp;omega) (by simp;omega)
  rw [List.append_assoc,List.append_assoc] at this
  exact this
theorem rdel_at (lsn rt:Int) (high k:ByteArray) (keys vals:List ByteArray) (hl:keys.length≤256) (hvl:vals.length=keys.length) (p:Nat) (hp:At keys k p):∀ (d i:Nat),i≤p→p - i=d →
  Ev (fun n=>latticeref07_Del.l0 n k keys (keys.length:Int) (i:Int) 0 lsn rt high keys vals [] 0 lsn rt high (keys.take i) (vals.take i) []) (0,lsn,rt,high,delL keys keys k p,delL keys vals k p,[],0):=by
 obtain ⟨h1,h2,h3,h4⟩:=hp
 intro d
 induction d with
 | zero =>
  intro i g1 g2
  obtain rfl:i=p:=by omega
  unfold delL
  by_cases c:i < keys.length∧cb (K keys i) (L k)=0
  ·rw [if_pos c,if_pos c]
   obtain ⟨c,e⟩:=c
   refine Ev.step (fun _=>latticeref07_Del.l0.eq_2 _ _ _ _ _ _ _ _ _ _ _ _ _ _ _ _ _ _ _) ?_
   refine Ev.pos (by omega) (Ev.pos (by omega) (Ev.pos (by omega) (Ev.pos (tl_iff.2 e) ?_)))
   rw [w64 (by omega) (by omega)]
   exact rdel_more lsn rt high k keys vals hl hvl (i+1) (fun j j1 j2=>by have:=h4 j (by omega) j2;omega) _ (i+1) (Nat.le_refl _) (by omega) rfl _ _ (by rw [List.length_take];omega) (by rw [List.length_take];omega)
  ·rw [if_neg c,if_neg c]
   have:=rdel_more lsn rt high k keys vals hl hvl i (fun j j1 j2 e=>by
    rcases Nat.lt_or_eq_of_le j1 with j1|rfl
    ·have:=h4 j j1 j2;omega
    ·exact c ⟨j2,e⟩) _ i (Nat.le_refl _) h1 rfl (keys.take i) (vals.take i) (by rw [List.length_take];omega) (by rw [List.length_take];omega)
   rw [List.take_append_drop,List.take_append_drop] at this
   exact this
 | succ d ih =>
  intro i g1 g2
  have ih:=ih (i+1) (by omega) (by omega)
  have hi:i < keys.length:=by omega
  have hi2:i < vals.length:=by omega
  have hc:cb (K keys i) (L k) < 0:=h2 i (by omega)
  have hne:¬ (rdOf ByteArray.empty keys (i:Int)).toList=k.toList:=fun e=>by
   have e:cb (K keys i) (L k)=0:=tl_iff.1 e
   omega
  refine Ev.step (fun _=>latticeref07_Del.l0.eq_2 _ _ _ _ _ _ _ _ _ _ _ _ _ _ _ _ _ _ _) ?_
  refine Ev.pos (by omega) (Ev.pos (by omega) (Ev.pos (by omega) (Ev.neg hne (Ev.pos (by rw [List.length_take];omega) (Ev.pos (by omega) (Ev.pos (by rw [List.length_take];omega) ?_))))))
  rw [rd_get hi,rd_get hi2,take_more hi,take_more hi2,w64 (by omega) (by omega)]
  exact ih
theorem del_val (lv lsn rt:Int) (high:ByteArray) (keys vals:List ByteArray) (kids:List Int) (hl:keys.length*16≤140737488351232) (hv:vals.length*16≤140737488351232) (hk:kids.length*8≤140737488351232) (hg:∀ y ∈ keys,y.size≤140737488351232) (k:ByteArray) (hh:high.size≤140737488351232) :
  (∃ e,e=askV lv lsn rt high keys vals kids k ⟨#[]⟩ 1 0∧e≠0∧Ev (fun n=>delG n lv lsn rt high keys vals kids k) (0,0,0,⟨#[]⟩,[],[],[],e)∧Ev (fun n=>latticeref07_Del.f n lv lsn rt high keys vals kids k) (0,0,0,⟨#[]⟩,[],[],[],e)) ∨
  (askV lv lsn rt high keys vals kids k ⟨#[]⟩ 1 0=0∧lv=0∧kids=[]∧vals.length=keys.length∧keys.length≤256∧nodeB lv lsn rt high keys vals kids=true∧∃ p,At keys k p ∧
   Ev (fun n=>delG n lv lsn rt high keys vals kids k) (0,lsn,rt,high,delL keys keys k p,delL keys vals k p,[],0) ∧
   Ev (fun n=>latticeref07_Del.f n lv lsn rt high keys vals kids k) (0,lsn,rt,high,delL keys keys k p,delL keys vals k p,[],0)):=by
 have ha:=asked_ev lv lsn rt high keys vals kids hl hv hk hg k ⟨#[]⟩ 1 0
 have hr:=rasked_ev lv lsn rt high keys vals kids hl hv hk hg k ⟨#[]⟩ 1 0 hh
 by_cases he:askV lv lsn rt high keys vals kids k ⟨#[]⟩ 1 0=0
 ·right
  obtain ⟨hb,hlv,_⟩:=askV_zero he
  have hlv:=hlv rfl
  subst hlv
  obtain ⟨hn,hle,_⟩:=nodeB_small hb hh hl
  obtain ⟨rfl,hvl⟩:=hle rfl
  obtain ⟨hs,_,_⟩:=nodeB_facts hb
  obtain ⟨p,hp,hpl⟩:=place_at hs k
  rw [he] at ha hr
  refine ⟨he,rfl,rfl,hvl,hn,hb,p,hp,Ev.bind ha (Ev.pos rfl (Ev.pos ⟨by omega,by omega,by decide⟩ (Ev.bindc hpl ?_))),Ev.bind hr (Ev.pos rfl (Ev.bindc rfl ?_))⟩
  ·unfold delL
   by_cases c:p < keys.length∧cb (K keys p) (L k)=0
   ·rw [if_pos c,if_pos c]
    exact Ev.pos (decide_eq_true c) (Ev.pos ⟨by omega,by dsimp only;omega,by dsimp only;omega⟩ (Ev.now _))
   ·rw [if_neg c,if_neg c]
    exact Ev.neg (by simpa using c) (Ev.now _)
  ·exact rdel_at lsn rt high k keys vals hn hvl p hp _ 0 (Nat.zero_le _) rfl
 ·exact .inl ⟨_,rfl,he,Ev.bind ha (Ev.neg he (Ev.now _)),Ev.bind hr (Ev.neg he (Ev.now _))⟩
end Go.Proofs.Ytcocmpblmkdmjaa.Pure
