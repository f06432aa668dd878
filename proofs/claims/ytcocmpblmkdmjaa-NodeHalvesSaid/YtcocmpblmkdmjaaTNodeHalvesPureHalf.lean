-- A part of the text PureHalf, thinned by a program of this session.
import Derived.Test.YtcocmpblmkdmjaaTNodeHalvesPureEnt
import Derived.Test.YtcocmpblmkdmjaaTNodeHalvesPrx15
import Derived.Test.YtcocmpblmkdmjaaTNodeHalvesPrx8
namespace Go.Proofs.Ytcocmpblmkdmjaa.Pure
set_option linter.unusedVariables false
open Go.RowKit Go.Proofs.Ytcocmpblmkdmjaa.Pr Go.Proofs.YtcocmpblmkdmjaaW.PrintWords Go.Proofs.YtcocmpblmkdmjaaW.PrintLast
theorem sz_append:∀ a b:List ByteArray,sz (a++b)=sz a+sz b
 | [],b=>by simp [sz]
 | x::a,b=>by
  have:=sz_append a b
  simp only [List.cons_append,sz]
  omega
theorem sz_take (l:List ByteArray) (i:Nat) (h:i < l.length):sz (l.take (i+1))=sz (l.take i)+(2+(l[i].size:Int)):=by
 rw [← take_more h,sz_append]
 simp [sz]
theorem part_loop (lv:Int) (keys vals:List ByteArray) (hl:keys.length≤256):∀ (d i:Nat),1≤i→i < keys.length→keys.length - 1 - i=d →
  ∃ p:Nat,i≤p∧p < keys.length∧Ev (fun k=>node_parting.l1 k (eLst lv keys vals keys.length) (eSum lv keys vals keys.length) (i:Int) (eSum lv keys vals i)) (p:Int)∧(p=i∨wrap64 (2*eSum lv keys vals (p - 1)) < eSum lv keys vals keys.length):=by
 intro d
 induction d with
 | zero =>
  intro i h1 h2 h3
  refine ⟨i,Nat.le_refl _,h2,?_,.inl rfl⟩
  refine Ev.step (fun _=>node_parting.l1.eq_2 _ _ _ _ _) ?_
  by_cases c:wrap64 (2*eSum lv keys vals i) < eSum lv keys vals keys.length
  ·refine Ev.pos c (Ev.neg ?_ (Ev.now _))
   rw [eLst_len,w64 (by omega) (by omega)]
   omega
  ·exact Ev.neg c (Ev.now _)
 | succ d ih =>
  intro i h1 h2 h3
  by_cases c:wrap64 (2*eSum lv keys vals i) < eSum lv keys vals keys.length
  ·obtain ⟨p,p1,p2,p3,p4⟩:=ih (i+1) (by omega) (by omega) (by omega)
   refine ⟨p,by omega,p2,?_,.inr ?_⟩
   ·refine Ev.step (fun _=>node_parting.l1.eq_2 _ _ _ _ _) ?_
    refine Ev.pos c (Ev.pos (by rw [eLst_len,w64 (by omega) (by omega)];omega) (Ev.pos (by omega) (Ev.pos (by rw [eLst_len];omega) ?_)))
    rw [eLst_rd lv keys vals keys.length i h2,w64 (x:=(i:Int)+1) (by omega) (by omega)]
    exact p3
   ·rcases p4 with p4|p4
    ·subst p4
     exact c
    ·exact p4
  ·refine ⟨i,Nat.le_refl _,h2,?_,.inl rfl⟩
   refine Ev.step (fun _=>node_parting.l1.eq_2 _ _ _ _ _) ?_
   exact Ev.neg c (Ev.now _)
structure Sep (high:ByteArray) (keys:List ByteArray) (s:ByteArray) (p:Nat):Prop where
 at':At keys s p
 ok:ckey s=0
 low:high.toList=[]∨cb (L s) (L high) < 0
theorem sep_inner {high:ByteArray} {keys:List ByteArray} (h:GoodK high keys) (p:Nat) (hp:p < keys.length):Sep high keys keys[p] p:=by
 obtain ⟨h1,h2⟩:=h
 obtain ⟨g1,g2⟩:=h1 _ (List.getElem_mem hp)
 have hm:∀ i j,(hi:i < keys.length)→(hj:j < keys.length)→i < j→cb (K keys i) (K keys j) < 0:=fun i j hi hj hij=>by
  rw [K_get hi,K_get hj]
  exact List.pairwise_iff_getElem.1 h2 i j hi hj hij
 refine ⟨⟨by omega,fun j hj=>?_,fun _=>?_,fun j j1 j2=>?_⟩,g1,g2⟩
 ·have:=hm j p (by omega) hp hj
  rwa [K_get hp] at this
 ·rw [K_get hp,(cb_zero _ _).2 rfl]
  exact Int.le_refl _
 ·have:=hm p j hp j2 j1
  rw [K_get hp] at this
  have q:=cb_neg (K keys j) (L keys[p])
  omega
theorem sep_leaf {high:ByteArray} {keys:List ByteArray} (h:GoodK high keys) (p:Nat) (h1p:1≤p) (hp:p < keys.length) (s:ByteArray) (hs:s=(rdOf ByteArray.empty keys (p:Int)).extract 0 (com (K keys (p - 1)) (K keys p)+1)):Sep high keys s p:=by
 obtain ⟨h1,h2⟩:=h
 obtain ⟨g1,g2⟩:=h1 _ (List.getElem_mem hp)
 have hm:∀ i j,(hi:i < keys.length)→(hj:j < keys.length)→i < j→cb (K keys i) (K keys j) < 0:=fun i j hi hj hij=>by
  rw [K_get hi,K_get hj]
  exact List.pairwise_iff_getElem.1 h2 i j hi hj hij
 have hadj:=hm (p - 1) p (by omega) hp (by omega)
 have hlt:=com_lt _ _ hadj
 have hL:L s=(K keys p).take (com (K keys (p - 1)) (K keys p)+1):=by rw [hs,L_take]
 have hgt:0 < cb (L s) (K keys (p - 1)):=by
  rw [hL]
  exact (com_between _ _ _ hadj (by omega)).2 (by omega)
 have hle:cb (L s) (K keys p)≤0:=by
  rw [hL]
  exact cb_take _ _
 have n1:=cb_neg (L s) (K keys (p - 1))
 have n2:=cb_neg (L s) (K keys p)
 have hsz:s.size≤keys[p].size∧1≤s.size:=by
  have e1:(L s).length=s.size:=L_len s
  have e2:(K keys p).length=keys[p].size:=by rw [K_get hp,L_len]
  rw [hL,List.length_take] at e1
  omega
 have hck:ckey s=0:=by
  unfold ckey at g1 ⊢
  by_cases c:keys[p].size=0∨16 < keys[p].size
  ·rw [if_pos c] at g1;cases g1
  ·rw [if_neg (by omega)]
 refine ⟨⟨by omega,fun j hj=>?_,fun _=>by omega,fun j j1 j2=>?_⟩,hck,g2.imp id fun g2=>?_⟩
 ·by_cases e:j=p - 1
  ·subst e;omega
  ·exact cb_lt_trans (hm j (p - 1) (by omega) (by omega) (by omega)) (by omega)
 ·have q:=hm p j hp j2 j1
  have q2:=cb_trans (L s) (K keys p) (K keys j) hle (by omega)
  have q3:=cb_neg (K keys j) (L s)
  have q4:cb (L s) (K keys j)≠0:=fun e=>by
   have:=(q2.2 e).2
   omega
  omega
 ·rw [← K_get hp] at g2
  have q2:=cb_trans (L s) (K keys p) (L high) hle (by omega)
  have q4:cb (L s) (L high)≠0:=fun e=>by
   have:=(q2.2 e).2
   omega
  omega
theorem nodeB_mk {lv lsn rt:Int} {high:ByteArray} {keys vals:List ByteArray} {kids:List Int} (h1:0≤lv∧lv≤20) (h2:0≤lsn∧lsn≤1099511627776) (h3:0≤rt∧rt≤4096) (h4:high.toList=[]∨ckey high=0) (h5:partsB lv keys vals kids=true) (h6:szN lv high keys vals kids≤256) (h7:GoodK high keys):nodeB lv lsn rt high keys vals kids=true :=
 (nodeB_iff _ _ _ _ _ _ _).2 ⟨h1,h2,h3,h4,h5,h6,h7⟩
theorem good_take {high s:ByteArray} {keys:List ByteArray} {p:Nat} (h:GoodK high keys) (hs:Sep high keys s p):GoodK s (keys.take p):=by
 refine ⟨fun x hx=>?_,h.2.sublist (List.take_sublist _ _)⟩
 obtain ⟨j,hj,rfl⟩:=List.getElem_of_mem hx
 rw [List.length_take] at hj
 refine ⟨(h.1 _ (List.mem_of_mem_take hx)).1,.inr ?_⟩
 have:=hs.at'.low j (by omega)
 rw [K_get (by omega)] at this
 rw [List.getElem_take]
 exact this
theorem key_size {k:ByteArray} (h:ckey k=0):1≤k.size∧k.size≤16:=by
 unfold ckey at h
 by_cases c:k.size=0∨16 < k.size
 ·rw [if_pos c] at h;cases h
 ·omega
theorem leaf_parts {keys vals:List ByteArray} {kids:List Int} (h:partsB 0 keys vals kids=true):vals.length=keys.length∧kids=[]∧(!(vals.any badV))=true:=by
 unfold partsB at h
 rw [if_pos rfl] at h
 simp only [Bool.and_eq_true,decide_eq_true_eq] at h
 exact ⟨h.1,List.length_eq_zero_iff.1 h.2.1,h.2.2⟩
theorem inner_parts {lv:Int} {keys vals:List ByteArray} {kids:List Int} (hlv:lv≠0) (h:partsB lv keys vals kids=true):kids.length=keys.length+1∧vals=[]∧∀ k ∈ kids,badK k=false:=by
 unfold partsB at h
 rw [if_neg hlv] at h
 simp only [Bool.and_eq_true,decide_eq_true_eq,Bool.not_eq_true',List.any_eq_false] at h
 exact ⟨h.1,List.length_eq_zero_iff.1 h.2.1,fun k hk=>by simpa using h.2.2 k hk⟩
theorem inner_mk {lv:Int} {keys:List ByteArray} {kids:List Int} (hlv:lv≠0) (h1:kids.length=keys.length+1) (h2:∀ k ∈ kids,badK k=false):partsB lv keys [] kids=true:=by
 unfold partsB
 rw [if_neg hlv]
 simp only [Bool.and_eq_true,decide_eq_true_eq,Bool.not_eq_true',List.any_eq_false]
 exact ⟨h1,rfl,fun k hk=>by simpa using h2 k hk⟩
theorem sz_nonneg:∀ l:List ByteArray,0≤sz l
 | []=>Int.le_refl _
 | x::r=>by
  have:=sz_nonneg r
  simp only [sz]
  omega
theorem ws (x:Int) (h0:0≤x) (h1:x≤100000):wrap64 x=x:=w64 (by omega) (by omega)
theorem eSum_succ (lv:Int) (keys vals:List ByteArray) (i:Nat):eSum lv keys vals (i+1)=wrap64 (eSum lv keys vals i+eS lv keys vals i):=rfl
theorem sum_step (X A B C D I J:Int) (hJ:J=I+1) (h:X=A+B) (h2:X≤52*I) (hA:0≤A) (hB:0≤B) (hC:0≤C) (hC2:C≤16) (hD:0≤D) (hD2:D≤32) (hI:I≤256):wrap64 (X+(4+C+D))=A+(2+C)+(B+(2+D))∧wrap64 (X+(4+C+D))≤52*J:=by
 rw [ws _ (by omega) (by omega)]
 exact ⟨by omega,by omega⟩
theorem sum_step1 (X A C I J:Int) (hJ:J=I+1) (h:X=A+4*I) (h2:X≤22*I) (hA:0≤A) (hC:0≤C) (hC2:C≤16) (hI0:0≤I) (hI:I≤256):wrap64 (X+(6+C))=A+(2+C)+4*J∧wrap64 (X+(6+C))≤22*J:=by
 rw [ws _ (by omega) (by omega)]
 exact ⟨by omega,by omega⟩
theorem eSum_leaf {keys vals:List ByteArray} (hk:∀ y ∈ keys,y.size≤16) (hv:∀ y ∈ vals,y.size≤32) (hl:keys.length≤256) (hvl:vals.length=keys.length):∀ i,i≤keys.length→eSum 0 keys vals i=sz (keys.take i)+sz (vals.take i)∧eSum 0 keys vals i≤52*i
 | 0,_=>by simp [eSum,sz]
 | i+1,h=>by
  have hi:i < keys.length:=by omega
  have hi2:i < vals.length:=by omega
  have b1:=hk _ (List.getElem_mem hi)
  have b2:=hv _ (List.getElem_mem hi2)
  have e3:eS 0 keys vals i=4+(keys[i].size:Int)+(vals[i].size:Int):=by
   unfold eS
   rw [if_pos rfl,rd_get hi,rd_get hi2,ws (4+(keys[i].size:Int)) (by omega) (by omega),ws _ (by omega) (by omega)]
  have c1:(keys[i].size:Int)≤16:=by omega
  have c2:(vals[i].size:Int)≤32:=by omega
  have c3:(i:Int)≤256:=by omega
  have c4:((i+1:Nat):Int)=(i:Int)+1:=by omega
  obtain ⟨e1,e2⟩:=eSum_leaf hk hv hl hvl i (Nat.le_of_lt hi)
  rw [sz_take _ _ hi,sz_take _ _ hi2,eSum_succ,e3]
  exact sum_step _ _ _ _ _ _ _ c4 e1 e2 (sz_nonneg _) (sz_nonneg _) (Int.natCast_nonneg _) c1 (Int.natCast_nonneg _) c2 c3
theorem eSum_inner {lv:Int} (hlv:lv≠0) {keys vals:List ByteArray} (hk:∀ y ∈ keys,y.size≤16) (hl:keys.length≤256):∀ i,i≤keys.length→eSum lv keys vals i=sz (keys.take i)+4*(i:Int)∧eSum lv keys vals i≤22*i
 | 0,_=>by simp [eSum,sz]
 | i+1,h=>by
  have hi:i < keys.length:=by omega
  have b1:=hk _ (List.getElem_mem hi)
  have e3:eS lv keys vals i=6+(keys[i].size:Int):=by
   unfold eS
   rw [if_neg hlv,rd_get hi,ws _ (by omega) (by omega)]
  have c1:(keys[i].size:Int)≤16:=by omega
  have c3:(i:Int)≤256:=by omega
  have c4:((i+1:Nat):Int)=(i:Int)+1:=by omega
  obtain ⟨e1,e2⟩:=eSum_inner hlv (vals:=vals) hk hl i (Nat.le_of_lt hi)
  rw [sz_take _ _ hi,eSum_succ,e3]
  exact sum_step1 _ _ _ _ _ c4 e1 e2 (sz_nonneg _) (Int.natCast_nonneg _) c1 (Int.natCast_nonneg _) c3
theorem further_false {high k:ByteArray}:furtherB high k=false↔high.toList=[]∨cb (L k) (L high) < 0:=by
 unfold furtherB
 rw [bl_neg]
 by_cases c1:high.toList=[] <;> by_cases c2:cb (L k) (L high) < 0 <;> simp [c1,c2]
theorem askV_ok {lv lsn rt:Int} {high:ByteArray} {keys vals:List ByteArray} {kids:List Int} {k:ByteArray} {num kind:Int} (hb:nodeB lv lsn rt high keys vals kids=true) (hk:ckey k=0) (hn:1≤num∧num≤4096) (h1:kind=0→lv=0) (h2:kind=1→lv≠0) (hf:furtherB high k=false):askV lv lsn rt high keys vals kids k ⟨#[]⟩ num kind=0:=by
 unfold askV
 rw [if_pos hb,if_pos hk,if_neg (by decide),if_neg (by omega),if_neg (by
  rintro (⟨a,b⟩|⟨a,b⟩)
  ·exact b (h1 a)
  ·exact h2 a b),hf]
 rfl
theorem at_unique {keys:List ByteArray} {k:ByteArray} {p q:Nat} (hp:At keys k p) (hq:At keys k q):p=q:=by
 rcases Nat.lt_trichotomy p q with h|h|h
 ·have h1:=hq.low p h
  have h2:=hp.here (by have:=hq.le;omega)
  omega
 ·exact h
 ·have h1:=hp.low q h
  have h2:=hq.here (by have:=hp.le;omega)
  omega
theorem parted_val {lv lsn rt:Int} {high:ByteArray} {keys vals:List ByteArray} {kids:List Int} (hl:keys.length*16≤140737488351232) (hv:vals.length*16≤140737488351232) (hk:kids.length*8≤140737488351232) (hg:∀ y ∈ keys,y.size≤140737488351232) (hb:nodeB lv lsn rt high keys vals kids=true) {s:ByteArray} {p:Nat} (hs:Sep high keys s p) (num:Int) (hn:1≤num∧num≤4096) (hi:lv≠0→p < keys.length∧cb (K keys p) (L s)=0) :
  Ev (fun n=>node_parted.f n lv lsn rt high keys vals kids s num) ((p:Int),0):=by
 have ha:=asked_ev lv lsn rt high keys vals kids hl hv hk hg s (⟨#[]⟩:ByteArray) num 2
 rw [askV_ok hb hs.ok hn (fun e=>absurd e (by decide)) (fun e=>absurd e (by decide)) (further_false.2 hs.low)] at ha
 have h0:=nodeB_lv hb
 obtain ⟨ks,_,_⟩:=nodeB_facts hb
 obtain ⟨q,hq,hpl⟩:=place_at ks s
 obtain rfl:=at_unique hs.at' hq
 by_cases e:lv=0
 ·exact Ev.bind ha (Ev.pos rfl (Ev.bindc hpl (Ev.neg (by omega) (Ev.now _))))
 ·rw [decide_eq_true (hi e)] at hpl
  exact Ev.bind ha (Ev.pos rfl (Ev.bindc hpl (Ev.pos (by omega) (Ev.pos rfl (Ev.now _)))))
def cnt (keys:List ByteArray) (k:ByteArray):Nat:=keys.countP fun x=>decide (cb (L x) (L k)≤0)
theorem cnt_high {k:ByteArray}:∀ (keys:List ByteArray),(∀ x ∈ keys,0 < cb (L x) (L k))→cnt keys k=0
 | [],_=>rfl
 | x::r,h=>by
  have h0:=h x List.mem_cons_self
  unfold cnt
  rw [List.countP_cons,if_neg (by simpa using h0)]
  exact cnt_high r (fun y hy=>h y (List.mem_cons_of_mem _ hy))
theorem cnt_low {k:ByteArray}:∀ (keys:List ByteArray),(∀ x ∈ keys,cb (L x) (L k)≤0)→cnt keys k=keys.length
 | [],_=>rfl
 | x::r,h=>by
  have h0:=h x List.mem_cons_self
  unfold cnt
  rw [List.countP_cons,if_pos (by simpa using h0)]
  have:=cnt_low r (fun y hy=>h y (List.mem_cons_of_mem _ hy))
  unfold cnt at this
  rw [this]
  rfl
theorem cnt_append (a b:List ByteArray) (k:ByteArray):cnt (a++b) k=cnt a k+cnt b k:=List.countP_append
theorem cnt_le (keys:List ByteArray) (k:ByteArray):cnt keys k≤keys.length:=List.countP_le_length
theorem at_take {keys:List ByteArray} {k:ByteArray} {p:Nat} (h:At keys k p):∀ x ∈ keys.take p,cb (L x) (L k) < 0:=by
 intro x hx
 obtain ⟨j,hj,rfl⟩:=List.getElem_of_mem hx
 rw [List.length_take] at hj
 have:=h.low j (by omega)
 rw [K_get (by omega)] at this
 rw [List.getElem_take]
 exact this
theorem at_drop {keys:List ByteArray} {k:ByteArray} {p:Nat} (h:At keys k p):∀ x ∈ keys.drop p,0≤cb (L x) (L k):=by
 intro x hx
 obtain ⟨j,hj,rfl⟩:=List.getElem_of_mem hx
 rw [List.length_drop] at hj
 rw [List.getElem_drop]
 have hh:0≤cb (K keys (p+j)) (L k):=by
  by_cases e:j=0
  ·subst e;exact h.here (by omega)
  ·have:=h.high (p+j) (by omega) (by omega);omega
 rw [K_get (by omega)] at hh
 exact hh
theorem at_drop1 {keys:List ByteArray} {k:ByteArray} {p:Nat} (h:At keys k p):∀ x ∈ keys.drop (p+1),0 < cb (L x) (L k):=by
 intro x hx
 obtain ⟨j,hj,rfl⟩:=List.getElem_of_mem hx
 rw [List.length_drop] at hj
 rw [List.getElem_drop]
 have:=h.high (p+1+j) (by omega) (by omega)
 rw [K_get (by omega)] at this
 exact this
theorem cnt_at {keys:List ByteArray} {k:ByteArray} {p:Nat} (h:At keys k p):cnt keys k=if p < keys.length∧cb (K keys p) (L k)=0 then p+1 else p:=by
 have hle:=h.le
 by_cases c:p < keys.length∧cb (K keys p) (L k)=0
 ·rw [if_pos c]
  have e:keys=keys.take (p+1)++keys.drop (p+1):=(List.take_append_drop _ _).symm
  have q:cnt keys k=cnt (keys.take (p+1)) k+cnt (keys.drop (p+1)) k:=by rw [← cnt_append,← e]
  rw [q,cnt_high _ (at_drop1 h),cnt_low _ ?_,List.length_take]
  ·omega
  ·intro x hx
   rw [← take_more c.1] at hx
   rcases List.mem_append.1 hx with hx|hx
   ·have:=at_take h x hx;omega
   ·rw [List.mem_singleton.1 hx]
    have:=c.2
    rw [K_get c.1] at this
    omega
 ·rw [if_neg c]
  have e:keys=keys.take p++keys.drop p:=(List.take_append_drop _ _).symm
  have q:cnt keys k=cnt (keys.take p) k+cnt (keys.drop p) k:=by rw [← cnt_append,← e]
  rw [q,cnt_low _ (fun x hx=>by have:=at_take h x hx;omega),cnt_high _ ?_,List.length_take]
  ·omega
  ·intro x hx
   obtain ⟨j,hj,rfl⟩:=List.getElem_of_mem hx
   rw [List.length_drop] at hj
   rw [List.getElem_drop]
   have hh:0 < cb (K keys (p+j)) (L k):=by
    by_cases e:j=0
    ·subst e
     have h1:=h.here (by omega)
     have h2:cb (K keys p) (L k)≠0:=fun e=>c ⟨by omega,e⟩
     have:p+0=p:=rfl
     rw [this]
     omega
    ·exact h.high (p+j) (by omega) (by omega)
   rw [K_get (by omega)] at hh
   exact hh
theorem kid_val {lv lsn rt:Int} {high:ByteArray} {keys:List ByteArray} {kids:List Int} (hl:keys.length≤256) (hkl:kids.length=keys.length+1) (hg:∀ y ∈ keys,y.size≤140737488351232) (hb:nodeB lv lsn rt high keys [] kids=true) (hlv:lv≠0) {k:ByteArray} (hk:ckey k=0) (hf:furtherB high k=false) :
  Ev (fun n=>node_Kid.f n lv lsn rt high keys [] kids k) (rd kids (cnt keys k:Int),0):=by
 have ha:=asked_ev lv lsn rt high keys [] kids (by omega) (by decide) (by omega) hg k (⟨#[]⟩:ByteArray) 1 1
 rw [askV_ok hb hk (by decide) (fun e=>absurd e (by decide)) (fun _=>hlv) hf] at ha
 obtain ⟨ks,_,_⟩:=nodeB_facts hb
 obtain ⟨p,hp,hpl⟩:=place_at ks k
 have hc:=cnt_at hp
 have hle:=hp.le
 by_cases c:p < keys.length∧cb (K keys p) (L k)=0
 ·rw [if_pos c] at hc
  rw [decide_eq_true c] at hpl
  have hw:wrap64 ((p:Int)+1)=((p+1:Nat):Int):=by rw [w64 (by omega) (by omega)];omega
  rw [hc,← hw]
  exact Ev.bind ha (Ev.pos rfl (Ev.bindc hpl (Ev.pos rfl (Ev.pos (by dsimp only;omega) (Ev.pos (by dsimp only;omega) (Ev.now _))))))
 ·rw [if_neg c] at hc
  rw [decide_eq_false c] at hpl
  rw [hc]
  exact Ev.bind ha (Ev.pos rfl (Ev.bindc hpl (Ev.neg (fun e=>by cases e) (Ev.pos (by dsimp only;omega) (Ev.pos (by dsimp only;omega) (Ev.now _))))))
theorem getE_append (k:ByteArray):∀ a b:List Ent,getE k (a++b)=match getE k a with|some v=>some v|none=>getE k b
 | [],b=>rfl
 | e::a,b=>by
  simp only [List.cons_append,getE]
  by_cases c:cb (L e.1) (L k)=0
  ·rw [if_pos c,if_pos c]
  ·rw [if_neg c,if_neg c,getE_append k a b]
theorem getE_none {k:ByteArray}:∀ a:List Ent,(∀ x ∈ a.map Prod.fst,cb (L x) (L k)≠0)→getE k a=none
 | [],_=>rfl
 | e::a,h=>by
  simp only [getE]
  rw [if_neg (h e.1 (by simp))]
  exact getE_none a (fun x hx=>h x (by simp only [List.map_cons];exact List.mem_cons_of_mem _ hx))
end Go.Proofs.Ytcocmpblmkdmjaa.Pure
