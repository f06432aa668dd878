-- A part of the text PureLooks, thinned by a program of this session.
import Derived.Test.YtcocmpblmkdmjaaTNodeHalvesPureNode
import Derived.Test.YtcocmpblmkdmjaaTNodeHalvesPrx10
import Derived.Test.YtcocmpblmkdmjaaTNodeHalvesPrx15
import Derived.Test.YtcocmpblmkdmjaaTNodeHalvesPrx18
namespace Go.Proofs.Ytcocmpblmkdmjaa.Pure
set_option linter.unusedVariables false
open Go.RowKit Go.Proofs.Ytcocmpblmkdmjaa.Pr Go.Proofs.YtcocmpblmkdmjaaW.PrintWords Go.Proofs.YtcocmpblmkdmjaaW.PrintLast
theorem keyValue (x:ByteArray):key_Value.f x=some (if badV x=true then 51 else 0):=by
 unfold key_Value.f badV
 by_cases h:(x.size:Int) > 32
 ·rw [if_pos h,decide_eq_true h];rfl
 ·rw [if_neg h,decide_eq_false h];rfl
def furtherB (high k:ByteArray):Bool:=!(decide (high.toList=([]:List UInt8)))&&!(Op.bytesLess k.toList high.toList)
theorem further_ev (lv lsn rt:Int) (high:ByteArray) (keys vals:List ByteArray) (kids:List Int) (k:ByteArray):node_Further.f lv lsn rt high keys vals kids k=some (furtherB high k):=by
 unfold node_Further.f furtherB
 by_cases h:high.toList=([]:List UInt8)
 ·rw [if_pos h,decide_eq_true h];rfl
 ·rw [if_neg h,decide_eq_false h];rfl
def askV (lv lsn rt:Int) (high:ByteArray) (keys vals:List ByteArray) (kids:List Int) (k v:ByteArray) (num kind:Int):Int :=
 if nodeB lv lsn rt high keys vals kids=true then (if ckey k=0 then (if badV v=true then 51 else (if num < 1∨num > 4096 then 1 else (if (kind=0∧lv≠0)∨(kind=1∧lv=0) then 7 else (if furtherB high k=true then 71 else 0)))) else ckey k) else 70
theorem nodeB_lv {lv lsn rt:Int} {high:ByteArray} {keys vals:List ByteArray} {kids:List Int} (h:nodeB lv lsn rt high keys vals kids=true):0≤lv:=by
 unfold nodeB at h
 by_cases c:0≤lv
 ·exact c
 ·rw [decide_eq_false c,Bool.false_and,Bool.false_and] at h
  cases h
theorem asked_ev (lv lsn rt:Int) (high:ByteArray) (keys vals:List ByteArray) (kids:List Int) (hl:keys.length*16≤140737488351232) (hv:vals.length*16≤140737488351232) (hk:kids.length*8≤140737488351232) (hg:∀ y ∈ keys,y.size≤140737488351232) (k v:ByteArray) (num kind:Int):Ev (fun n=>node_asked.f n lv lsn rt high keys vals kids k v num kind) (askV lv lsn rt high keys vals kids k v num kind):=by
 unfold node_asked.f askV
 have hc:=check_ev lv lsn rt high keys vals kids hl hv
 by_cases hb:nodeB lv lsn rt high keys vals kids=true
 rotate_left
 ·rw [if_neg hb] at hc ⊢
  refine Ev.bind hc ?_
  exact Ev.neg (by decide) (Ev.now _)
 rw [if_pos hb] at hc ⊢
 have h0:=nodeB_lv hb
 refine Ev.bind hc (Ev.pos rfl (Ev.bindc (keyCheck _) ?_))
 by_cases c1:ckey k=0
 ·rw [if_pos c1]
  refine Ev.pos c1 ?_
  by_cases c2:badV v=true
  rotate_left
  ·rw [if_neg c2]
   refine Ev.bindc (show key_Value.f v=some 0 by rw [keyValue,if_neg c2]) (Ev.pos rfl ?_)
   have j2:∀ b:Bool,Ev (fun n=>node_asked.j2 n k b lv lsn rt high keys vals kids) (if b=true then 7 else if furtherB high k=true then 71 else 0):=fun b=>by
    refine Ev.step (fun _=>node_asked.j2.eq_2 _ _ _ _ _ _ _ _ _ _) ?_
    cases b
    ·rw [if_neg (by decide)]
     refine Ev.congr (f:=fun _=>some (if furtherB high k=true then 71 else 0)) (fun _=>?_) (Ev.now _)
     show (if false=true then some 7 else (node_Further.f lv lsn rt high keys vals kids k).bind fun t=>if t=true then some 71 else some 0)=_
     rw [if_neg (by decide),further_ev]
     show (if furtherB high k=true then some 71 else some 0)=_
     cases furtherB high k
     ·rfl
     ·rfl
    ·exact Ev.pos rfl (Ev.now _)
   have j1:∀ b:Bool,Ev (fun n=>node_asked.j1 n k kind b lv lsn rt high keys vals kids) (if b=true then 7 else if kind=1∧lv=0 then 7 else if furtherB high k=true then 71 else 0):=fun b=>by
    refine Ev.step (fun _=>node_asked.j1.eq_2 _ _ _ _ _ _ _ _ _ _ _) ?_
    cases b
    ·rw [if_neg (by decide)]
     refine Ev.neg (by decide) ?_
     by_cases q:kind=1
     ·refine Ev.pos q ?_
      by_cases z:lv=0
      ·have hj:=j2 (lv==0)
       rw [show (lv==0)=true by simp [z],if_pos rfl] at hj
       rw [if_pos ⟨q,z⟩,show (lv==0)=true by simp [z]]
       exact hj
      ·have hj:=j2 (lv==0)
       rw [show (lv==0)=false by simp [z],if_neg (by decide)] at hj
       rw [if_neg (fun h=>z h.2),show (lv==0)=false by simp [z]]
       exact hj
     ·have hj:=j2 false
      rw [if_neg (by decide)] at hj
      rw [if_neg (fun h=>q h.1)]
      exact Ev.neg q hj
    ·exact Ev.pos rfl (Ev.now _)
   have j0:∀ b:Bool,Ev (fun n=>node_asked.j0 n k kind b lv lsn rt high keys vals kids) (if b=true then 1 else if (kind=0∧lv≠0)∨(kind=1∧lv=0) then 7 else if furtherB high k=true then 71 else 0):=fun b=>by
    refine Ev.step (fun _=>node_asked.j0.eq_2 _ _ _ _ _ _ _ _ _ _ _) ?_
    cases b
    ·rw [if_neg (by decide)]
     refine Ev.neg (by decide) ?_
     by_cases q:kind=0
     ·refine Ev.pos q ?_
      by_cases z:lv=0
      ·have hj:=j1 (decide (lv > 0))
       rw [decide_eq_false (by omega),if_neg (by decide),if_neg (by omega)] at hj
       rw [if_neg (by omega),decide_eq_false (by omega)]
       exact hj
      ·have hj:=j1 (decide (lv > 0))
       rw [decide_eq_true (by omega),if_pos rfl] at hj
       rw [if_pos (by omega),decide_eq_true (by omega)]
       exact hj
     ·have hj:=j1 false
      rw [if_neg (by decide)] at hj
      refine Ev.neg q ?_
      by_cases z:kind=1∧lv=0
      ·rw [if_pos (.inr z)]
       rw [if_pos z] at hj
       exact hj
      ·rw [if_neg (fun h=>h.elim (fun h=>q h.1) z)]
       rw [if_neg z] at hj
       exact hj
    ·exact Ev.pos rfl (Ev.now _)
   by_cases n1:num < 1
   ·rw [if_pos (.inl n1)]
    have hj:=j0 true
    rw [if_pos rfl] at hj
    exact Ev.pos n1 hj
   ·refine Ev.neg n1 ?_
    by_cases n2:num > 4096
    ·rw [if_pos (.inr n2),decide_eq_true n2]
     have hj:=j0 true
     rw [if_pos rfl] at hj
     exact hj
    ·rw [if_neg (fun h=>h.elim n1 n2),decide_eq_false n2]
     have hj:=j0 false
     rw [if_neg (by decide)] at hj
     exact hj
  ·rw [if_pos c2]
   exact Ev.bindc (show key_Value.f v=some 51 by rw [keyValue,if_pos c2]) (Ev.neg (by decide) (Ev.now _))
 ·rw [if_neg c1]
  exact Ev.neg c1 (Ev.now _)
abbrev K (keys:List ByteArray) (j:Nat):List UInt8:=L (rdOf ByteArray.empty keys (j:Int))
theorem kAll_get {high:ByteArray} {keys:List ByteArray}:∀ (d i:Nat),kAll high keys d i=true→∀ j,i≤j→j < i+d→kB high keys j=true
 | 0,i,_,j,h1,h2=>by omega
 | d+1,i,h,j,h1,h2=>by
  rw [kAll,Bool.and_eq_true] at h
  by_cases e:j=i
  ·rw [e];exact h.1
  ·exact kAll_get d (i+1) h.2 j (by omega) (by omega)
theorem adj {high:ByteArray} {keys:List ByteArray} (h:kAll high keys keys.length 0=true) (j:Nat) (h1:0 < j) (h2:j < keys.length):cb (K keys (j - 1)) (K keys j) < 0:=by
 have hb:=kAll_get _ _ h j (Nat.zero_le _) (by omega)
 unfold kB at hb
 rw [decide_eq_false (show ¬ j=0 by omega),Bool.false_or,bl_neg] at hb
 simp only [Bool.and_eq_true,decide_eq_true_eq] at hb
 have e:(j:Int) - 1=((j - 1:Nat):Int):=by omega
 have h3:=hb.2.1
 rw [e] at h3
 exact h3
theorem cb_lt_trans {a b c:List UInt8} (h1:cb a b < 0) (h2:cb b c < 0):cb a c < 0:=by
 have h:=cb_trans a b c (by omega) (by omega)
 by_cases e:cb a c=0
 ·have:=(h.2 e).1
  omega
 ·omega
theorem mono {high:ByteArray} {keys:List ByteArray} (h:kAll high keys keys.length 0=true) (i:Nat):∀ d:Nat,i+d+1 < keys.length→cb (K keys i) (K keys (i+d+1)) < 0
 | 0,h2=>by
  have:=adj h (i+0+1) (by omega) h2
  exact this
 | d+1,h2=>cb_lt_trans (mono h i d (by omega)) (by
  have:=adj h (i+(d+1)+1) (by omega) h2
  exact this)
theorem mono2 {high:ByteArray} {keys:List ByteArray} (h:kAll high keys keys.length 0=true) (i j:Nat) (h1:i < j) (h2:j < keys.length):cb (K keys i) (K keys j) < 0:=by
 have:=mono h i (j - i - 1) (by omega)
 rwa [show i+(j - i - 1)+1=j by omega] at this
theorem geB_cb (k x:ByteArray):geB k x=decide (0≤cb (L x) (L k)):=by
 unfold geB
 rw [tl,tl,bl_cb]
 by_cases h:cb (L x) (L k) < 0
 ·rw [decide_eq_true h,decide_eq_false (by omega)];rfl
 ·rw [decide_eq_false h,decide_eq_true (by omega)];rfl
theorem place_split (keys:List ByteArray) (k:ByteArray):∀ (d i:Nat),i≤keys.length→keys.length - i=d→(∀ j,j < i→cb (K keys j) (L k) < 0) →
  ∃ p,p≤keys.length∧(∀ j,j < p→cb (K keys j) (L k) < 0)∧(p < keys.length→0≤cb (K keys p) (L k)):=by
 intro d
 induction d with
 | zero=>intro i h1 h2 h3;exact ⟨i,h1,h3,fun h=>by omega⟩
 | succ d ih =>
  intro i h1 h2 h3
  by_cases c:0≤cb (K keys i) (L k)
  ·exact ⟨i,h1,h3,fun _=>c⟩
  ·exact ih (i+1) (by omega) (by omega) (fun j hj=>by
    by_cases e:j=i
    ·rw [e];omega
    ·exact h3 j (by omega))
theorem place_ev (keys:List ByteArray) (k:ByteArray):∃ p,p≤keys.length∧(∀ j,j < p→cb (K keys j) (L k) < 0)∧(p < keys.length→0≤cb (K keys p) (L k))∧key_Place.f keys k=some ((p:Int),decide (p < keys.length∧cb (K keys p) (L k)=0)):=by
 obtain ⟨p,h1,h2,h3⟩:=place_split keys k _ 0 (Nat.zero_le _) rfl (fun j hj=>absurd hj (Nat.not_lt_zero _))
 refine ⟨p,h1,h2,h3,?_⟩
 have hf:∀ j,j < p→geB k (rdOf ByteArray.empty keys (j:Nat))=false:=fun j hj=>by
  rw [geB_cb]
  exact decide_eq_false (by have:=h2 j hj;show ¬ 0≤cb (K keys j) (L k);omega)
 unfold key_Place.f
 by_cases c:p < keys.length
 ·rw [findGe_hit k keys p c (by rw [geB_cb];exact decide_eq_true (h3 c)) hf,if_neg (by omega)]
  congr 2
  rw [tl,tl]
  by_cases e:L (rdOf ByteArray.empty keys (p:Int))=L k
  ·rw [decide_eq_true ⟨c,(cb_zero _ _).2 e⟩]
   exact beq_iff_eq.mpr e
  ·rw [decide_eq_false (fun h=>e ((cb_zero _ _).1 h.2))]
   exact beq_eq_false_iff_ne.mpr e
 ·have hp:p=keys.length:=by omega
  rw [findGe_miss k keys (by rw [← hp];exact hf),if_pos (by decide),decide_eq_false (fun h=>c h.1),hp]
theorem behind {high:ByteArray} {keys:List ByteArray} {k:ByteArray} {p:Nat} (h:kAll high keys keys.length 0=true) (h3:p < keys.length→0≤cb (K keys p) (L k)) (j:Nat) (h1:p < j) (h2:j < keys.length):0 < cb (K keys j) (L k):=by
 have a:=mono2 h p j h1 h2
 have b:=h3 (by omega)
 have n1:=cb_neg (K keys p) (K keys j)
 have n2:=cb_neg (K keys p) (L k)
 have n3:=cb_neg (K keys j) (L k)
 by_cases c:0 < cb (K keys j) (L k)
 ·exact c
 ·have t:=cb_trans (K keys p) (K keys j) (L k) (by omega) (by omega)
  have e:cb (K keys p) (L k)=0:=by omega
  have:=(t.2 e).1
  omega
theorem nodeB_facts {lv lsn rt:Int} {high:ByteArray} {keys vals:List ByteArray} {kids:List Int} (h:nodeB lv lsn rt high keys vals kids=true):kAll high keys keys.length 0=true∧(lv=0→vals.length=keys.length)∧(lv≠0→kids.length=keys.length+1):=by
 unfold nodeB at h
 simp only [Bool.and_eq_true] at h
 have hp:=h.2.2.2.2.1
 refine ⟨h.2.2.2.2.2.2,fun e=>?_,fun e=>?_⟩
 ·unfold partsB at hp
  rw [if_pos e] at hp
  simp only [Bool.and_eq_true,decide_eq_true_eq] at hp
  exact hp.1
 ·unfold partsB at hp
  rw [if_neg e] at hp
  simp only [Bool.and_eq_true,decide_eq_true_eq] at hp
  exact hp.1
theorem askV_zero {lv lsn rt:Int} {high:ByteArray} {keys vals:List ByteArray} {kids:List Int} {k v:ByteArray} {num kind:Int} (h:askV lv lsn rt high keys vals kids k v num kind=0):nodeB lv lsn rt high keys vals kids=true∧(kind=0→lv=0)∧(kind=1→lv≠0):=by
 unfold askV at h
 by_cases hb:nodeB lv lsn rt high keys vals kids=true
 ·rw [if_pos hb] at h
  by_cases c1:ckey k=0
  ·rw [if_pos c1] at h
   by_cases c2:badV v=true
   ·rw [if_pos c2] at h;cases h
   ·rw [if_neg c2] at h
    by_cases c3:num < 1∨num > 4096
    ·rw [if_pos c3] at h;cases h
    ·rw [if_neg c3] at h
     by_cases c4:(kind=0∧lv≠0)∨(kind=1∧lv=0)
     ·rw [if_pos c4] at h;cases h
     ·refine ⟨hb,fun e=>?_,fun e z=>c4 (.inr ⟨e,z⟩)⟩
      by_cases z:lv=0
      ·exact z
      ·exact absurd (.inl ⟨e,z⟩) c4
  ·rw [if_neg c1] at h
   exact absurd h c1
 ·rw [if_neg hb] at h
  cases h
end Go.Proofs.Ytcocmpblmkdmjaa.Pure
