-- A part of the text PureParts, thinned by a program of this session.
import Derived.Test.YtcocmpblmkdmjaaTNodeHalvesPureLooks
import Derived.Test.YtcocmpblmkdmjaaTNodeHalvesPureBtw
import Derived.Test.YtcocmpblmkdmjaaTNodeHalvesNodePartsW
import Derived.Test.YtcocmpblmkdmjaaTNodeHalvesPrx4
import Derived.Test.YtcocmpblmkdmjaaTNodeHalvesPrx8
import Derived.Test.YtcocmpblmkdmjaaTNodeHalvesPrx0
import Derived.Test.YtcocmpblmkdmjaaTNodeHalvesPrx10
namespace Go.Proofs.Ytcocmpblmkdmjaa.Pure
set_option linter.unusedVariables false
open Go.RowKit Go.Proofs.Ytcocmpblmkdmjaa.Pr Go.Proofs.YtcocmpblmkdmjaaW.PrintWords Go.Proofs.YtcocmpblmkdmjaaW.PrintLast
theorem sz_le (c:Nat):∀ l:List ByteArray,(∀ y ∈ l,y.size≤c)→2*(l.length:Int)≤sz l∧sz l≤(2+(c:Int))*(l.length:Int)
 | [],_=>by simp [sz]
 | x::l,h=>by
  have h1:=h x (by simp)
  have ⟨h2,h3⟩:=sz_le c l (fun y hy=>h y (by simp [hy]))
  simp only [sz,List.length_cons]
  refine ⟨by omega,?_⟩
  have:(2+(c:Int))*((l.length+1:Nat):Int)=(2+(c:Int))*(l.length:Int)+(2+(c:Int)):=by
   rw [Int.natCast_add,Int.mul_add];simp
  rw [this]
  omega
theorem keys_small {high:ByteArray} {keys:List ByteArray} (h:kAll high keys keys.length 0=true):∀ y ∈ keys,y.size≤16:=by
 intro y hy
 obtain ⟨j,hj,rfl⟩:=List.getElem_of_mem hy
 have:=kAll_get _ 0 h j (Nat.zero_le _) (by omega)
 unfold kB at this
 simp only [Bool.and_eq_true,decide_eq_true_eq] at this
 have q:=this.1
 rw [rd_get hj] at q
 unfold ckey at q
 by_cases z:keys[j].size=0∨16 < keys[j].size
 ·rw [if_pos z] at q;cases q
 ·omega
theorem vals_small {vals:List ByteArray} (h:(!(vals.any badV))=true):∀ y ∈ vals,y.size≤32:=by
 intro y hy
 by_cases c:y.size≤32
 ·exact c
 ·exfalso
  have:vals.any badV=true:=List.any_eq_true.2 ⟨y,hy,by unfold badV;rw [decide_eq_true];omega⟩
  rw [this] at h
  cases h
theorem nodeB_small {lv lsn rt:Int} {high:ByteArray} {keys vals:List ByteArray} {kids:List Int} (h:nodeB lv lsn rt high keys vals kids=true) (hh:high.size≤140737488351232) (hl:keys.length*16≤140737488351232) :
  keys.length≤256∧(lv=0→kids=[]∧vals.length=keys.length)∧(lv≠0→vals=[]∧kids.length=keys.length+1):=by
 have h0:=h
 unfold nodeB at h
 simp only [Bool.and_eq_true,decide_eq_true_eq] at h
 obtain ⟨_,_,_,_,hp,hs,ha⟩:=h
 have hk:=keys_small ha
 obtain ⟨s1,s2⟩:=sz_le 16 keys hk
 unfold szN at hs
 unfold partsB at hp
 by_cases e:lv=0
 ·rw [if_pos e] at hp hs
  simp only [Bool.and_eq_true,decide_eq_true_eq] at hp
  obtain ⟨p1,p2,p3⟩:=hp
  obtain ⟨v1,v2⟩:=sz_le 32 vals (vals_small p3)
  rw [w64 (by omega) (by omega)] at hs
  exact ⟨by omega,fun _=>⟨List.length_eq_zero_iff.1 p2,p1⟩,fun z=>absurd e z⟩
 ·rw [if_neg e] at hp hs
  simp only [Bool.and_eq_true,decide_eq_true_eq] at hp
  obtain ⟨p1,p2,p3⟩:=hp
  rw [w64 (by omega) (by omega)] at hs
  exact ⟨by omega,fun z=>absurd z e,fun _=>⟨List.length_eq_zero_iff.1 p2,p1⟩⟩
def eS (lv:Int) (keys vals:List ByteArray) (i:Nat):Int :=
 if lv=0 then wrap64 ((wrap64 (4+((rdOf ByteArray.empty keys (i:Int)).size:Int)))+((rdOf ByteArray.empty vals (i:Int)).size:Int)) else wrap64 (6+((rdOf ByteArray.empty keys (i:Int)).size:Int))
def eSum (lv:Int) (keys vals:List ByteArray):Nat→Int
 | 0=>0
 | i+1=>wrap64 (eSum lv keys vals i+eS lv keys vals i)
def eLst (lv:Int) (keys vals:List ByteArray) (n:Nat):List Int:=(List.range n).map (eS lv keys vals)
theorem eLst_len (lv:Int) (keys vals:List ByteArray) (n:Nat):(eLst lv keys vals n).length=n:=by simp [eLst]
theorem eLst_succ (lv:Int) (keys vals:List ByteArray) (n:Nat):eLst lv keys vals n++[eS lv keys vals n]=eLst lv keys vals (n+1):=by simp [eLst,List.range_succ]
theorem eLst_rd (lv:Int) (keys vals:List ByteArray) (n i:Nat) (h:i < n):rd (eLst lv keys vals n) (i:Int)=eS lv keys vals i:=by
 rw [rdI_get (by rw [eLst_len];exact h)]
 simp [eLst]
theorem eS_wrap (lv:Int) (keys vals:List ByteArray) (i:Nat):wrap64 (eS lv keys vals i)=eS lv keys vals i:=by
 unfold eS
 by_cases h:lv=0
 ·rw [if_pos h,wrap_idem]
 ·rw [if_neg h,wrap_idem]
theorem eSum_one (lv:Int) (keys vals:List ByteArray):eSum lv keys vals 1=eS lv keys vals 0:=by
 show wrap64 (0+eS lv keys vals 0)=_
 rw [Int.zero_add,eS_wrap]
theorem parting_l0 (lv lsn rt:Int) (high:ByteArray) (keys vals:List ByteArray) (kids:List Int) (hl:keys.length≤256) (h2:2≤keys.length) (hv:lv=0→vals.length=keys.length) (R:Int)
  (hR:Ev (fun k=>node_parting.l1 k (eLst lv keys vals keys.length) (eSum lv keys vals keys.length) 1 (eSum lv keys vals 1)) R):∀ (d i:Nat),i≤keys.length→keys.length - i=d →
  Ev (fun k=>node_parting.l0 k (eLst lv keys vals i) (eSum lv keys vals i) keys (keys.length:Int) (i:Int) lv lsn rt high keys vals kids) R:=by
 intro d
 induction d with
 | zero =>
  intro i h1 h2
  obtain rfl:i=keys.length:=by omega
  refine Ev.step (fun _=>node_parting.l0.eq_2 _ _ _ _ _ _ _ _ _ _ _ _ _) ?_
  refine Ev.neg (by omega) (Ev.pos (by rw [eLst_len];omega) ?_)
  rw [eSum_one,← eLst_rd lv keys vals keys.length 0 (by omega)] at hR
  exact hR
 | succ d ih =>
  intro i h1 h2
  have ih:=ih (i+1) (by omega) (by omega)
  refine Ev.step (fun _=>node_parting.l0.eq_2 _ _ _ _ _ _ _ _ _ _ _ _ _) ?_
  refine Ev.pos (by omega) (Ev.pos (by omega) (Ev.pos (by omega) ?_))
  rw [← eLst_succ] at ih
  by_cases e:lv=0
  ·have:=hv e
   refine Ev.pos e (Ev.pos (by omega) (Ev.pos (by rw [eLst_len];omega) ?_))
   rw [w64 (x:=(i:Int)+1) (by omega) (by omega)]
   have q:wrap64 ((wrap64 (4+((rdOf ByteArray.empty keys (i:Int)).size:Int)))+((rdOf ByteArray.empty vals (i:Int)).size:Int))=eS lv keys vals i:=by unfold eS;rw [if_pos e]
   rw [q]
   exact ih
  ·refine Ev.neg e (Ev.pos (by rw [eLst_len];omega) ?_)
   rw [w64 (x:=(i:Int)+1) (by omega) (by omega)]
   have q:wrap64 (6+((rdOf ByteArray.empty keys (i:Int)).size:Int))=eS lv keys vals i:=by unfold eS;rw [if_neg e]
   rw [q]
   exact ih
def sepK (lv:Int) (keys:List ByteArray) (p:Nat):ByteArray :=
 if lv > 0 then rdOf ByteArray.empty keys (p:Int) else (rdOf ByteArray.empty keys (p:Int)).extract 0 (com (K keys (p - 1)) (K keys p)+1)
end Go.Proofs.Ytcocmpblmkdmjaa.Pure
