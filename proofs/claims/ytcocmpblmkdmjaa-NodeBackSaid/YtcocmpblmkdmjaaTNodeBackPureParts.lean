-- A part of the text PureParts, thinned by a program of this session.
import Derived.Test.YtcocmpblmkdmjaaTNodeBackPureLooks
import Derived.Test.YtcocmpblmkdmjaaTNodeBackPureNode
import Derived.Test.YtcocmpblmkdmjaaTNodeBackPrx3
import Derived.Test.YtcocmpblmkdmjaaTNodeBackPrx0
import Derived.Test.YtcocmpblmkdmjaaTNodeBackPrx4
import Derived.Test.YtcocmpblmkdmjaaTNodeBackNodePartsW
import Derived.Test.YtcocmpblmkdmjaaTNodeBackPrx8
import Derived.Test.YtcocmpblmkdmjaaTNodeBackPrx11
namespace Go.Proofs.Ytcocmpblmkdmjaa.Pure
set_option linter.unusedVariables false
open Go.RowKit Go.Proofs.Ytcocmpblmkdmjaa.Pr Go.Proofs.YtcocmpblmkdmjaaW.PrintWords Go.Proofs.YtcocmpblmkdmjaaW.PrintLast
theorem sz_le (c:Nat):∀ l:List ByteArray,(∀ y ∈ l,y.size≤c)→2*(l.length:Int)≤sz l∧sz l≤(2+(c:Int))*(l.length:Int)
 | [],_=>by simp [sz]
 | x::l,h=>by
  have h1:=h x (by simp)
  have ⟨h2,h3⟩:=sz_le c l (fun y hy=>h y (by simp [hy]))
  simp only [sz,List.length_cons]
  refine ⟨by omega,?_⟩
  have:(2+(c:Int))*((l.length+1:Nat):Int)=(2+(c:Int))*(l.length:Int)+(2+(c:Int)):=by
   rw [Int.natCast_add,Int.mul_add];simp
  rw [this]
  omega
theorem keys_small {high:ByteArray} {keys:List ByteArray} (h:kAll high keys keys.length 0=true):∀ y ∈ keys,y.size≤16:=by
 intro y hy
 obtain ⟨j,hj,rfl⟩:=List.getElem_of_mem hy
 have:=kAll_get _ 0 h j (Nat.zero_le _) (by omega)
 unfold kB at this
 simp only [Bool.and_eq_true,decide_eq_true_eq] at this
 have q:=this.1
 rw [rd_get hj] at q
 unfold ckey at q
 by_cases z:keys[j].size=0∨16 < keys[j].size
 ·rw [if_pos z] at q;cases q
 ·omega
theorem vals_small {vals:List ByteArray} (h:(!(vals.any badV))=true):∀ y ∈ vals,y.size≤32:=by
 intro y hy
 by_cases c:y.size≤32
 ·exact c
 ·exfalso
  have:vals.any badV=true:=List.any_eq_true.2 ⟨y,hy,by unfold badV;rw [decide_eq_true];omega⟩
  rw [this] at h
  cases h
theorem nodeB_small {lv lsn rt:Int} {high:ByteArray} {keys vals:List ByteArray} {kids:List Int} (h:nodeB lv lsn rt high keys vals kids=true) (hh:high.size≤140737488351232) (hl:keys.length*16≤140737488351232) :
  keys.length≤256∧(lv=0→kids=[]∧vals.length=keys.length)∧(lv≠0→vals=[]∧kids.length=keys.length+1):=by
 have h0:=h
 unfold nodeB at h
 simp only [Bool.and_eq_true,decide_eq_true_eq] at h
 obtain ⟨_,_,_,_,hp,hs,ha⟩:=h
 have hk:=keys_small ha
 obtain ⟨s1,s2⟩:=sz_le 16 keys hk
 unfold szN at hs
 unfold partsB at hp
 by_cases e:lv=0
 ·rw [if_pos e] at hp hs
  simp only [Bool.and_eq_true,decide_eq_true_eq] at hp
  obtain ⟨p1,p2,p3⟩:=hp
  obtain ⟨v1,v2⟩:=sz_le 32 vals (vals_small p3)
  rw [w64 (by omega) (by omega)] at hs
  exact ⟨by omega,fun _=>⟨List.length_eq_zero_iff.1 p2,p1⟩,fun z=>absurd e z⟩
 ·rw [if_neg e] at hp hs
  simp only [Bool.and_eq_true,decide_eq_true_eq] at hp
  obtain ⟨p1,p2,p3⟩:=hp
  rw [w64 (by omega) (by omega)] at hs
  exact ⟨by omega,fun z=>absurd z e,fun _=>⟨List.length_eq_zero_iff.1 p2,p1⟩⟩
end Go.Proofs.Ytcocmpblmkdmjaa.Pure
