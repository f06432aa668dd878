-- A part of the text CrcMix, thinned by a program of this session.
import Derived.Test.YthfhkcicpfnedaaTPageTurnedCrcLaw
import Derived.StillTailTactics
namespace Go.Proofs.Ythfhkcicpfnedaa.Crc
open Go.RowKit Go.Proofs.YthfhkcicpfnedaaW.PrintWords Go.Proofs.YthfhkcicpfnedaaW.PrintLast Go.Proofs.YthfhkcicpfnedaaW.PrintMore Go.Proofs.Ythfhkcicpfnedaa.Wire
open Go.Proofs.Ythfhkcicpfnedaa.Back (AllB numB numB_small)
set_option linter.unusedVariables false
set_option linter.unusedSimpArgs false
theorem crcT_xor (a b:Nat):crcT (a ^^^ b)=crcT a ^^^ crcT b:=by
 unfold crcT
 have hp:=Nat.xor_mod_two_eq_one (a:=a) (b:=b)
 rw [half_xor]
 by_cases h1:a % 2=1 <;> by_cases h2:b % 2=1
 ·rw [if_pos h1,if_pos h2,if_neg (by rw [hp];simp [h1,h2]),Nat.xor_zero]
  generalize a / 2=x
  generalize b / 2=y
  rw [Nat.xor_assoc x,Nat.xor_comm 3988292384,Nat.xor_assoc y,Nat.xor_self,Nat.xor_zero]
 ·rw [if_pos h1,if_neg h2,if_pos (by rw [hp];simp [h1,h2]),Nat.xor_zero,Nat.xor_assoc,Nat.xor_comm (b / 2),Nat.xor_assoc]
 ·rw [if_neg h1,if_pos h2,if_pos (by rw [hp];simp [h1,h2]),Nat.xor_zero,Nat.xor_assoc]
 ·rw [if_neg h1,if_neg h2,if_neg (by rw [hp];simp [h1,h2]),Nat.xor_zero,Nat.xor_zero,Nat.xor_zero]
theorem crcTn_xor (a b:Nat):∀ k,crcTn k (a ^^^ b)=crcTn k a ^^^ crcTn k b
 | 0=>rfl
 | k+1=>by rw [crcTn,crcTn_xor a b k,crcT_xor];rfl
theorem xor_lt8 {a b:Nat} (h:a < 256) (k:b < 256):a ^^^ b < 256:=Nat.xor_lt_two_pow (n:=8) h k
theorem getD_lt {xs:List Int} (hb:AllB xs) (i:Nat):(xs.getD i 0).toNat < 256:=by
 rw [List.getD_eq_getElem?_getD]
 rcases h:xs[i]? with _|x
 ·simp
 ·have:=hb x (List.mem_of_getElem? h)
  simp
  omega
end Go.Proofs.Ythfhkcicpfnedaa.Crc
