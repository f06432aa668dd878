-- A part of the text RecChkP, thinned by a program of this session.
import Derived.Test.YtgjibcfkjaedfaaTHRecIR
import Derived.Test.YtgjibcfkjaedfaaTHPrx3
import Derived.Test.YtgjibcfkjaedfaaTHPrxS
namespace Go.Proofs.Ytgjibcfkjaedfaa.Rec
open Go.RowKit Go.Proofs.YtgjibcfkjaedfaaW.PrintWords Go.Proofs.YtgjibcfkjaedfaaW.PrintLast Go.Proofs.YtgjibcfkjaedfaaW.PrintMore Go.Proofs.Ytgjibcfkjaedfaa.Wire Go.Proofs.Ytgjibcfkjaedfaa.Crc Go.Proofs.Ytgjibcfkjaedfaa.Pr Go.Proofs.Ytgjibcfkjaedfaa.Page
open Go.Proofs.Ytgjibcfkjaedfaa.Back (AllB)
open Go.Proofs.Ytgjibcfkjaedfaa.Pure
set_option linter.unusedVariables false
set_option linter.unusedSimpArgs false
theorem below_past {w w1:World} {n:Nat} (hB:Below (w.drewN n).heap.size (w.drewN n) w1):Below w.heap.size w w1:=below_from2 (pw_below_drewN (Below.refl _ _) n) (Nat.le_refl _) hB
theorem paged_f (n:Int):record_paged.f n=some (pagedB n):=by
 unfold record_paged.f pagedB
 by_cases h1:n≥1
 ·rw [if_pos h1]
  by_cases h2:n≤4096
  ·rw [decide_eq_true h2,decide_eq_true ⟨h1,h2⟩]
  ·rw [decide_eq_false h2,decide_eq_false (fun h=>h2 h.2)]
 ·rw [if_neg h1,decide_eq_false (fun h=>h1 h.1)]
theorem value_f (x:ByteArray):key_Value.f x=some (if badV x=true then 51 else 0):=by
 unfold key_Value.f badV
 by_cases h:(x.size:Int) > 32
 ·rw [if_pos h,decide_eq_true h];rfl
 ·rw [if_neg h,decide_eq_false h];rfl
end Go.Proofs.Ytgjibcfkjaedfaa.Rec
