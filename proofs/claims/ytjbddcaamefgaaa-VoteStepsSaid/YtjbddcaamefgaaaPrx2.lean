-- Written by a program of this session (wip/tools/drv.py) over the kit's printer. Not trusted: Lean checks it.
import Derived.Test.YtjbddcaamefgaaaPrx0
import Derived.Test.YtjbddcaamefgaaaVoteSteps
namespace Go.Proofs.Ytjbddcaamefgaaa.Pr
open Go.RowKit Go.Proofs.YtjbddcaamefgaaaW.PrintWords Go.Proofs.YtjbddcaamefgaaaW.PrintLast Go.Proofs.YtjbddcaamefgaaaW.PrintMore
attribute [local go_sem] max2_int min2_int max_two min_two max_three min_three max_four min_four   -- for this text's walks alone
set_option linter.unusedVariables false
set_option linter.unusedSimpArgs false

-- EXT-PART lattice/latticelaw22.VoteSteps
noncomputable def latticelaw22_VoteSteps.f (a0 a1 : Int) (a2 : List S38) : Option Bool := @ite _ (a2.length ≤ 140737488355328) (Classical.propDecidable _) (some true) none
theorem latticelaw22_VoteSteps.calls (a0 a1 : Int) (A1 : Option Addr) (c1 : Nat) (a2 : List S38) (r : Bool) (w : World) (hr1 : Kd.C k38 w A1 a2.length a2) (hc1 : a2.length ≤ c1) (h : latticelaw22_VoteSteps.f a0 a1 a2 = some r) :
    Calls Try.prog 3 #[.agg #[.int .i64 a0, .int .i64 a1], .slice A1 a2.length c1] w fun e w' => e = .returned (.bool r) ∧ Below w.heap.size w w' := by
  unfold latticelaw22_VoteSteps.f at h
  split at h
  · rename_i hn
    injection h with h
    subst h
    exact Vote.steps_ok a0 a1 A1 c1 a2 w hr1 hn
  · cases h

end Go.Proofs.Ytjbddcaamefgaaa.Pr
