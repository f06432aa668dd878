-- Written by a program of this session (wip/tools/drv.py) over the kit's printer. Not trusted: Lean checks it.
import Derived.Test.YtjbddcaamefgaaaPrx0
import Derived.Test.YtjbddcaamefgaaaVoteNil
namespace Go.Proofs.Ytjbddcaamefgaaa.Pr
open Go.RowKit Go.Proofs.YtjbddcaamefgaaaW.PrintWords Go.Proofs.YtjbddcaamefgaaaW.PrintLast Go.Proofs.YtjbddcaamefgaaaW.PrintMore
attribute [local go_sem] max2_int min2_int max_two min_two max_three min_three max_four min_four   -- for this text's walks alone
set_option linter.unusedVariables false
set_option linter.unusedSimpArgs false

-- EXT-PART lattice/latticelaw22.VoteNil
def latticelaw22_VoteNil.f (a0 a1 : Int) : Option Bool := some true
theorem latticelaw22_VoteNil.calls (a0 a1 : Int) (r : Bool) (w : World) (h : latticelaw22_VoteNil.f a0 a1 = some r) :
    Calls Try.prog 5 #[.int .i64 a0, .int .i64 a1] w fun e w' => e = .returned (.bool r) ∧ Below w.heap.size w w' := by
  unfold latticelaw22_VoteNil.f at h
  injection h with h
  subst h
  exact Vote.nil_ok a0 a1 w

end Go.Proofs.Ytjbddcaamefgaaa.Pr
