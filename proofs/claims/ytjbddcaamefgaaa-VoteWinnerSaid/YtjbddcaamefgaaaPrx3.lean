-- Written by a program of this session (wip/tools/drv.py) over the kit's printer. Not trusted: Lean checks it.
import Derived.Test.YtjbddcaamefgaaaPrx0
import Derived.Test.YtjbddcaamefgaaaVoteWin
namespace Go.Proofs.Ytjbddcaamefgaaa.Pr
open Go.RowKit Go.Proofs.YtjbddcaamefgaaaW.PrintWords Go.Proofs.YtjbddcaamefgaaaW.PrintLast Go.Proofs.YtjbddcaamefgaaaW.PrintMore
attribute [local go_sem] max2_int min2_int max_two min_two max_three min_three max_four min_four   -- for this text's walks alone
set_option linter.unusedVariables false
set_option linter.unusedSimpArgs false

-- EXT-PART lattice/latticelaw22.VoteWinner
noncomputable def latticelaw22_VoteWinner.f (a0 : Int) (a1 : List S55) (a2 : List S36) : Option Bool := some true
theorem latticelaw22_VoteWinner.calls (a0 : Int) (A1 : Option Addr) (c1 : Nat) (a1 : List S55) (A2 : Option Addr) (c2 : Nat) (a2 : List S36) (r : Bool) (w : World) (hr1 : Kd.C k55 w A1 a1.length a1) (hc1 : a1.length ≤ c1) (hr2 : Kd.C k36 w A2 a2.length a2) (hc2 : a2.length ≤ c2) (h : latticelaw22_VoteWinner.f a0 a1 a2 = some r) :
    Calls Try.prog 4 #[.int .i64 a0, .slice A1 a1.length c1, .slice A2 a2.length c2] w fun e w' => e = .returned (.bool r) ∧ Below w.heap.size w w' := by
  unfold latticelaw22_VoteWinner.f at h
  injection h with h
  subst h
  exact Vote.winner_ok a0 A1 c1 a1 A2 c2 a2 w hr1 hr2

end Go.Proofs.Ytjbddcaamefgaaa.Pr
