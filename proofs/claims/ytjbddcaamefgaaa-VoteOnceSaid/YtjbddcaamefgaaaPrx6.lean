-- Written by a program of this session (wip/tools/drv.py) over the kit's printer. Not trusted: Lean checks it.
import Derived.Test.YtjbddcaamefgaaaPrx0
import Derived.Test.YtjbddcaamefgaaaVoteOnce
namespace Go.Proofs.Ytjbddcaamefgaaa.Pr
open Go.RowKit Go.Proofs.YtjbddcaamefgaaaW.PrintWords Go.Proofs.YtjbddcaamefgaaaW.PrintLast Go.Proofs.YtjbddcaamefgaaaW.PrintMore
attribute [local go_sem] max2_int min2_int max_two min_two max_three min_three max_four min_four   -- for this text's walks alone
set_option linter.unusedVariables false
set_option linter.unusedSimpArgs false

-- EXT-PART lattice/latticelaw22.VoteOnce
noncomputable def latticelaw22_VoteOnce.f (a0 : List S38) : Option Bool := @ite _ (a0.length ≤ 2513169434843) (Classical.propDecidable _) (some true) none
theorem latticelaw22_VoteOnce.calls (A0 : Option Addr) (c0 : Nat) (a0 : List S38) (r : Bool) (w : World) (hr0 : Kd.C k38 w A0 a0.length a0) (hc0 : a0.length ≤ c0) (h : latticelaw22_VoteOnce.f a0 = some r) :
    Calls Try.prog 7 #[.slice A0 a0.length c0] w fun e w' => e = .returned (.bool r) ∧ Below w.heap.size w w' := by
  unfold latticelaw22_VoteOnce.f at h
  split at h
  · rename_i hn
    injection h with h
    subst h
    exact Vote.once_ok A0 c0 a0 w hr0 hn
  · cases h

end Go.Proofs.Ytjbddcaamefgaaa.Pr
