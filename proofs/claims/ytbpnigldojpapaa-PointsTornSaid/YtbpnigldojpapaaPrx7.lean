-- Written by a program of this session (wip/tools/drv.py) over the kit's printer. Not trusted: Lean checks it.
import Derived.Test.YtbpnigldojpapaaPrx0
import Derived.Test.YtbpnigldojpapaaPointsTorn
namespace Go.Proofs.Ytbpnigldojpapaa.Pr
open Go.RowKit Go.Proofs.YtbpnigldojpapaaW.PrintWords Go.Proofs.YtbpnigldojpapaaW.PrintLast Go.Proofs.YtbpnigldojpapaaW.PrintMore
attribute [local go_sem] max2_int min2_int max_two min_two max_three min_three max_four min_four   -- for this text's walks alone
set_option linter.unusedVariables false
set_option linter.unusedSimpArgs false

-- EXT-PART lattice/latticelaw15.PointsTorn
noncomputable def latticelaw15_PointsTorn.f (a0 : List S34) (a1 : Int) : Option Bool := @ite _ (a0.length ≤ 8796093022208) (Classical.propDecidable _) (some true) none
theorem latticelaw15_PointsTorn.calls (A0 : Option Addr) (c0 : Nat) (a0 : List S34) (a1 : Int) (r : Bool) (w : World) (hr0 : Kd.C k34 w A0 a0.length a0) (hc0 : a0.length ≤ c0) (h : latticelaw15_PointsTorn.f a0 a1 = some r) :
    Calls Try.prog 6 #[.slice A0 a0.length c0, .int .i64 a1] w fun e w' => e = .returned (.bool r) ∧ Below w.heap.size w w' := by
  unfold latticelaw15_PointsTorn.f at h
  split at h
  · rename_i hn
    injection h with h
    subst h
    exact Points.torn_ok A0 c0 a0 a1 w hr0 hn
  · cases h

end Go.Proofs.Ytbpnigldojpapaa.Pr
