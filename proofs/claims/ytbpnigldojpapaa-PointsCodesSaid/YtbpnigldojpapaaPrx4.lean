-- Written by a program of this session (wip/tools/drv.py) over the kit's printer. Not trusted: Lean checks it.
import Derived.Test.YtbpnigldojpapaaPrx0
import Derived.Test.YtbpnigldojpapaaPointsLaw
namespace Go.Proofs.Ytbpnigldojpapaa.Pr
open Go.RowKit Go.Proofs.YtbpnigldojpapaaW.PrintWords Go.Proofs.YtbpnigldojpapaaW.PrintLast Go.Proofs.YtbpnigldojpapaaW.PrintMore
attribute [local go_sem] max2_int min2_int max_two min_two max_three min_three max_four min_four   -- for this text's walks alone
set_option linter.unusedVariables false
set_option linter.unusedSimpArgs false

-- EXT-PART lattice/latticelaw15.PointsCodes
noncomputable def latticelaw15_PointsCodes.f (a0 a1 a2 : Int) (a3 : List Int) : Option Bool := @ite _ (a3.length ≤ 140737488351232 ∧ Back.AllB a3 ∧ a2 < 9223372036854775808) (Classical.propDecidable _) (some true) none
theorem latticelaw15_PointsCodes.calls (a0 a1 a2 : Int) (A1 : Option Addr) (c1 : Nat) (a3 : List Int) (r : Bool) (w : World) (hr1 : Kd.C (Kd.int .u8) w A1 a3.length a3) (hc1 : a3.length ≤ c1) (h : latticelaw15_PointsCodes.f a0 a1 a2 a3 = some r) :
    Calls Try.prog 4 #[.agg #[.int .i64 a0, .int .i64 a1, .int .i64 a2], .slice A1 a3.length c1] w fun e w' => e = .returned (.bool r) ∧ Below w.heap.size w w' := by
  unfold latticelaw15_PointsCodes.f at h
  split at h
  · rename_i hn
    injection h with h
    subst h
    exact Points.codes_ok a0 a1 a2 A1 c1 a3 w hr1 hc1 hn.2.1 hn.1 hn.2.2
  · cases h

end Go.Proofs.Ytbpnigldojpapaa.Pr
