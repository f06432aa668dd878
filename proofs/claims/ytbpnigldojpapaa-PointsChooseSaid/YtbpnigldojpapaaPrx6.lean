-- Written by a program of this session (wip/tools/drv.py) over the kit's printer. Not trusted: Lean checks it.
import Derived.Test.YtbpnigldojpapaaPrx0
import Derived.Test.YtbpnigldojpapaaPointsLawC
namespace Go.Proofs.Ytbpnigldojpapaa.Pr
open Go.RowKit Go.Proofs.YtbpnigldojpapaaW.PrintWords Go.Proofs.YtbpnigldojpapaaW.PrintLast Go.Proofs.YtbpnigldojpapaaW.PrintMore
attribute [local go_sem] max2_int min2_int max_two min_two max_three min_three max_four min_four   -- for this text's walks alone
set_option linter.unusedVariables false
set_option linter.unusedSimpArgs false

-- EXT-PART lattice/latticelaw15.PointsChoose
noncomputable def latticelaw15_PointsChoose.f (a0 a1 : List Int) (a2 a3 a4 : Int) : Option Bool := @ite _ (a0.length ≤ 140737488355328 ∧ Back.AllB a0 ∧ a1.length ≤ 140737488355328 ∧ Back.AllB a1 ∧ a4 < 9223372036854775808) (Classical.propDecidable _) (some true) none
theorem latticelaw15_PointsChoose.calls (A0 : Option Addr) (c0 : Nat) (a0 : List Int) (A1 : Option Addr) (c1 : Nat) (a1 : List Int) (a2 a3 a4 : Int) (r : Bool) (w : World) (hr0 : Kd.C (Kd.int .u8) w A0 a0.length a0) (hc0 : a0.length ≤ c0) (hr1 : Kd.C (Kd.int .u8) w A1 a1.length a1) (hc1 : a1.length ≤ c1) (h : latticelaw15_PointsChoose.f a0 a1 a2 a3 a4 = some r) :
    Calls Try.prog 5 #[.slice A0 a0.length c0, .slice A1 a1.length c1, .agg #[.int .i64 a2, .int .i64 a3, .int .i64 a4]] w fun e w' => e = .returned (.bool r) ∧ Below w.heap.size w w' := by
  unfold latticelaw15_PointsChoose.f at h
  split at h
  · rename_i hn
    injection h with h
    subst h
    exact Points.lawchoose_ok A0 c0 a0 A1 c1 a1 a2 a3 a4 w hr0 hc0 hn.2.1 hn.1 hr1 hc1 hn.2.2.2.1 hn.2.2.1 hn.2.2.2.2
  · cases h

end Go.Proofs.Ytbpnigldojpapaa.Pr
