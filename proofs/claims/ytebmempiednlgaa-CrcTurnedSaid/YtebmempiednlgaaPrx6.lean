-- Written by a program of this session (wip/tools/drv.py) over the kit's printer. Not trusted: Lean checks it.
import Derived.Test.YtebmempiednlgaaPrx0
import Derived.Test.YtebmempiednlgaaCrcTurn
namespace Go.Proofs.Ytebmempiednlgaa.Pr
open Go.RowKit Go.Proofs.YtebmempiednlgaaW.PrintWords Go.Proofs.YtebmempiednlgaaW.PrintLast Go.Proofs.YtebmempiednlgaaW.PrintMore
attribute [local go_sem] max2_int min2_int max_two min_two max_three min_three max_four min_four   -- for this text's walks alone
set_option linter.unusedVariables false
set_option linter.unusedSimpArgs false

-- EXT-PART lattice/latticelaw02.CrcTurned
noncomputable def latticelaw02_CrcTurned.f (a0 : List Int) (a1 a2 : Int) : Option Bool := @ite _ (a0.length ≤ 140737488351232 ∧ Back.AllB a0) (Classical.propDecidable _) (some true) none
theorem latticelaw02_CrcTurned.calls (A0 : Option Addr) (c0 : Nat) (a0 : List Int) (a1 a2 : Int) (r : Bool) (w : World) (hr0 : Kd.C (Kd.int .u8) w A0 a0.length a0) (hc0 : a0.length ≤ c0) (h : latticelaw02_CrcTurned.f a0 a1 a2 = some r) :
    Calls Try.prog 6 #[.slice A0 a0.length c0, .int .i64 a1, .int .i64 a2] w fun e w' => e = .returned (.bool r) ∧ Below w.heap.size w w' := by
  unfold latticelaw02_CrcTurned.f at h
  split at h
  · rename_i hn
    injection h with h
    subst h
    exact Crc.turned_ok A0 c0 a0 a1 a2 w hr0 hn.2 hn.1
  · cases h

end Go.Proofs.Ytebmempiednlgaa.Pr
