-- Written by a program of this session (wip/tools/drv.py) over the kit's printer. Not trusted: Lean checks it.
import Derived.Test.YtebmempiednlgaaPrx0
import Derived.Test.YtebmempiednlgaaCrcMix
namespace Go.Proofs.Ytebmempiednlgaa.Pr
open Go.RowKit Go.Proofs.YtebmempiednlgaaW.PrintWords Go.Proofs.YtebmempiednlgaaW.PrintLast Go.Proofs.YtebmempiednlgaaW.PrintMore
attribute [local go_sem] max2_int min2_int max_two min_two max_three min_three max_four min_four   -- for this text's walks alone
set_option linter.unusedVariables false
set_option linter.unusedSimpArgs false

-- EXT-PART lattice/latticelaw02.CrcMixed
noncomputable def latticelaw02_CrcMixed.f (a0 a1 a2 : List Int) : Option Bool := @ite _ (a0.length ≤ 140737488351232 ∧ Back.AllB a0 ∧ Back.AllB a1 ∧ Back.AllB a2) (Classical.propDecidable _) (some true) none
theorem latticelaw02_CrcMixed.calls (A0 : Option Addr) (c0 : Nat) (a0 : List Int) (A1 : Option Addr) (c1 : Nat) (a1 : List Int) (A2 : Option Addr) (c2 : Nat) (a2 : List Int) (r : Bool) (w : World) (hr0 : Kd.C (Kd.int .u8) w A0 a0.length a0) (hc0 : a0.length ≤ c0) (hr1 : Kd.C (Kd.int .u8) w A1 a1.length a1) (hc1 : a1.length ≤ c1) (hr2 : Kd.C (Kd.int .u8) w A2 a2.length a2) (hc2 : a2.length ≤ c2) (h : latticelaw02_CrcMixed.f a0 a1 a2 = some r) :
    Calls Try.prog 7 #[.slice A0 a0.length c0, .slice A1 a1.length c1, .slice A2 a2.length c2] w fun e w' => e = .returned (.bool r) ∧ Below w.heap.size w w' := by
  unfold latticelaw02_CrcMixed.f at h
  split at h
  · rename_i hn
    injection h with h
    subst h
    exact Crc.mixed_ok A0 c0 a0 A1 c1 a1 A2 c2 a2 w hr0 hc0 hn.2.1 hr1 hc1 hn.2.2.1 hr2 hc2 hn.2.2.2 hn.1
  · cases h

end Go.Proofs.Ytebmempiednlgaa.Pr
