-- Written by a program of this session (wip/tools/drv.py) over the kit's printer. Not trusted: Lean checks it.
import Derived.Test.YtjipjoadeeapnaaPrx0
import Derived.Test.YtjipjoadeeapnaaReads
namespace Go.Proofs.Ytjipjoadeeapnaa.Pr
open Go.RowKit Go.Proofs.YtjipjoadeeapnaaW.PrintWords Go.Proofs.YtjipjoadeeapnaaW.PrintLast Go.Proofs.YtjipjoadeeapnaaW.PrintMore
attribute [local go_sem] max2_int min2_int max_two min_two max_three min_three max_four min_four   -- for this text's walks alone
set_option linter.unusedVariables false
set_option linter.unusedSimpArgs false

-- EXT-PART lattice/latticelaw01.WireReads
noncomputable def latticelaw01_WireReads.f (a0 : List Int) (a1 : List S27) : Option Bool := @ite _ (a0.length ≤ 140737488351232 ∧ Back.AllB a0) (Classical.propDecidable _) (some true) none
theorem latticelaw01_WireReads.calls (A0 : Option Addr) (c0 : Nat) (a0 : List Int) (A1 : Option Addr) (c1 : Nat) (a1 : List S27) (r : Bool) (w : World) (hr0 : Kd.C (Kd.int .u8) w A0 a0.length a0) (hc0 : a0.length ≤ c0) (hr1 : Kd.C k27 w A1 a1.length a1) (hc1 : a1.length ≤ c1) (h : latticelaw01_WireReads.f a0 a1 = some r) :
    Calls Try.prog 6 #[.slice A0 a0.length c0, .slice A1 a1.length c1] w fun e w' => e = .returned (.bool r) ∧ Below w.heap.size w w' := by
  unfold latticelaw01_WireReads.f at h
  split at h
  · rename_i hn
    injection h with h
    subst h
    exact Wire.reads_ok A0 c0 a0 A1 c1 a1 w hr0 hc0 hn.1 hn.2 hr1
  · cases h

end Go.Proofs.Ytjipjoadeeapnaa.Pr
