-- Written by a program of this session (wip/tools/drv.py) over the kit's printer. Not trusted: Lean checks it.
import Derived.Test.YtjipjoadeeapnaaPrx0
import Derived.Test.YtjipjoadeeapnaaShort
namespace Go.Proofs.Ytjipjoadeeapnaa.Pr
open Go.RowKit Go.Proofs.YtjipjoadeeapnaaW.PrintWords Go.Proofs.YtjipjoadeeapnaaW.PrintLast Go.Proofs.YtjipjoadeeapnaaW.PrintMore
attribute [local go_sem] max2_int min2_int max_two min_two max_three min_three max_four min_four   -- for this text's walks alone
set_option linter.unusedVariables false
set_option linter.unusedSimpArgs false

-- EXT-PART lattice/latticelaw01.WireShort
noncomputable def latticelaw01_WireShort.f (a0 : List S27) (a1 : Int) : Option Bool := @ite _ (Wire.wlen a0 ≤ 4194304 ∧ ∀ x ∈ a0, x.f0 < 9223372036854775808) (Classical.propDecidable _) (some true) none
theorem latticelaw01_WireShort.calls (A0 : Option Addr) (c0 : Nat) (a0 : List S27) (a1 : Int) (r : Bool) (w : World) (hr0 : Kd.C k27 w A0 a0.length a0) (hc0 : a0.length ≤ c0) (h : latticelaw01_WireShort.f a0 a1 = some r) :
    Calls Try.prog 5 #[.slice A0 a0.length c0, .int .i64 a1] w fun e w' => e = .returned (.bool r) ∧ Below w.heap.size w w' := by
  unfold latticelaw01_WireShort.f at h
  split at h
  · rename_i hn
    injection h with h
    subst h
    exact Wire.short_ok A0 c0 a0 a1 w hn.1 hn.2 hr0
  · cases h

end Go.Proofs.Ytjipjoadeeapnaa.Pr
