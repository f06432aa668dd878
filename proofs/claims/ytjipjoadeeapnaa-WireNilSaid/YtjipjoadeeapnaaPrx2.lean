-- Written by a program of this session (wip/tools/drv.py) over the kit's printer. Not trusted: Lean checks it.
import Derived.Test.YtjipjoadeeapnaaPrx0
import Derived.Test.YtjipjoadeeapnaaNil
namespace Go.Proofs.Ytjipjoadeeapnaa.Pr
open Go.RowKit Go.Proofs.YtjipjoadeeapnaaW.PrintWords Go.Proofs.YtjipjoadeeapnaaW.PrintLast Go.Proofs.YtjipjoadeeapnaaW.PrintMore
attribute [local go_sem] max2_int min2_int max_two min_two max_three min_three max_four min_four   -- for this text's walks alone
set_option linter.unusedVariables false
set_option linter.unusedSimpArgs false

-- EXT-PART lattice/latticelaw01.WireNil
def latticelaw01_WireNil.f (a0 a1 : Int) (a2 : ByteArray) : Option Bool := if a0 < 9223372036854775808 then some true else none
theorem latticelaw01_WireNil.calls (a0 a1 : Int) (a2 : ByteArray) (r : Bool) (w : World) (h : latticelaw01_WireNil.f a0 a1 a2 = some r) :
    Calls Try.prog 8 #[.int .i64 a0, .int .i64 a1, .string a2] w fun e w' => e = .returned (.bool r) ∧ Below w.heap.size w w' := by
  unfold latticelaw01_WireNil.f at h
  split at h
  · rename_i hn
    injection h with h
    subst h
    exact Wire.nil_ok a0 a1 a2 w hn
  · cases h

end Go.Proofs.Ytjipjoadeeapnaa.Pr
