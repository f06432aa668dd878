-- A part of the text Prx10, thinned by a program of this session.
import Derived.Test.YteipehiiaggenaaTRecordDecodesPrx0
import Derived.Test.YteipehiiaggenaaTRecordDecodesRefWr
namespace Go.Proofs.Yteipehiiaggenaa.Pr
open Go.RowKit Go.Proofs.YteipehiiaggenaaW.PrintWords Go.Proofs.YteipehiiaggenaaW.PrintLast Go.Proofs.YteipehiiaggenaaW.PrintMore
attribute [local go_sem] max2_int min2_int max_two min_two max_three min_three max_four min_four
set_option linter.unusedVariables false
set_option linter.unusedSimpArgs false
def latticeref01_Text.f (a0:ByteArray):Option (List Int):=if a0.size≤65535 then some (Wire.le a0.size 2++bytesOf a0) else none
theorem latticeref01_Text.calls (a0:ByteArray) (r:List Int) (w:World) (h:latticeref01_Text.f a0=some r) :
  Calls Try.prog 22 #[.string a0] w fun e w'=>∃ v_:Value,e=.returned v_∧Kd.R (Kd.int .u8) 5 w' w.heap.size (fun _=>True) v_ r∧Below w.heap.size w w':=by
 unfold latticeref01_Text.f at h
 split at h
 ·rename_i hc
  injection h with h
  subst h
  exact Wire.reftext_ok a0 w hc
 ·cases h
end Go.Proofs.Yteipehiiaggenaa.Pr
