-- A part of the text Prx9, thinned by a program of this session.
import Derived.Test.YteipehiiaggenaaTRecordDecodesPrx0
import Derived.Test.YteipehiiaggenaaTRecordDecodesRefWr
namespace Go.Proofs.Yteipehiiaggenaa.Pr
open Go.RowKit Go.Proofs.YteipehiiaggenaaW.PrintWords Go.Proofs.YteipehiiaggenaaW.PrintLast Go.Proofs.YteipehiiaggenaaW.PrintMore
attribute [local go_sem] max2_int min2_int max_two min_two max_three min_three max_four min_four
set_option linter.unusedVariables false
set_option linter.unusedSimpArgs false
def latticeref01_Num.f (a0:Int) (a1:Int):Option (List Int):=if 0≤a0∧a0 < 9223372036854775808∧0≤a1∧a1≤8 then some (Wire.le a0 a1.toNat) else none
theorem latticeref01_Num.calls (a0:Int) (a1:Int) (r:List Int) (w:World) (h:latticeref01_Num.f a0 a1=some r) :
  Calls Try.prog 21 #[.int .i64 a0,.int .i64 a1] w fun e w'=>∃ v_:Value,e=.returned v_∧Kd.R (Kd.int .u8) 5 w' w.heap.size (fun _=>True) v_ r∧Below w.heap.size w w':=by
 unfold latticeref01_Num.f at h
 split at h
 ·rename_i hc
  injection h with h
  subst h
  obtain ⟨h0,h1,h2,h3⟩:=hc
  obtain ⟨s,rfl⟩:=Int.eq_ofNat_of_zero_le h2
  rw [Int.toNat_natCast]
  exact Wire.refnum_ok a0 s w h0 h1 (by omega)
 ·cases h
end Go.Proofs.Yteipehiiaggenaa.Pr
