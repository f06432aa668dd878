-- A part of the text Prx17, thinned by a program of this session.
import Derived.Test.YteipehiiaggenaaTRecordDecodesPrx0
import Derived.Test.YteipehiiaggenaaTRecordDecodesRecLaw
namespace Go.Proofs.Yteipehiiaggenaa.Pr
open Go.RowKit Go.Proofs.YteipehiiaggenaaW.PrintWords Go.Proofs.YteipehiiaggenaaW.PrintLast Go.Proofs.YteipehiiaggenaaW.PrintMore
attribute [local go_sem] max2_int min2_int max_two min_two max_three min_three max_four min_four
set_option linter.unusedVariables false
set_option linter.unusedSimpArgs false
noncomputable def latticelaw09_RecordDecodes.f (a0:List Int):Option Bool:=@ite _ (Back.AllB a0∧a0.length≤140737488355328) (Classical.propDecidable _) (some true) none
theorem latticelaw09_RecordDecodes.calls (A0:Option Addr) (c0:Nat) (a0:List Int) (r:Bool) (w:World) (hr0:Kd.C (Kd.int .u8) w A0 a0.length a0) (hc0:a0.length≤c0) (h:latticelaw09_RecordDecodes.f a0=some r) :
  Calls Try.prog 4 #[.slice A0 a0.length c0] w fun e w'=>e=.returned (.bool r)∧Below w.heap.size w w':=by
 unfold latticelaw09_RecordDecodes.f at h
 split at h
 ·rename_i hn
  injection h with h
  subst h
  exact Rec.rdecodes_ok A0 c0 a0 w hr0 hc0 hn.1 hn.2
 ·cases h
end Go.Proofs.Yteipehiiaggenaa.Pr
