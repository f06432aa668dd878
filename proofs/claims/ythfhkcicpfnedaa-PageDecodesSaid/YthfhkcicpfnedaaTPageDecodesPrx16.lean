-- A part of the text Prx16, thinned by a program of this session.
import Derived.Test.YthfhkcicpfnedaaTPageDecodesPrx0
import Derived.Test.YthfhkcicpfnedaaTPageDecodesPageLaws
namespace Go.Proofs.Ythfhkcicpfnedaa.Pr
open Go.RowKit Go.Proofs.YthfhkcicpfnedaaW.PrintWords Go.Proofs.YthfhkcicpfnedaaW.PrintLast Go.Proofs.YthfhkcicpfnedaaW.PrintMore
attribute [local go_sem] max2_int min2_int max_two min_two max_three min_three max_four min_four
set_option linter.unusedVariables false
set_option linter.unusedSimpArgs false
noncomputable def latticelaw06_PageDecodes.f (a0:List Int):Option Bool:=@ite _ (Back.AllB a0) (Classical.propDecidable _) (some true) none
theorem latticelaw06_PageDecodes.calls (A0:Option Addr) (c0:Nat) (a0:List Int) (r:Bool) (w:World) (hr0:Kd.C (Kd.int .u8) w A0 a0.length a0) (hc0:a0.length≤c0) (h:latticelaw06_PageDecodes.f a0=some r) :
  Calls Try.prog 5 #[.slice A0 a0.length c0] w fun e w'=>e=.returned (.bool r)∧Below w.heap.size w w':=by
 unfold latticelaw06_PageDecodes.f at h
 split at h
 ·rename_i hn
  injection h with h
  subst h
  exact Page.decodes_ok A0 c0 a0 w hr0 hc0 hn
 ·cases h
end Go.Proofs.Ythfhkcicpfnedaa.Pr
