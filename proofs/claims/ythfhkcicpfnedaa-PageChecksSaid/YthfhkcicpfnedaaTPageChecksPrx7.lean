-- A part of the text Prx7, thinned by a program of this session.
import Derived.Test.YthfhkcicpfnedaaTPageChecksPrx0
import Derived.Test.YthfhkcicpfnedaaTPageChecksPageLaw
namespace Go.Proofs.Ythfhkcicpfnedaa.Pr
open Go.RowKit Go.Proofs.YthfhkcicpfnedaaW.PrintWords Go.Proofs.YthfhkcicpfnedaaW.PrintLast Go.Proofs.YthfhkcicpfnedaaW.PrintMore
attribute [local go_sem] max2_int min2_int max_two min_two max_three min_three max_four min_four
set_option linter.unusedVariables false
set_option linter.unusedSimpArgs false
def latticelaw06_speaks.f:Option Bool:=some true
theorem latticelaw06_speaks.calls (r:Bool) (w:World) (h:latticelaw06_speaks.f=some r) :
  Calls Try.prog 13 #[] w fun e w'=>e=.returned (.bool r)∧Below w.heap.size w w':=by
 unfold latticelaw06_speaks.f at h
 injection h with h
 subst h
 exact Page.speaks6_ok w
end Go.Proofs.Ythfhkcicpfnedaa.Pr
