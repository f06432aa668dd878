-- A part of the text StPageGrows, thinned by a program of this session.
import Derived.Test.YthfhkcicpfnedaaTPageGrowsPrx19
import Derived.Test.YthfhkcicpfnedaaTPageGrowsGood
namespace Go.Proofs.Ythfhkcicpfnedaa.Pr
open Go.RowKit Go.Proofs.YthfhkcicpfnedaaW.PrintWords Go.Proofs.YthfhkcicpfnedaaW.PrintLast
set_option linter.unusedVariables false in
def latticelaw06_PageGrows.Stated:Prop:=∀ (a0:S25),(good25 a0)→latticelaw06_PageGrows.f a0.f0 a0.f1 a0.f2 a0.f3 a0.f4 a0.f5 a0.f6=some true
end Go.Proofs.Ythfhkcicpfnedaa.Pr
