-- A part of the text StPageTurned, thinned by a program of this session.
import Derived.Test.YthfhkcicpfnedaaTPageTurnedPrx18
import Derived.Test.YthfhkcicpfnedaaTPageTurnedGood
namespace Go.Proofs.Ythfhkcicpfnedaa.Pr
open Go.RowKit Go.Proofs.YthfhkcicpfnedaaW.PrintWords Go.Proofs.YthfhkcicpfnedaaW.PrintLast
set_option linter.unusedVariables false in
def latticelaw06_PageTurned.Stated:Prop:=∀ (a0:S25) (a1:Int),(good25 a0)→((Lit.int .i64 a1).wf=true)→latticelaw06_PageTurned.f a0.f0 a0.f1 a0.f2 a0.f3 a0.f4 a0.f5 a0.f6 a1=some true
end Go.Proofs.Ythfhkcicpfnedaa.Pr
