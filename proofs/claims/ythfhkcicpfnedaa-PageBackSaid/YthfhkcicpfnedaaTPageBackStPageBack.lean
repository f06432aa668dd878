-- A part of the text StPageBack, thinned by a program of this session.
import Derived.Test.YthfhkcicpfnedaaTPageBackPrx17
import Derived.Test.YthfhkcicpfnedaaTPageBackGood
namespace Go.Proofs.Ythfhkcicpfnedaa.Pr
open Go.RowKit Go.Proofs.YthfhkcicpfnedaaW.PrintWords Go.Proofs.YthfhkcicpfnedaaW.PrintLast
set_option linter.unusedVariables false in
def latticelaw06_PageBack.Stated:Prop:=∀ (a0:S25) (a1:List Int),(good25 a0)→((a1.length≤maxLen∧a1.length*1≤140737488351232∧∀ e ∈ a1,(Lit.int .u8 e).wf=true))→latticelaw06_PageBack.f a0.f0 a0.f1 a0.f2 a0.f3 a0.f4 a0.f5 a0.f6 a1=some true
end Go.Proofs.Ythfhkcicpfnedaa.Pr
