-- A part of the text StPageDecodes, thinned by a program of this session.
import Derived.Test.YthfhkcicpfnedaaTPageDecodesPrx16
import Derived.Test.YthfhkcicpfnedaaTPageDecodesPrx0
namespace Go.Proofs.Ythfhkcicpfnedaa.Pr
open Go.RowKit Go.Proofs.YthfhkcicpfnedaaW.PrintWords Go.Proofs.YthfhkcicpfnedaaW.PrintLast
set_option linter.unusedVariables false in
def latticelaw06_PageDecodes.Stated:Prop:=∀ (a0:List Int),((a0.length≤maxLen∧a0.length*1≤140737488351232∧∀ e ∈ a0,(Lit.int .u8 e).wf=true))→latticelaw06_PageDecodes.f a0=some true
end Go.Proofs.Ythfhkcicpfnedaa.Pr
