-- A part of the text StRecordDecodes, thinned by a program of this session.
import Derived.Test.YteipehiiaggenaaTRecordDecodesPrx17
import Derived.Test.YteipehiiaggenaaTRecordDecodesPrx0
namespace Go.Proofs.Yteipehiiaggenaa.Pr
open Go.RowKit Go.Proofs.YteipehiiaggenaaW.PrintWords Go.Proofs.YteipehiiaggenaaW.PrintLast
set_option linter.unusedVariables false in
def latticelaw09_RecordDecodes.Stated:Prop:=∀ (a0:List Int),((a0.length≤maxLen∧a0.length*1≤140737488351232∧∀ e ∈ a0,(Lit.int .u8 e).wf=true))→latticelaw09_RecordDecodes.f a0=some true
end Go.Proofs.Yteipehiiaggenaa.Pr
