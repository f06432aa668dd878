-- A part of the text Good, thinned by a program of this session.
import Derived.Test.YthfhkcicpfnedaaTPageGrowsPrx0
namespace Go.Proofs.Ythfhkcicpfnedaa.Pr
open Go.RowKit
set_option linter.unusedVariables false
def good25 (y:S25):Prop:=(Lit.int .i64 y.f0).wf=true∧(Lit.int .i64 y.f1).wf=true∧(Lit.int .i64 y.f2).wf=true∧y.f3.size≤140737488351232∧(y.f4.length≤maxLen∧y.f4.length*16≤140737488351232∧∀ e ∈ y.f4,e.size≤140737488351232)∧(y.f5.length≤maxLen∧y.f5.length*16≤140737488351232∧∀ e ∈ y.f5,e.size≤140737488351232)∧(y.f6.length≤maxLen∧y.f6.length*8≤140737488351232∧∀ e ∈ y.f6,(Lit.int .i64 e).wf=true)
def bulk25 (y:S25):Nat:=(1+(1+(1+((y.f3.size+1)+(((y.f4.map fun e=>(e.size+1)).sum+1)+(((y.f5.map fun e=>(e.size+1)).sum+1)+((y.f6.map fun e=>1).sum+1)))))))+1
end Go.Proofs.Ythfhkcicpfnedaa.Pr
