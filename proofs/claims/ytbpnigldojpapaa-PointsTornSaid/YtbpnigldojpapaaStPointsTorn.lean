/- The pure statement of the law PointsTorn. Written by a program of this session over the kit's printer. -/
import Derived.Test.YtbpnigldojpapaaPrx7
import Derived.Test.YtbpnigldojpapaaGood
namespace Go.Proofs.Ytbpnigldojpapaa.Pr
open Go.RowKit Go.Proofs.YtbpnigldojpapaaW.PrintWords Go.Proofs.YtbpnigldojpapaaW.PrintLast
set_option linter.unusedVariables false in
def latticelaw15_PointsTorn.Stated : Prop := ∀ (a0 : List (S34)) (a1 : Int), ((a0.length ≤ maxLen ∧ a0.length * 24 ≤ 140737488351232 ∧ ∀ y ∈ a0, good34 y)) → ((Lit.int .i64 a1).wf = true) → latticelaw15_PointsTorn.f a0 a1 = some true
end Go.Proofs.Ytbpnigldojpapaa.Pr
