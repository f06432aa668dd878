/- The pure statement of the law PointsChoose. Written by a program of this session over the kit's printer. -/
import Derived.Test.YtbpnigldojpapaaPrx6
import Derived.Test.YtbpnigldojpapaaGood
namespace Go.Proofs.Ytbpnigldojpapaa.Pr
open Go.RowKit Go.Proofs.YtbpnigldojpapaaW.PrintWords Go.Proofs.YtbpnigldojpapaaW.PrintLast
set_option linter.unusedVariables false in
def latticelaw15_PointsChoose.Stated : Prop := ∀ (a0 : List Int) (a1 : List Int) (a2 : S34), ((a0.length ≤ maxLen ∧ a0.length * 1 ≤ 140737488351232 ∧ ∀ y ∈ a0, (Lit.int .u8 y).wf = true)) → ((a1.length ≤ maxLen ∧ a1.length * 1 ≤ 140737488351232 ∧ ∀ y ∈ a1, (Lit.int .u8 y).wf = true)) → (good34 a2) → latticelaw15_PointsChoose.f a0 a1 a2.f0 a2.f1 a2.f2 = some true
end Go.Proofs.Ytbpnigldojpapaa.Pr
