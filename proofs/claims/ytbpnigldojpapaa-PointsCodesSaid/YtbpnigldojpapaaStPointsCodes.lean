/- The pure statement of the law PointsCodes. Written by a program of this session over the kit's printer. -/
import Derived.Test.YtbpnigldojpapaaPrx4
import Derived.Test.YtbpnigldojpapaaGood
namespace Go.Proofs.Ytbpnigldojpapaa.Pr
open Go.RowKit Go.Proofs.YtbpnigldojpapaaW.PrintWords Go.Proofs.YtbpnigldojpapaaW.PrintLast
set_option linter.unusedVariables false in
def latticelaw15_PointsCodes.Stated : Prop := ∀ (a0 : S34) (a1 : List Int), (good34 a0) → ((a1.length ≤ maxLen ∧ a1.length * 1 ≤ 140737488351232 ∧ ∀ y ∈ a1, (Lit.int .u8 y).wf = true)) → latticelaw15_PointsCodes.f a0.f0 a0.f1 a0.f2 a1 = some true
end Go.Proofs.Ytbpnigldojpapaa.Pr
