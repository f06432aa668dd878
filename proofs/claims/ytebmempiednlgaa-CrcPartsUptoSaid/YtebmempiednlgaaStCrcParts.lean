/- The pure statement of the law CrcParts. Written by a program of this session over the kit's printer. -/
import Derived.Test.YtebmempiednlgaaPrx5
import Derived.Test.YtebmempiednlgaaGood
namespace Go.Proofs.Ytebmempiednlgaa.Pr
open Go.RowKit Go.Proofs.YtebmempiednlgaaW.PrintWords Go.Proofs.YtebmempiednlgaaW.PrintLast
set_option linter.unusedVariables false in
def latticelaw02_CrcParts.Stated : Prop := ∀ (a0 : List Int) (a1 : List Int), ((a0.length ≤ maxLen ∧ a0.length * 1 ≤ 140737488351232 ∧ ∀ y ∈ a0, (Lit.int .u8 y).wf = true)) → ((a1.length ≤ maxLen ∧ a1.length * 1 ≤ 140737488351232 ∧ ∀ y ∈ a1, (Lit.int .u8 y).wf = true)) → (((a0.map fun y => 1).sum + 1) + ((a1.map fun y => 1).sum + 1) ≤ 1048576) → latticelaw02_CrcParts.f a0 a1 = some true
end Go.Proofs.Ytebmempiednlgaa.Pr
