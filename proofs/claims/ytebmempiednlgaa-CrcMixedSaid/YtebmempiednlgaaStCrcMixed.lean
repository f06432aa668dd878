/- The pure statement of the law CrcMixed. Written by a program of this session over the kit's printer. -/
import Derived.Test.YtebmempiednlgaaPrx7
import Derived.Test.YtebmempiednlgaaGood
namespace Go.Proofs.Ytebmempiednlgaa.Pr
open Go.RowKit Go.Proofs.YtebmempiednlgaaW.PrintWords Go.Proofs.YtebmempiednlgaaW.PrintLast
set_option linter.unusedVariables false in
def latticelaw02_CrcMixed.Stated : Prop := ∀ (a0 : List Int) (a1 : List Int) (a2 : List Int), ((a0.length ≤ maxLen ∧ a0.length * 1 ≤ 140737488351232 ∧ ∀ y ∈ a0, (Lit.int .u8 y).wf = true)) → ((a1.length ≤ maxLen ∧ a1.length * 1 ≤ 140737488351232 ∧ ∀ y ∈ a1, (Lit.int .u8 y).wf = true)) → ((a2.length ≤ maxLen ∧ a2.length * 1 ≤ 140737488351232 ∧ ∀ y ∈ a2, (Lit.int .u8 y).wf = true)) → latticelaw02_CrcMixed.f a0 a1 a2 = some true
end Go.Proofs.Ytebmempiednlgaa.Pr
