/- The pure statement of the law CrcTurned. Written by a program of this session over the kit's printer. -/
import Derived.Test.YtebmempiednlgaaPrx6
import Derived.Test.YtebmempiednlgaaGood
namespace Go.Proofs.Ytebmempiednlgaa.Pr
open Go.RowKit Go.Proofs.YtebmempiednlgaaW.PrintWords Go.Proofs.YtebmempiednlgaaW.PrintLast
set_option linter.unusedVariables false in
def latticelaw02_CrcTurned.Stated : Prop := ∀ (a0 : List Int) (a1 : Int) (a2 : Int), ((a0.length ≤ maxLen ∧ a0.length * 1 ≤ 140737488351232 ∧ ∀ y ∈ a0, (Lit.int .u8 y).wf = true)) → ((Lit.int .i64 a1).wf = true) → ((Lit.int .i64 a2).wf = true) → latticelaw02_CrcTurned.f a0 a1 a2 = some true
end Go.Proofs.Ytebmempiednlgaa.Pr
