/- The pure statement of the law CrcSums. Written by a program of this session over the kit's printer. -/
import Derived.Test.YtebmempiednlgaaPrx2
import Derived.Test.YtebmempiednlgaaGood
namespace Go.Proofs.Ytebmempiednlgaa.Pr
open Go.RowKit Go.Proofs.YtebmempiednlgaaW.PrintWords Go.Proofs.YtebmempiednlgaaW.PrintLast
def latticelaw02_CrcSums.Stated : Prop := ∀ (a0 : Int) (a1 : List Int), ((Lit.int .i64 a0).wf = true) → ((a1.length ≤ maxLen ∧ a1.length * 1 ≤ 140737488351232 ∧ ∀ y ∈ a1, (Lit.int .u8 y).wf = true)) → latticelaw02_CrcSums.f a0 a1 = some true
end Go.Proofs.Ytebmempiednlgaa.Pr
