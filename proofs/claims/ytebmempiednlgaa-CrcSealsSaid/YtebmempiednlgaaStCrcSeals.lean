/- The pure statement of the law CrcSeals. Written by a program of this session over the kit's printer. -/
import Derived.Test.YtebmempiednlgaaPrx4
import Derived.Test.YtebmempiednlgaaGood
namespace Go.Proofs.Ytebmempiednlgaa.Pr
open Go.RowKit Go.Proofs.YtebmempiednlgaaW.PrintWords Go.Proofs.YtebmempiednlgaaW.PrintLast
def latticelaw02_CrcSeals.Stated : Prop := ∀ (a0 : List Int), ((a0.length ≤ maxLen ∧ a0.length * 1 ≤ 140737488351232 ∧ ∀ y ∈ a0, (Lit.int .u8 y).wf = true)) → latticelaw02_CrcSeals.f a0 = some true
end Go.Proofs.Ytebmempiednlgaa.Pr
