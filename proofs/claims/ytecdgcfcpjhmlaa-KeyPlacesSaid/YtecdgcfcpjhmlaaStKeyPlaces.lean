/- The pure statement of the law KeyPlaces. Written by a program of this session over the kit's printer. -/
import Derived.Test.YtecdgcfcpjhmlaaPrx3
import Derived.Test.YtecdgcfcpjhmlaaGood
namespace Go.Proofs.Ytecdgcfcpjhmlaa.Pr
open Go.RowKit Go.Proofs.YtecdgcfcpjhmlaaW.PrintWords Go.Proofs.YtecdgcfcpjhmlaaW.PrintLast
def latticelaw05_KeyPlaces.Stated : Prop := ∀ (a0 : List ByteArray) (a1 : ByteArray), ((a0.length ≤ maxLen ∧ a0.length * 16 ≤ 140737488351232 ∧ ∀ y ∈ a0, y.size ≤ 140737488351232)) → (a1.size ≤ 140737488351232) → ∃ k, latticelaw05_KeyPlaces.f k a0 a1 = some true
end Go.Proofs.Ytecdgcfcpjhmlaa.Pr
