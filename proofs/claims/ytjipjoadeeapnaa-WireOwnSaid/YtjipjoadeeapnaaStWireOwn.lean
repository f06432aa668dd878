/- The pure statement of the law WireOwn. Written by a program of this session over the kit's printer. -/
import Derived.Test.YtjipjoadeeapnaaPrx2
import Derived.Test.YtjipjoadeeapnaaGood
namespace Go.Proofs.Ytjipjoadeeapnaa.Pr
open Go.RowKit Go.Proofs.YtjipjoadeeapnaaW.PrintWords Go.Proofs.YtjipjoadeeapnaaW.PrintLast
def latticelaw01_WireOwn.Stated : Prop := ∀ (a0 : List Int), ((a0.length ≤ maxLen ∧ a0.length * 1 ≤ 140737488351232 ∧ ∀ y ∈ a0, (Lit.int .u8 y).wf = true)) → latticelaw01_WireOwn.f a0 = some true
end Go.Proofs.Ytjipjoadeeapnaa.Pr
