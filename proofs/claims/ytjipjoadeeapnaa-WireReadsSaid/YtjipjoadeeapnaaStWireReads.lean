/- The pure statement of the law WireReads. Written by a program of this session over the kit's printer. -/
import Derived.Test.YtjipjoadeeapnaaPrx4
import Derived.Test.YtjipjoadeeapnaaGood
namespace Go.Proofs.Ytjipjoadeeapnaa.Pr
open Go.RowKit Go.Proofs.YtjipjoadeeapnaaW.PrintWords Go.Proofs.YtjipjoadeeapnaaW.PrintLast
def latticelaw01_WireReads.Stated : Prop := ∀ (a0 : List Int) (a1 : List (S27)), ((a0.length ≤ maxLen ∧ a0.length * 1 ≤ 140737488351232 ∧ ∀ y ∈ a0, (Lit.int .u8 y).wf = true)) → ((a1.length ≤ maxLen ∧ a1.length * 32 ≤ 140737488351232 ∧ ∀ y ∈ a1, good27 y)) → latticelaw01_WireReads.f a0 a1 = some true
end Go.Proofs.Ytjipjoadeeapnaa.Pr
