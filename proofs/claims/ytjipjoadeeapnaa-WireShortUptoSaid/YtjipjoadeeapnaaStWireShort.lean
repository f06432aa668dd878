/- The pure statement of the law WireShort. Written by a program of this session over the kit's printer. -/
import Derived.Test.YtjipjoadeeapnaaPrx4
import Derived.Test.YtjipjoadeeapnaaGood
namespace Go.Proofs.Ytjipjoadeeapnaa.Pr
open Go.RowKit Go.Proofs.YtjipjoadeeapnaaW.PrintWords Go.Proofs.YtjipjoadeeapnaaW.PrintLast
def latticelaw01_WireShort.Stated : Prop := ∀ (a0 : List (S27)) (a1 : Int), ((a0.length ≤ maxLen ∧ a0.length * 32 ≤ 140737488351232 ∧ ∀ y ∈ a0, good27 y)) → ((Lit.int .i64 a1).wf = true) → (((a0.map fun y => bulk27 y).sum + 1) + 1 ≤ 1048576) → latticelaw01_WireShort.f a0 a1 = some true
end Go.Proofs.Ytjipjoadeeapnaa.Pr
