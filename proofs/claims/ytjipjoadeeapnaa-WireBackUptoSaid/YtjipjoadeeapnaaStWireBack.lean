/- The pure statement of the law WireBack. Written by a program of this session over the kit's printer. -/
import Derived.Test.YtjipjoadeeapnaaPrx6
import Derived.Test.YtjipjoadeeapnaaGood
namespace Go.Proofs.Ytjipjoadeeapnaa.Pr
open Go.RowKit Go.Proofs.YtjipjoadeeapnaaW.PrintWords Go.Proofs.YtjipjoadeeapnaaW.PrintLast
def latticelaw01_WireBack.Stated : Prop := ∀ (a0 : List (S27)), ((a0.length ≤ maxLen ∧ a0.length * 32 ≤ 140737488351232 ∧ ∀ y ∈ a0, good27 y)) → (((a0.map fun y => bulk27 y).sum + 1) ≤ 1048576) → latticelaw01_WireBack.f a0 = some true
end Go.Proofs.Ytjipjoadeeapnaa.Pr
