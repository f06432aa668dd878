/- How large a law's arguments are, and what is known of them. Written by a program of this session over the kit's printer. -/
import Derived.Test.YtjipjoadeeapnaaPrx0
namespace Go.Proofs.Ytjipjoadeeapnaa.Pr
open Go.RowKit
def good27 (y : S27) : Prop := (Lit.int .i64 y.f0).wf = true ∧ (Lit.int .i64 y.f1).wf = true ∧ y.f2.size ≤ 140737488351232
def bulk27 (y : S27) : Nat := (1 + (1 + (y.f2.size + 1))) + 1
end Go.Proofs.Ytjipjoadeeapnaa.Pr
