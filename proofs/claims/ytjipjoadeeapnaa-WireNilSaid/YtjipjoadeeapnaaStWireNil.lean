/- The pure statement of the law WireNil. Written by a program of this session over the kit's printer. -/
import Derived.Test.YtjipjoadeeapnaaPrx2
import Derived.Test.YtjipjoadeeapnaaGood
namespace Go.Proofs.Ytjipjoadeeapnaa.Pr
open Go.RowKit Go.Proofs.YtjipjoadeeapnaaW.PrintWords Go.Proofs.YtjipjoadeeapnaaW.PrintLast
def latticelaw01_WireNil.Stated : Prop := ∀ (a0 : Int) (a1 : Int) (a2 : ByteArray), ((Lit.int .i64 a0).wf = true) → ((Lit.int .i64 a1).wf = true) → (a2.size ≤ 140737488351232) → latticelaw01_WireNil.f a0 a1 a2 = some true
end Go.Proofs.Ytjipjoadeeapnaa.Pr
