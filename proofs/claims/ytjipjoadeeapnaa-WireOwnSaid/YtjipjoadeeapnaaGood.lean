/- How large a law's arguments are, and what is known of them. Written by a program of this session over the kit's printer. -/
import Derived.Test.YtjipjoadeeapnaaPrx0
namespace Go.Proofs.Ytjipjoadeeapnaa.Pr
open Go.RowKit
end Go.Proofs.Ytjipjoadeeapnaa.Pr
