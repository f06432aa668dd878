/- How large a law's arguments are, and what is known of them. Written by a program of this session over the kit's printer. -/
import Derived.Test.YtebmempiednlgaaPrx0
namespace Go.Proofs.Ytebmempiednlgaa.Pr
open Go.RowKit
end Go.Proofs.Ytebmempiednlgaa.Pr
