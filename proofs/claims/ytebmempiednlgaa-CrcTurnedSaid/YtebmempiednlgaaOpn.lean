/- A law's arguments, read as data. Written by a program of this session over the kit's printer. -/
import Derived.Test.YtebmempiednlgaaOpen
import Derived.Test.YtebmempiednlgaaGood
namespace Go.Proofs.Ytebmempiednlgaa.Pr
open Go.RowKit Go.Proofs.YtebmempiednlgaaW.PrintWords
end Go.Proofs.Ytebmempiednlgaa.Pr
