/- A law's arguments, read as data. Written by a program of this session over the kit's printer. -/
import Derived.Test.YtecdgcfcpjhmlaaOpen
import Derived.Test.YtecdgcfcpjhmlaaGood
namespace Go.Proofs.Ytecdgcfcpjhmlaa.Pr
open Go.RowKit Go.Proofs.YtecdgcfcpjhmlaaW.PrintWords
end Go.Proofs.Ytecdgcfcpjhmlaa.Pr
