/- A law's arguments, read as data. Written by a program of this session over the kit's printer. -/
import Derived.Test.YtjipjoadeeapnaaOpen
import Derived.Test.YtjipjoadeeapnaaGood
namespace Go.Proofs.Ytjipjoadeeapnaa.Pr
open Go.RowKit Go.Proofs.YtjipjoadeeapnaaW.PrintWords
end Go.Proofs.Ytjipjoadeeapnaa.Pr
