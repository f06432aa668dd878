-- A part of the text StNodeBack, thinned by a program of this session.
import Derived.Test.YtcocmpblmkdmjaaTNodeBackPrx31
import Derived.Test.YtcocmpblmkdmjaaTNodeBackGood
namespace Go.Proofs.Ytcocmpblmkdmjaa.Pr
open Go.RowKit Go.Proofs.YtcocmpblmkdmjaaW.PrintWords Go.Proofs.YtcocmpblmkdmjaaW.PrintLast
set_option linter.unusedVariables false in
def latticelaw07_NodeBack.Stated:Prop:=∀ (a0:S25) (a1:S56) (a2:ByteArray),(good25 a0)→(good56 a1)→(a2.size≤140737488351232)→∃ k,latticelaw07_NodeBack.f k a0.f0 a0.f1 a0.f2 a0.f3 a0.f4 a0.f5 a0.f6 a1.f0 a1.f1 a2=some true
end Go.Proofs.Ytcocmpblmkdmjaa.Pr
