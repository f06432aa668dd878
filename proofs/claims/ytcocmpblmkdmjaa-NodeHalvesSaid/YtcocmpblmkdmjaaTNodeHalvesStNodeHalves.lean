-- A part of the text StNodeHalves, thinned by a program of this session.
import Derived.Test.YtcocmpblmkdmjaaTNodeHalvesPrx20
import Derived.Test.YtcocmpblmkdmjaaTNodeHalvesGood
namespace Go.Proofs.Ytcocmpblmkdmjaa.Pr
open Go.RowKit Go.Proofs.YtcocmpblmkdmjaaW.PrintWords Go.Proofs.YtcocmpblmkdmjaaW.PrintLast
set_option linter.unusedVariables false in
def latticelaw07_NodeHalves.Stated:Prop:=∀ (a0:S25) (a1:Int) (a2:ByteArray),(good25 a0)→((Lit.int .i64 a1).wf=true)→(a2.size≤140737488351232)→∃ k,latticelaw07_NodeHalves.f k a0.f0 a0.f1 a0.f2 a0.f3 a0.f4 a0.f5 a0.f6 a1 a2=some true
end Go.Proofs.Ytcocmpblmkdmjaa.Pr
