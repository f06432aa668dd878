-- A part of the text StNodePosts, thinned by a program of this session.
import Derived.Test.YtcocmpblmkdmjaaTNodePostsPrx23
import Derived.Test.YtcocmpblmkdmjaaTNodePostsGood
namespace Go.Proofs.Ytcocmpblmkdmjaa.Pr
open Go.RowKit Go.Proofs.YtcocmpblmkdmjaaW.PrintWords Go.Proofs.YtcocmpblmkdmjaaW.PrintLast
set_option linter.unusedVariables false in
def latticelaw07_NodePosts.Stated:Prop:=∀ (a0:S25) (a1:ByteArray) (a2:Int),(good25 a0)→(a1.size≤140737488351232)→((Lit.int .i64 a2).wf=true)→∃ k,latticelaw07_NodePosts.f k a0.f0 a0.f1 a0.f2 a0.f3 a0.f4 a0.f5 a0.f6 a1 a2=some true
end Go.Proofs.Ytcocmpblmkdmjaa.Pr
