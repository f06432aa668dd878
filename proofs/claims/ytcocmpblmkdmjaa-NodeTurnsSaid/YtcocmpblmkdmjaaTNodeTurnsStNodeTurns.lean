-- A part of the text StNodeTurns, thinned by a program of this session.
import Derived.Test.YtcocmpblmkdmjaaTNodeTurnsPrx30
import Derived.Test.YtcocmpblmkdmjaaTNodeTurnsGood
namespace Go.Proofs.Ytcocmpblmkdmjaa.Pr
open Go.RowKit Go.Proofs.YtcocmpblmkdmjaaW.PrintWords Go.Proofs.YtcocmpblmkdmjaaW.PrintLast
set_option linter.unusedVariables false in
def latticelaw07_NodeTurns.Stated:Prop:=∀ (a0:S25) (a1:S56) (a2:S56),(good25 a0)→(good56 a1)→(good56 a2)→∃ k,latticelaw07_NodeTurns.f k a0.f0 a0.f1 a0.f2 a0.f3 a0.f4 a0.f5 a0.f6 a1.f0 a1.f1 a2.f0 a2.f1=some true
end Go.Proofs.Ytcocmpblmkdmjaa.Pr
