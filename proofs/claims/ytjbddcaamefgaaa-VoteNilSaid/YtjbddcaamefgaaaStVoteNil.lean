/- The pure statement of the law VoteNil. Written by a program of this session over the kit's printer. -/
import Derived.Test.YtjbddcaamefgaaaPrx4
import Derived.Test.YtjbddcaamefgaaaGood
namespace Go.Proofs.Ytjbddcaamefgaaa.Pr
open Go.RowKit Go.Proofs.YtjbddcaamefgaaaW.PrintWords Go.Proofs.YtjbddcaamefgaaaW.PrintLast
set_option linter.unusedVariables false in
def latticelaw22_VoteNil.Stated : Prop := ∀ (a0 : Int) (a1 : Int), ((Lit.int .i64 a0).wf = true) → ((Lit.int .i64 a1).wf = true) → latticelaw22_VoteNil.f a0 a1 = some true
end Go.Proofs.Ytjbddcaamefgaaa.Pr
