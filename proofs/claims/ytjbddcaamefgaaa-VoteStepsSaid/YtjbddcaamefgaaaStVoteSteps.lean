/- The pure statement of the law VoteSteps. Written by a program of this session over the kit's printer. -/
import Derived.Test.YtjbddcaamefgaaaPrx2
import Derived.Test.YtjbddcaamefgaaaGood
namespace Go.Proofs.Ytjbddcaamefgaaa.Pr
open Go.RowKit Go.Proofs.YtjbddcaamefgaaaW.PrintWords Go.Proofs.YtjbddcaamefgaaaW.PrintLast
set_option linter.unusedVariables false in
def latticelaw22_VoteSteps.Stated : Prop := ∀ (a0 : S23) (a1 : List (S38)), (good23 a0) → ((a1.length ≤ maxLen ∧ a1.length * 56 ≤ 140737488351232 ∧ ∀ y ∈ a1, good38 y)) → latticelaw22_VoteSteps.f a0.f0 a0.f1 a1 = some true
end Go.Proofs.Ytjbddcaamefgaaa.Pr
