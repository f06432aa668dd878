/- The pure statement of the law VoteOnce. Written by a program of this session over the kit's printer. -/
import Derived.Test.YtjbddcaamefgaaaPrx6
import Derived.Test.YtjbddcaamefgaaaGood
namespace Go.Proofs.Ytjbddcaamefgaaa.Pr
open Go.RowKit Go.Proofs.YtjbddcaamefgaaaW.PrintWords Go.Proofs.YtjbddcaamefgaaaW.PrintLast
set_option linter.unusedVariables false in
def latticelaw22_VoteOnce.Stated : Prop := ∀ (a0 : List (S38)), ((a0.length ≤ maxLen ∧ a0.length * 56 ≤ 140737488351232 ∧ ∀ y ∈ a0, good38 y)) → latticelaw22_VoteOnce.f a0 = some true
end Go.Proofs.Ytjbddcaamefgaaa.Pr
