/- The pure statement of the law VoteWinner. Written by a program of this session over the kit's printer. -/
import Derived.Test.YtjbddcaamefgaaaPrx3
import Derived.Test.YtjbddcaamefgaaaGood
namespace Go.Proofs.Ytjbddcaamefgaaa.Pr
open Go.RowKit Go.Proofs.YtjbddcaamefgaaaW.PrintWords Go.Proofs.YtjbddcaamefgaaaW.PrintLast
set_option linter.unusedVariables false in
def latticelaw22_VoteWinner.Stated : Prop := ∀ (a0 : Int) (a1 : List (S55)) (a2 : List (S36)), ((Lit.int .i64 a0).wf = true) → ((a1.length ≤ maxLen ∧ a1.length * 24 ≤ 140737488351232 ∧ ∀ e ∈ a1, good55 e)) → ((a2.length ≤ maxLen ∧ a2.length * 16 ≤ 140737488351232 ∧ ∀ e ∈ a2, good36 e)) → latticelaw22_VoteWinner.f a0 a1 a2 = some true
end Go.Proofs.Ytjbddcaamefgaaa.Pr
