import Derived.Test.YtjbddcaamefgaaaStVoteWinner
import Derived.OpenShut
namespace Go.Proofs.Ytjbddcaamefgaaa.Pure
open Go.RowKit Go.Proofs.Ytjbddcaamefgaaa.Pr Go.Proofs.YtjbddcaamefgaaaW.PrintWords Go.Proofs.YtjbddcaamefgaaaW.PrintLast

theorem VoteWinner : latticelaw22_VoteWinner.Stated := by
  intro a0 a1 a2 _ _ _
  rfl

end Go.Proofs.Ytjbddcaamefgaaa.Pure
