import Derived.Test.YtjbddcaamefgaaaStVoteSteps
import Derived.OpenShut
namespace Go.Proofs.Ytjbddcaamefgaaa.Pure
open Go.RowKit Go.Proofs.Ytjbddcaamefgaaa.Pr Go.Proofs.YtjbddcaamefgaaaW.PrintWords Go.Proofs.YtjbddcaamefgaaaW.PrintLast

theorem VoteSteps : latticelaw22_VoteSteps.Stated := by
  intro a0 a1 _ h1
  unfold latticelaw22_VoteSteps.f
  rw [if_pos]
  omega

end Go.Proofs.Ytjbddcaamefgaaa.Pure
