import Derived.Test.YtjbddcaamefgaaaStVoteOnce
import Derived.OpenShut
namespace Go.Proofs.Ytjbddcaamefgaaa.Pure
open Go.RowKit Go.Proofs.Ytjbddcaamefgaaa.Pr Go.Proofs.YtjbddcaamefgaaaW.PrintWords Go.Proofs.YtjbddcaamefgaaaW.PrintLast

theorem VoteOnce : latticelaw22_VoteOnce.Stated := by
  intro a0 h1
  unfold latticelaw22_VoteOnce.f
  rw [if_pos]
  omega

end Go.Proofs.Ytjbddcaamefgaaa.Pure
