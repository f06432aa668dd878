import Derived.Test.YtjbddcaamefgaaaStVoteNil
import Derived.OpenShut
namespace Go.Proofs.Ytjbddcaamefgaaa.Pure
open Go.RowKit Go.Proofs.Ytjbddcaamefgaaa.Pr Go.Proofs.YtjbddcaamefgaaaW.PrintWords Go.Proofs.YtjbddcaamefgaaaW.PrintLast

theorem VoteNil : latticelaw22_VoteNil.Stated := by
  intro a0 a1 _ _
  rfl

end Go.Proofs.Ytjbddcaamefgaaa.Pure
