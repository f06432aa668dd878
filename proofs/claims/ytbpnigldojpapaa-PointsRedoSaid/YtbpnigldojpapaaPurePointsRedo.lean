import Derived.Test.YtbpnigldojpapaaStPointsRedo
import Derived.OpenShut
namespace Go.Proofs.Ytbpnigldojpapaa.Pure
open Go.RowKit Go.Proofs.Ytbpnigldojpapaa.Pr Go.Proofs.YtbpnigldojpapaaW.PrintWords Go.Proofs.YtbpnigldojpapaaW.PrintLast

theorem PointsRedo : latticelaw15_PointsRedo.Stated := by
  intro a0 a1 h0 _
  unfold latticelaw15_PointsRedo.f
  rw [if_pos]
  omega

end Go.Proofs.Ytbpnigldojpapaa.Pure
