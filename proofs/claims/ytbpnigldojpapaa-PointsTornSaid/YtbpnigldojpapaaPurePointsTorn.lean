import Derived.Test.YtbpnigldojpapaaStPointsTorn
import Derived.OpenShut
namespace Go.Proofs.Ytbpnigldojpapaa.Pure
open Go.RowKit Go.Proofs.Ytbpnigldojpapaa.Pr Go.Proofs.YtbpnigldojpapaaW.PrintWords Go.Proofs.YtbpnigldojpapaaW.PrintLast

theorem PointsTorn : latticelaw15_PointsTorn.Stated := by
  intro a0 a1 h0 _
  unfold latticelaw15_PointsTorn.f
  rw [if_pos]
  omega

end Go.Proofs.Ytbpnigldojpapaa.Pure
