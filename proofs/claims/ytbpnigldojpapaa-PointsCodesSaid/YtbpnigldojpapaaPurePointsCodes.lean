import Derived.Test.YtbpnigldojpapaaStPointsCodes
import Derived.OpenShut
namespace Go.Proofs.Ytbpnigldojpapaa.Pure
open Go.RowKit Go.Proofs.Ytbpnigldojpapaa.Pr Go.Proofs.YtbpnigldojpapaaW.PrintWords Go.Proofs.YtbpnigldojpapaaW.PrintLast

theorem PointsCodes : latticelaw15_PointsCodes.Stated := by
  intro a0 a1 h0 h1
  unfold latticelaw15_PointsCodes.f
  rw [if_pos]
  refine ⟨by omega, fun x hx => ?_, ?_⟩
  · have := Go.bounds_u8 (h1.2.2 x hx)
    omega
  · have := Go.bounds_i64 h0.2.2
    omega

end Go.Proofs.Ytbpnigldojpapaa.Pure
