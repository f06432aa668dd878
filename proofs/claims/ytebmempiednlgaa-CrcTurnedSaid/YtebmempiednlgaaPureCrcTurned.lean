import Derived.Test.YtebmempiednlgaaStCrcTurned
import Derived.OpenShut
namespace Go.Proofs.Ytebmempiednlgaa.Pure
open Go.RowKit Go.Proofs.Ytebmempiednlgaa.Pr Go.Proofs.YtebmempiednlgaaW.PrintWords Go.Proofs.YtebmempiednlgaaW.PrintLast

theorem CrcTurned : latticelaw02_CrcTurned.Stated := by
  intro a0 a1 a2 h0 _ _
  unfold latticelaw02_CrcTurned.f
  rw [if_pos]
  refine ⟨by omega, fun x hx => ?_⟩
  have := Go.bounds_u8 (h0.2.2 x hx)
  omega

end Go.Proofs.Ytebmempiednlgaa.Pure
