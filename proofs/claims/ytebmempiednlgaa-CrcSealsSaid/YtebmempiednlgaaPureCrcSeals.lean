import Derived.Test.YtebmempiednlgaaStCrcSeals
import Derived.OpenShut
namespace Go.Proofs.Ytebmempiednlgaa.Pure
open Go.RowKit Go.Proofs.Ytebmempiednlgaa.Pr Go.Proofs.YtebmempiednlgaaW.PrintWords Go.Proofs.YtebmempiednlgaaW.PrintLast

theorem CrcSeals : latticelaw02_CrcSeals.Stated := by
  intro a0 h0
  unfold latticelaw02_CrcSeals.f
  rw [if_pos]
  refine ⟨by omega, fun x hx => ?_⟩
  have := Go.bounds_u8 (h0.2.2 x hx)
  omega

end Go.Proofs.Ytebmempiednlgaa.Pure
