import Derived.Test.YtebmempiednlgaaStCrcMixed
import Derived.OpenShut
namespace Go.Proofs.Ytebmempiednlgaa.Pure
open Go.RowKit Go.Proofs.Ytebmempiednlgaa.Pr Go.Proofs.YtebmempiednlgaaW.PrintWords Go.Proofs.YtebmempiednlgaaW.PrintLast

theorem CrcMixed : latticelaw02_CrcMixed.Stated := by
  intro a0 a1 a2 h0 h1 h2
  unfold latticelaw02_CrcMixed.f
  rw [if_pos]
  refine ⟨by omega, fun x hx => ?_, fun x hx => ?_, fun x hx => ?_⟩
  · have := Go.bounds_u8 (h0.2.2 x hx)
    omega
  · have := Go.bounds_u8 (h1.2.2 x hx)
    omega
  · have := Go.bounds_u8 (h2.2.2 x hx)
    omega

end Go.Proofs.Ytebmempiednlgaa.Pure
