import Derived.Test.YtebmempiednlgaaStCrcSums
import Derived.OpenShut
namespace Go.Proofs.Ytebmempiednlgaa.Pure
open Go.RowKit Go.Proofs.Ytebmempiednlgaa.Pr Go.Proofs.YtebmempiednlgaaW.PrintWords Go.Proofs.YtebmempiednlgaaW.PrintLast

theorem CrcSums : latticelaw02_CrcSums.Stated := by
  intro a0 a1 h0 h1
  unfold latticelaw02_CrcSums.f
  rw [if_pos]
  exact fun x hx => by
    have := Go.bounds_u8 (h1.2.2 x hx)
    omega

end Go.Proofs.Ytebmempiednlgaa.Pure
