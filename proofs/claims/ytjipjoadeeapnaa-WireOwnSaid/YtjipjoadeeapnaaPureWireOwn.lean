import Derived.Test.YtjipjoadeeapnaaStWireOwn
import Derived.OpenShut
namespace Go.Proofs.Ytjipjoadeeapnaa.Pure
open Go.RowKit Go.Proofs.Ytjipjoadeeapnaa.Pr Go.Proofs.YtjipjoadeeapnaaW.PrintWords Go.Proofs.YtjipjoadeeapnaaW.PrintLast

theorem WireOwn : latticelaw01_WireOwn.Stated := by
  intro a0 h0
  unfold latticelaw01_WireOwn.f
  rw [if_pos]
  refine ⟨by omega, fun x hx => ?_⟩
  have := Go.bounds_u8 (h0.2.2 x hx)
  omega

end Go.Proofs.Ytjipjoadeeapnaa.Pure
