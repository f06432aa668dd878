import Derived.Test.YtjipjoadeeapnaaStWireReads
import Derived.OpenShut
namespace Go.Proofs.Ytjipjoadeeapnaa.Pure
open Go.RowKit Go.Proofs.Ytjipjoadeeapnaa.Pr Go.Proofs.YtjipjoadeeapnaaW.PrintWords Go.Proofs.YtjipjoadeeapnaaW.PrintLast

theorem WireReads : latticelaw01_WireReads.Stated := by
  intro a0 a1 h0 h1
  unfold latticelaw01_WireReads.f
  rw [if_pos]
  refine ⟨by omega, fun x hx => ?_⟩
  have := Go.bounds_u8 (h0.2.2 x hx)
  omega

end Go.Proofs.Ytjipjoadeeapnaa.Pure
