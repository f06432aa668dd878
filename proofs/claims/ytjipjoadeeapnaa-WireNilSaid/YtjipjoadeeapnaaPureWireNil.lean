import Derived.Test.YtjipjoadeeapnaaStWireNil
import Derived.OpenShut
namespace Go.Proofs.Ytjipjoadeeapnaa.Pure
open Go.RowKit Go.Proofs.Ytjipjoadeeapnaa.Pr Go.Proofs.YtjipjoadeeapnaaW.PrintWords Go.Proofs.YtjipjoadeeapnaaW.PrintLast

theorem WireNil : latticelaw01_WireNil.Stated := by
  intro a0 a1 a2 h0 h1 h2
  unfold latticelaw01_WireNil.f
  rw [if_pos]
  have := Go.bounds_i64 h0
  omega

end Go.Proofs.Ytjipjoadeeapnaa.Pure
