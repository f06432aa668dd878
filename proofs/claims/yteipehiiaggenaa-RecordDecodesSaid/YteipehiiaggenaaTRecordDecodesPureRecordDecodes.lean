import Derived.Test.YteipehiiaggenaaTRecordDecodesStRecordDecodes
import Derived.OpenShut
namespace Go.Proofs.Yteipehiiaggenaa.Pure
open Go.RowKit Go.Proofs.Yteipehiiaggenaa.Pr Go.Proofs.YteipehiiaggenaaW.PrintWords Go.Proofs.YteipehiiaggenaaW.PrintLast

theorem RecordDecodes : latticelaw09_RecordDecodes.Stated := by
  intro a0 h0
  unfold latticelaw09_RecordDecodes.f
  rw [if_pos]
  refine ⟨?_, ?_⟩
  · intro x hx
    have := Go.bounds_u8 (h0.2.2 x hx)
    omega
  · have := h0.2.1
    omega

end Go.Proofs.Yteipehiiaggenaa.Pure
