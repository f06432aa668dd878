import Derived.Test.YtebmempiednlgaaStCrcParts
import Derived.OpenShut
namespace Go.Proofs.Ytebmempiednlgaa.Pure
open Go.RowKit Go.Proofs.Ytebmempiednlgaa.Pr Go.Proofs.YtebmempiednlgaaW.PrintWords Go.Proofs.YtebmempiednlgaaW.PrintLast

theorem sum_ones : ∀ l : List Int, (l.map fun _ => 1).sum = l.length
  | [] => rfl
  | x :: l => by
    rw [List.map_cons, List.sum_cons, sum_ones l, List.length_cons, Nat.add_comm]
theorem CrcParts : latticelaw02_CrcParts.Stated := by
  intro a0 a1 h0 h1 h2
  unfold latticelaw02_CrcParts.f
  rw [if_pos]
  rw [sum_ones, sum_ones] at h2
  refine ⟨by omega, fun x hx => ?_, fun x hx => ?_⟩
  · have := Go.bounds_u8 (h0.2.2 x hx)
    omega
  · have := Go.bounds_u8 (h1.2.2 x hx)
    omega

end Go.Proofs.Ytebmempiednlgaa.Pure
