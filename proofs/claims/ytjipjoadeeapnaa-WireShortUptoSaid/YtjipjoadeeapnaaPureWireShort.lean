import Derived.Test.YtjipjoadeeapnaaStWireShort
import Derived.OpenShut
namespace Go.Proofs.Ytjipjoadeeapnaa.Pure
open Go.RowKit Go.Proofs.Ytjipjoadeeapnaa.Pr Go.Proofs.YtjipjoadeeapnaaW.PrintWords Go.Proofs.YtjipjoadeeapnaaW.PrintLast

theorem wlen_bulkS : ∀ l : List S27, Wire.wlen l ≤ 2 * (l.map fun y => bulk27 y).sum
  | [] => by simp [Wire.wlen]
  | x :: l => by
    have ih := wlen_bulkS l
    simp only [Wire.wlen, List.map_cons, List.sum_cons] at ih ⊢
    simp only [bulk27] at ih ⊢
    omega
theorem WireShort : latticelaw01_WireShort.Stated := by
  intro a0 a1 h0 _ h1
  unfold latticelaw01_WireShort.f
  rw [if_pos]
  have := wlen_bulkS a0
  refine ⟨by omega, fun x hx => ?_⟩
  have := Go.bounds_i64 (h0.2.2 x hx).1
  omega

end Go.Proofs.Ytjipjoadeeapnaa.Pure
