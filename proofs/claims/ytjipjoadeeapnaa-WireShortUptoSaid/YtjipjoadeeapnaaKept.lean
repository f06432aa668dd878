/- What the laws WireBack and WireShort hold: a writer, the items that were written, and where each ended. -/
import Derived.Test.YtjipjoadeeapnaaThere
import Derived.Test.YtjipjoadeeapnaaWrites
namespace Go.Proofs.Ytjipjoadeeapnaa.Wire
open Go.RowKit Go.Proofs.YtjipjoadeeapnaaW.PrintWords Go.Proofs.YtjipjoadeeapnaaW.PrintLast Go.Proofs.YtjipjoadeeapnaaW.PrintMore Go.Proofs.Ytjipjoadeeapnaa.Pr
open Go.Proofs.Ytjipjoadeeapnaa.Back (AllB)
set_option linter.unusedVariables false
set_option linter.unusedSimpArgs false
theorem infoI : (Try.prog.info? 27).map (fun i => (i.zero, i.size, i.bytes)) = some (some (.agg #[.int .i64 0, .int .i64 0, .string ⟨#[]⟩]), 3, 32) := by kernel_rfl
theorem infoN : (Try.prog.info? 3).map (fun i => (i.zero, i.size, i.bytes)) = some (some (.int .i64 0), 1, 8) := by kernel_rfl
theorem row_keep {α : Type} {d : Kd α} {e base : Nat} {w w1 : World} {v : Value} {xs : List α} {S : Nat → Prop} (hE : d.E = []) (h : d.R e w base (fun _ => True) v xs) (hc : Chg w w1 S) (hn : ∀ k, v.ownBlock = some k → ¬ S k) : d.R e w1 base (fun _ => True) v xs :=
  Kd.R_reok hE (R_chg (Kd.R_reok hE h (ok := fun k => some k = v.ownBlock) (fun k hk => hk.symm)) hc (fun k hk => hn k hk.symm)) (fun _ _ => trivial)
structure Kept2 (w wr : World) (g : Nat) (F : Nat → Prop) (v6 v7 : Value) (ys : List Int) (kept : List S27) (ends : List Int) : Prop where
  at_ : WrAt wr g ys F
  low : ∀ k, F k → w.heap.size ≤ k
  row6 : k27.R 27 wr w.heap.size (fun _ => True) v6 kept
  row7 : (Kd.int .i64).R 3 wr w.heap.size (fun _ => True) v7 ends
  ap6 : ∀ k, v6.ownBlock = some k → ¬ F k
  ap7 : ∀ k, v7.ownBlock = some k → ¬ F k
  ap : ∀ k, v6.ownBlock = some k → v7.ownBlock ≠ some k
  below : Below w.heap.size w wr
section
variable {w wr w1 : World} {g : Nat} {F : Nat → Prop} {v6 v7 : Value} {ys : List Int} {kept : List S27} {ends : List Int}
theorem Kept2.step (h : Kept2 w wr g F v6 v7 ys kept ends) (hc : Chg wr w1 (fun _ => False)) : Kept2 w w1 g F v6 v7 ys kept ends :=
  ⟨h.at_.chg hc (fun _ _ h => h), h.low, row_keep rfl h.row6 hc (fun _ _ h => h), row_keep rfl h.row7 hc (fun _ _ h => h), h.ap6, h.ap7, h.ap, h.below.trans (hc.below h.below.size (fun _ h => h.elim))⟩
theorem Kept2.alloc (h : Kept2 w wr g F v6 v7 ys kept ends) (o : Obj) : Kept2 w (wr.alloc o) g F v6 v7 ys kept ends := h.step ((Chg.refl wr _).alloc o)
theorem Kept2.drewN (h : Kept2 w wr g F v6 v7 ys kept ends) (n : Nat) : Kept2 w (wr.drewN n) g F v6 v7 ys kept ends := h.step ((Chg.refl wr _).drewN n)
theorem Kept2.gone {ys' : List Int} (h : Kept2 w wr g F v6 v7 ys kept ends) (hg : WrGone wr w1 g ys' F) : ∃ F', Kept2 w w1 g F' v6 v7 ys' kept ends := by
  obtain ⟨F', h1, h2, h3⟩ := hg
  have hs := h.below.size
  have l6 := Kd.R_lt h.row6
  have l7 := Kd.R_lt h.row7
  exact ⟨F', h1, fun k hk => (h3 k hk).elim (h.low k) (fun h => by omega), row_keep rfl h.row6 h2 h.ap6, row_keep rfl h.row7 h2 h.ap7, fun k hk hf => (h3 k hf).elim (h.ap6 k hk) (fun h => by have := l6 k hk; omega), fun k hk hf => (h3 k hf).elim (h.ap7 k hk) (fun h => by have := l7 k hk; omega), h.ap, h.below.trans (h2.below hs h.low)⟩
theorem Kept2.app6 {v1 : Value} {kept' : List S27} (h : Kept2 w wr g F v6 v7 ys kept ends) (ho : k27.R 27 w1 w.heap.size (fun _ => True) v1 kept') (hb : Below w.heap.size w w1) (hg : wr.grownBy w1 v6.ownBlock) (hat : v1.ownBlock = v6.ownBlock ∨ ∃ b, v1.ownBlock = some b ∧ wr.heap.size ≤ b) : Kept2 w w1 g F v1 v7 ys kept' ends := by
  have hF : ∀ k, F k → k < wr.heap.size := by obtain ⟨_, _, _, _, _, h⟩ := h.at_; exact h
  have l7 := Kd.R_lt h.row7
  refine ⟨h.at_.chg (Chg.of_grown hg) (fun k hk e => h.ap6 k e.symm hk), h.low, ho, row_keep rfl h.row7 (Chg.of_grown hg) (fun k hk e => h.ap k e.symm hk), ?_, h.ap7, ?_, hb⟩
  · intro k hk hf
    rcases hat with e | ⟨b, e, hb⟩
    · exact h.ap6 k (e ▸ hk) hf
    · rw [e] at hk; injection hk with hk; have := hF k hf; omega
  · intro k hk hf
    rcases hat with e | ⟨b, e, hb⟩
    · exact h.ap k (e ▸ hk) hf
    · rw [e] at hk; injection hk with hk; have := l7 k hf; omega
theorem Kept2.app7 {v1 : Value} {ends' : List Int} (h : Kept2 w wr g F v6 v7 ys kept ends) (ho : (Kd.int .i64).R 3 w1 w.heap.size (fun _ => True) v1 ends') (hb : Below w.heap.size w w1) (hg : wr.grownBy w1 v7.ownBlock) (hat : v1.ownBlock = v7.ownBlock ∨ ∃ b, v1.ownBlock = some b ∧ wr.heap.size ≤ b) : Kept2 w w1 g F v6 v1 ys kept ends' := by
  have hF : ∀ k, F k → k < wr.heap.size := by obtain ⟨_, _, _, _, _, h⟩ := h.at_; exact h
  have l6 := Kd.R_lt h.row6
  refine ⟨h.at_.chg (Chg.of_grown hg) (fun k hk e => h.ap7 k e.symm hk), h.low, row_keep rfl h.row6 (Chg.of_grown hg) (fun k hk e => h.ap k hk e.symm), ho, h.ap6, ?_, ?_, hb⟩
  · intro k hk hf
    rcases hat with e | ⟨b, e, hb⟩
    · exact h.ap7 k (e ▸ hk) hf
    · rw [e] at hk; injection hk with hk; have := hF k hf; omega
  · intro k hk hf
    rcases hat with e | ⟨b, e, hb⟩
    · exact h.ap k hk (e ▸ hf)
    · rw [e] at hf; injection hf with hf; have := l6 k hk; omega
end
end Go.Proofs.Ytjipjoadeeapnaa.Wire
