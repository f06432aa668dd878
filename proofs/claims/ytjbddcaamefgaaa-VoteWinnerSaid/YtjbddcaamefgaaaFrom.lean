/- The writers and readers that a law makes for itself: all that they hold lies from a block b on. And what the laws' 'speaks' tells. -/
import Derived.Test.YtjbddcaamefgaaaRead
namespace Go.Proofs.Ytjbddcaamefgaaa.Wire
open Go.RowKit Go.Proofs.YtjbddcaamefgaaaW.PrintWords Go.Proofs.YtjbddcaamefgaaaW.PrintLast Go.Proofs.YtjbddcaamefgaaaW.PrintMore
open Go.Proofs.Ytjbddcaamefgaaa.Back (numB numB_small numB_eight AllB hor hor_lt)
set_option linter.unusedVariables false
set_option linter.unusedSimpArgs false
def WrFrom (b : Nat) (w : World) (g : Nat) (xs : List Int) : Prop := ∃ F, WrAt w g xs F ∧ ∀ k, F k → b ≤ k
def RdFrom (b : Nat) (w : World) (g : Nat) (xs : List Int) (wrong : Int) : Prop := ∃ F, RdAt w g xs wrong F ∧ ∀ k, F k → b ≤ k
theorem WrFrom.below {b : Nat} {w w1 : World} {g : Nat} {xs : List Int} (h : WrFrom b w g xs) (hB : Below w.heap.size w w1) : WrFrom b w1 g xs := by
  obtain ⟨F, h1, h2⟩ := h
  exact ⟨F, h1.below hB, h2⟩
theorem RdFrom.below {b : Nat} {w w1 : World} {g : Nat} {xs : List Int} {wrong : Int} (h : RdFrom b w g xs wrong) (hB : Below w.heap.size w w1) : RdFrom b w1 g xs wrong := by
  obtain ⟨F, h1, h2⟩ := h
  exact ⟨F, h1.below hB, h2⟩
theorem WrFrom.drewN {b : Nat} {w : World} {g : Nat} {xs : List Int} (h : WrFrom b w g xs) (n : Nat) : WrFrom b (w.drewN n) g xs := h
theorem RdFrom.drewN {b : Nat} {w : World} {g : Nat} {xs : List Int} {wrong : Int} (h : RdFrom b w g xs wrong) (n : Nat) : RdFrom b (w.drewN n) g xs wrong := h
theorem below_from {w w1 w2 : World} {b : Nat} (h : Below b w w1) (hb : b ≤ w.heap.size) (k : Below w1.heap.size w1 w2) : Below b w w2 :=
  h.trans ⟨k.os, k.tape, k.output, k.size, fun i hi => k.block i (by have := h.size; omega)⟩
theorem below_lower {w w1 : World} {b : Nat} (h : Below w.heap.size w w1) (hb : b ≤ w.heap.size) : Below b w w1 := ⟨h.os, h.tape, h.output, h.size, fun i hi => h.block i (by omega)⟩
theorem new_from (w : World) : Calls Try.prog 33 #[] w fun e w' => e = .returned (.pointer (some ⟨w.heap.size, 0, none⟩)) ∧ WrFrom w.heap.size w' w.heap.size [] ∧ Below w.heap.size w w' := by
  refine (new_ok w).mono ?_
  rintro e w' ⟨rfl, h1, h2⟩
  exact ⟨rfl, ⟨_, h1, fun k hk => by rw [hk]; exact Nat.le_refl _⟩, h2⟩
theorem num_from {b g : Nat} {xs : List Int} {w : World} (n size : Int) (hw : WrFrom b w g xs) (hb : b ≤ w.heap.size) (hn : n < 9223372036854775808) (hl : xs.length + 8 ≤ 140737488355328) :
    Calls Try.prog 34 #[.pointer (some ⟨g, 0, none⟩), .int .i64 n, .int .i64 size] w fun e w' => e = .returned (.int .i64 (if numOk n size = true then 0 else 1)) ∧ WrFrom b w' g (if numOk n size = true then xs ++ le n size.toNat else xs) ∧ Below b w w' := by
  obtain ⟨F, hF, hFb⟩ := hw
  by_cases h : numOk n size = true
  · rw [if_pos h, if_pos h]
    refine (num_ok g xs F n size w h hF hl).mono ?_
    rintro e w' ⟨rfl, F', h1, h2, h3⟩
    exact ⟨rfl, ⟨F', h1, fun k hk => (h3 k hk).elim (hFb k) (fun h => Nat.le_trans hb h)⟩, h2.below hb hFb⟩
  · rw [if_neg h, if_neg h]
    refine (num_err _ n size w (by simpa using h) hn).mono ?_
    rintro e w' ⟨rfl, ⟨nd, rfl⟩⟩
    exact ⟨rfl, ⟨F, hF, hFb⟩, below_lower (pw_below_drewN (Below.refl _ _) _) hb⟩
theorem bytes_from {b g : Nat} {xs : List Int} {w : World} (hw : WrFrom b w g xs) (hl : xs.length ≤ 140737488355328) :
    Calls Try.prog 36 #[.pointer (some ⟨g, 0, none⟩)] w fun e w' => ∃ A c, e = .returned (.slice A xs.length c) ∧ xs.length ≤ c ∧ Kd.C (Kd.int .u8) w' A xs.length xs ∧ Below w.heap.size w w' ∧ (∀ ad, A = some ad → w.heap.size ≤ ad.block) := by
  obtain ⟨F, hF, hFb⟩ := hw
  refine (bytes_ok g xs F w hF hl).mono ?_
  rintro e w' ⟨u, rfl, hR, hB⟩
  obtain ⟨A, c, rfl, hlc, hC⟩ := Kd.R_reads hR
  exact ⟨A, c, rfl, hlc, hC, hB, fun ad e => ((Kd.R_bound hR).1 ad.block (by subst e; rfl)).2.1⟩
theorem of_from {A : Option Addr} {c : Nat} {xs : List Int} {w : World} (hr : Kd.C (Kd.int .u8) w A xs.length xs) (hl : xs.length ≤ 140737488355328) :
    Calls Try.prog 40 #[.slice A xs.length c] w fun e w' => ∃ g, e = .returned (.pointer (some ⟨g, 0, none⟩)) ∧ RdFrom w.heap.size w' g xs 0 ∧ Below w.heap.size w w' := by
  refine (of_ok A c xs w hr hl).mono ?_
  rintro e w' ⟨g, F, rfl, h1, h2, h3, h4⟩
  exact ⟨g, rfl, ⟨F, h1, h4⟩, h2⟩
theorem rdnum_from {b g : Nat} {xs : List Int} {wrong : Int} {w : World} (size : Int) (hr : RdFrom b w g xs wrong) (hb : b ≤ w.heap.size) (hl : xs.length ≤ 140737488355328) :
    Calls Try.prog 41 #[.pointer (some ⟨g, 0, none⟩), .int .i64 size] w fun e w' => e = .returned (.tuple #[.int .i64 (rdNum xs wrong size).1.1, .int .i64 (rdNum xs wrong size).1.2]) ∧ RdFrom b w' g (rdNum xs wrong size).2.1 (rdNum xs wrong size).2.2 ∧ Below b w w' := by
  obtain ⟨F, hF, hFb⟩ := hr
  refine (rdnum_ok g xs wrong size F w hF hl).mono ?_
  rintro e w' ⟨rfl, h1, h2⟩
  exact ⟨rfl, ⟨F, h1, hFb⟩, h2.below hb (fun k hk => by rw [show k = g from hk]; exact hFb g hF.mine)⟩
theorem end_from {b g : Nat} {xs : List Int} {wrong : Int} {w : World} (hr : RdFrom b w g xs wrong) :
    Calls Try.prog 42 #[.pointer (some ⟨g, 0, none⟩)] w fun e w' => e = .returned (.int .i64 (rdEnd xs wrong)) ∧ Drawn0 w w' := by
  obtain ⟨F, hF, _⟩ := hr
  exact end_ok g xs wrong F w hF
end Go.Proofs.Ytjbddcaamefgaaa.Wire
