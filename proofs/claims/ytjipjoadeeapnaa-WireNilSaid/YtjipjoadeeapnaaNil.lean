/- The law WireNil, walked. -/
import Derived.Test.YtjipjoadeeapnaaFits
namespace Go.Proofs.Ytjipjoadeeapnaa.Wire
open Go.RowKit Go.Proofs.YtjipjoadeeapnaaW.PrintWords Go.Proofs.YtjipjoadeeapnaaW.PrintLast Go.Proofs.YtjipjoadeeapnaaW.PrintMore
set_option linter.unusedVariables false
set_option linter.unusedSimpArgs false
theorem wnum_nil (n size : Int) (w : World) (hn : n < 9223372036854775808) : Calls Try.prog 12 #[.pointer none, .int .i64 n, .int .i64 size] w fun e w' => e = .returned (.int .i64 (if numOk n size = true then 7 else 1)) ∧ Drawn0 w w' := by
  by_cases h : numOk n size = true
  · rw [if_pos h]; exact num_nil n size w h
  · rw [if_neg h]; exact num_err _ n size w (by simpa using h) hn
theorem wtext_nil (s : ByteArray) (w : World) : Calls Try.prog 10 #[.pointer none, .string s] w fun e w' => e = .returned (.int .i64 (if s.size ≤ 65535 then 7 else 2)) ∧ Drawn0 w w' := by
  by_cases h : s.size ≤ 65535
  · rw [if_pos h]; exact text_nil s w h
  · rw [if_neg h]
    refine (text_long _ s w (by omega)).mono ?_
    rintro e w' ⟨rfl, rfl⟩
    exact ⟨rfl, Drawn0.refl _⟩
theorem rtext_nil (n : Int) (w : World) : Calls Try.prog 18 #[.pointer none, .int .i64 n] w fun e w' => e = .returned (.tuple #[.string .empty, .int .i64 (if n < 0 then 1 else 10)]) ∧ w = w' := by
  by_cases h : n < 0
  · rw [if_pos h]; exact rdtext_arg _ n w h
  · rw [if_neg h]; exact rdtext_nil n w h
set_option maxRecDepth 100000 in
set_option maxHeartbeats 8000000 in
theorem nil_ok (n size : Int) (s : ByteArray) (w : World) (hn : n < 9223372036854775808) : Calls Try.prog 8 #[.int .i64 n, .int .i64 size, .string s] w fun e w' => e = .returned (.bool true) ∧ Below w.heap.size w w' := by
  have c1 := fun W => wnum_nil n size W hn
  have c2 := fun W => wtext_nil s W
  have c3 := fun W => rdnum_nil size W
  have c4 := fun W => rtext_nil n W
  have c5 := fun W => fits_any n size W hn
  have c6 := fun W => sized_ref size W
  have c7 := fun W => bytes_nil W
  have c8 := fun W => left_nil W
  have c9 := fun W => end_nil W
  have c0 := fun W => speaks_ok W
  obtain ⟨x1, b1, h1, k1, hc1⟩ : ∃ x b, (if numOk n size = true then (7 : Int) else 1) = x ∧ numOk n size = b ∧ ((x = 7 ∧ b = true) ∨ (x = 1 ∧ b = false)) := ⟨_, _, rfl, rfl, by cases numOk n size <;> simp⟩
  obtain ⟨x2, h2, hc2⟩ : ∃ x, (if s.size ≤ 65535 then (7 : Int) else 2) = x ∧ ((x = 7 ∧ decide ((s.size : Int) > 65535) = false ∧ s.size ≤ 65535) ∨ (x = 2 ∧ decide ((s.size : Int) > 65535) = true ∧ 65535 < s.size)) := ⟨_, rfl, by by_cases h : s.size ≤ 65535 <;> simp [h] <;> omega⟩
  obtain ⟨x3, b3, h3, k3, hc3⟩ : ∃ x b, (if sizedB size = true then (10 : Int) else 1) = x ∧ sizedB size = b ∧ ((x = 10 ∧ b = true) ∨ (x = 1 ∧ b = false)) := ⟨_, _, rfl, rfl, by cases sizedB size <;> simp⟩
  obtain ⟨x4, h4, hc4⟩ : ∃ x, (if n < 0 then (1 : Int) else 10) = x ∧ ((x = 1 ∧ decide (n < 0) = true) ∨ (x = 10 ∧ decide (n < 0) = false)) := ⟨_, rfl, by by_cases h : n < 0 <;> simp [h]⟩
  rw [h1] at c1
  rw [k1] at c5
  rw [h2] at c2
  rw [h3] at c3
  rw [k3] at c6
  rw [h4] at c4
  clear h1 k1 h2 h3 k3 h4 hn
  rcases hc1 with ⟨rfl, rfl⟩ | ⟨rfl, rfl⟩ <;> rcases hc2 with ⟨rfl, h2, h2'⟩ | ⟨rfl, h2, h2'⟩ <;> rcases hc3 with ⟨rfl, rfl⟩ | ⟨rfl, rfl⟩ <;> rcases hc4 with ⟨rfl, h4⟩ | ⟨rfl, h4⟩
  all_goals
    go_enter Try.func8, Try.ntmps8
    go_wp2_with (first
      | (go_at_call 12; refine (c1 _).mono ?_; rintro e w' ⟨rfl, ⟨nd1, rfl⟩⟩)
      | (go_at_call 10; refine (c2 _).mono ?_; rintro e w' ⟨rfl, ⟨nd2, rfl⟩⟩)
      | (go_at_call 19; refine (c3 _).mono ?_; rintro e w' ⟨rfl, ⟨nd3, rfl⟩⟩)
      | (go_at_call 18; refine (c4 _).mono ?_; rintro e w' ⟨rfl, rfl⟩)
      | (go_at_call 13; refine (c5 _).mono ?_; rintro e w' ⟨rfl, ⟨nd5, rfl⟩⟩)
      | (go_at_call 25; refine (c6 _).mono ?_; rintro e w' ⟨rfl, ⟨nd6, rfl⟩⟩)
      | (go_at_call 15; refine (c7 _).mono ?_; rintro e w' ⟨rfl, rfl⟩)
      | (go_at_call 22; refine (c8 _).mono ?_; rintro e w' ⟨rfl, rfl⟩)
      | (go_at_call 23; refine (c9 _).mono ?_; rintro e w' ⟨rfl, rfl⟩)
      | (go_at_call 16; refine (c0 _).mono ?_; rintro e w' ⟨rfl, hB⟩; (have HB := Aside0.mk hB); clear hB))
    go_ret
    exact ⟨rfl, HB.out.os, HB.out.tape, HB.out.output, HB.out.size, HB.out.block⟩
end Go.Proofs.Ytjipjoadeeapnaa.Wire
