/- The writers and readers that a law makes for itself: all that they hold lies from a block b on. And what the laws' 'speaks' tells. -/
import Derived.Test.YtjipjoadeeapnaaRead
namespace Go.Proofs.Ytjipjoadeeapnaa.Wire
open Go.RowKit Go.Proofs.YtjipjoadeeapnaaW.PrintWords Go.Proofs.YtjipjoadeeapnaaW.PrintLast Go.Proofs.YtjipjoadeeapnaaW.PrintMore
open Go.Proofs.Ytjipjoadeeapnaa.Back (numB numB_small numB_eight AllB hor hor_lt)
set_option linter.unusedVariables false
set_option linter.unusedSimpArgs false
def WrFrom (b : Nat) (w : World) (g : Nat) (xs : List Int) : Prop := ∃ F, WrAt w g xs F ∧ ∀ k, F k → b ≤ k
def RdFrom (b : Nat) (w : World) (g : Nat) (xs : List Int) (wrong : Int) : Prop := ∃ F, RdAt w g xs wrong F ∧ ∀ k, F k → b ≤ k
theorem WrFrom.below {b : Nat} {w w1 : World} {g : Nat} {xs : List Int} (h : WrFrom b w g xs) (hB : Below w.heap.size w w1) : WrFrom b w1 g xs := by
  obtain ⟨F, h1, h2⟩ := h
  exact ⟨F, h1.below hB, h2⟩
theorem RdFrom.below {b : Nat} {w w1 : World} {g : Nat} {xs : List Int} {wrong : Int} (h : RdFrom b w g xs wrong) (hB : Below w.heap.size w w1) : RdFrom b w1 g xs wrong := by
  obtain ⟨F, h1, h2⟩ := h
  exact ⟨F, h1.below hB, h2⟩
theorem WrFrom.drewN {b : Nat} {w : World} {g : Nat} {xs : List Int} (h : WrFrom b w g xs) (n : Nat) : WrFrom b (w.drewN n) g xs := h
theorem RdFrom.drewN {b : Nat} {w : World} {g : Nat} {xs : List Int} {wrong : Int} (h : RdFrom b w g xs wrong) (n : Nat) : RdFrom b (w.drewN n) g xs wrong := h
theorem below_from {w w1 w2 : World} {b : Nat} (h : Below b w w1) (hb : b ≤ w.heap.size) (k : Below w1.heap.size w1 w2) : Below b w w2 :=
  h.trans ⟨k.os, k.tape, k.output, k.size, fun i hi => k.block i (by have := h.size; omega)⟩
theorem below_lower {w w1 : World} {b : Nat} (h : Below w.heap.size w w1) (hb : b ≤ w.heap.size) : Below b w w1 := ⟨h.os, h.tape, h.output, h.size, fun i hi => h.block i (by omega)⟩
theorem new_from (w : World) : Calls Try.prog 9 #[] w fun e w' => e = .returned (.pointer (some ⟨w.heap.size, 0, none⟩)) ∧ WrFrom w.heap.size w' w.heap.size [] ∧ Below w.heap.size w w' := by
  refine (new_ok w).mono ?_
  rintro e w' ⟨rfl, h1, h2⟩
  exact ⟨rfl, ⟨_, h1, fun k hk => by rw [hk]; exact Nat.le_refl _⟩, h2⟩
theorem num_from {b g : Nat} {xs : List Int} {w : World} (n size : Int) (hw : WrFrom b w g xs) (hb : b ≤ w.heap.size) (hn : n < 9223372036854775808) (hl : xs.length + 8 ≤ 140737488355328) :
    Calls Try.prog 12 #[.pointer (some ⟨g, 0, none⟩), .int .i64 n, .int .i64 size] w fun e w' => e = .returned (.int .i64 (if numOk n size = true then 0 else 1)) ∧ WrFrom b w' g (if numOk n size = true then xs ++ le n size.toNat else xs) ∧ Below b w w' := by
  obtain ⟨F, hF, hFb⟩ := hw
  by_cases h : numOk n size = true
  · rw [if_pos h, if_pos h]
    refine (num_ok g xs F n size w h hF hl).mono ?_
    rintro e w' ⟨rfl, F', h1, h2, h3⟩
    exact ⟨rfl, ⟨F', h1, fun k hk => (h3 k hk).elim (hFb k) (fun h => Nat.le_trans hb h)⟩, h2.below hb hFb⟩
  · rw [if_neg h, if_neg h]
    refine (num_err _ n size w (by simpa using h) hn).mono ?_
    rintro e w' ⟨rfl, ⟨nd, rfl⟩⟩
    exact ⟨rfl, ⟨F, hF, hFb⟩, below_lower (pw_below_drewN (Below.refl _ _) _) hb⟩
theorem text_from {b g : Nat} {xs : List Int} {w : World} (s : ByteArray) (hw : WrFrom b w g xs) (hb : b ≤ w.heap.size) (hl : xs.length + 8 + 65535 ≤ 140737488355328) :
    Calls Try.prog 10 #[.pointer (some ⟨g, 0, none⟩), .string s] w fun e w' => e = .returned (.int .i64 (if s.size ≤ 65535 then 0 else 2)) ∧ WrFrom b w' g (if s.size ≤ 65535 then xs ++ (le s.size 2 ++ bytesOf s) else xs) ∧ Below b w w' := by
  obtain ⟨F, hF, hFb⟩ := hw
  by_cases h : s.size ≤ 65535
  · rw [if_pos h, if_pos h]
    refine (text_ok g xs F s w h hF hl).mono ?_
    rintro e w' ⟨rfl, F', h1, h2, h3⟩
    exact ⟨rfl, ⟨F', h1, fun k hk => (h3 k hk).elim (hFb k) (fun h => Nat.le_trans hb h)⟩, h2.below hb hFb⟩
  · rw [if_neg h, if_neg h]
    refine (text_long _ s w (by omega)).mono ?_
    rintro e w' ⟨rfl, rfl⟩
    exact ⟨rfl, ⟨F, hF, hFb⟩, Below.refl _ _⟩
theorem bytes_from {b g : Nat} {xs : List Int} {w : World} (hw : WrFrom b w g xs) (hl : xs.length ≤ 140737488355328) :
    Calls Try.prog 15 #[.pointer (some ⟨g, 0, none⟩)] w fun e w' => ∃ A c, e = .returned (.slice A xs.length c) ∧ xs.length ≤ c ∧ Kd.C (Kd.int .u8) w' A xs.length xs ∧ Below w.heap.size w w' ∧ (∀ ad, A = some ad → w.heap.size ≤ ad.block) := by
  obtain ⟨F, hF, hFb⟩ := hw
  refine (bytes_ok g xs F w hF hl).mono ?_
  rintro e w' ⟨u, rfl, hR, hB⟩
  obtain ⟨A, c, rfl, hlc, hC⟩ := Kd.R_reads hR
  exact ⟨A, c, rfl, hlc, hC, hB, fun ad e => ((Kd.R_bound hR).1 ad.block (by subst e; rfl)).2.1⟩
theorem of_from {A : Option Addr} {c : Nat} {xs : List Int} {w : World} (hr : Kd.C (Kd.int .u8) w A xs.length xs) (hl : xs.length ≤ 140737488355328) :
    Calls Try.prog 17 #[.slice A xs.length c] w fun e w' => ∃ g, e = .returned (.pointer (some ⟨g, 0, none⟩)) ∧ RdFrom w.heap.size w' g xs 0 ∧ Below w.heap.size w w' := by
  refine (of_ok A c xs w hr hl).mono ?_
  rintro e w' ⟨g, F, rfl, h1, h2, h3, h4⟩
  exact ⟨g, rfl, ⟨F, h1, h4⟩, h2⟩
theorem rdnum_from {b g : Nat} {xs : List Int} {wrong : Int} {w : World} (size : Int) (hr : RdFrom b w g xs wrong) (hb : b ≤ w.heap.size) (hl : xs.length ≤ 140737488355328) :
    Calls Try.prog 19 #[.pointer (some ⟨g, 0, none⟩), .int .i64 size] w fun e w' => e = .returned (.tuple #[.int .i64 (rdNum xs wrong size).1.1, .int .i64 (rdNum xs wrong size).1.2]) ∧ RdFrom b w' g (rdNum xs wrong size).2.1 (rdNum xs wrong size).2.2 ∧ Below b w w' := by
  obtain ⟨F, hF, hFb⟩ := hr
  refine (rdnum_ok g xs wrong size F w hF hl).mono ?_
  rintro e w' ⟨rfl, h1, h2⟩
  exact ⟨rfl, ⟨F, h1, hFb⟩, h2.below hb (fun k hk => by rw [show k = g from hk]; exact hFb g hF.mine)⟩
theorem take2_ok {xs : List Int} (hb : AllB xs) : 2 ≤ xs.length → 0 ≤ numB (xs.take 2) ∧ numB (xs.take 2) < 65536 := by
  intro h
  have hbt : AllB (xs.take 2) := fun x hx => hb x (List.mem_of_mem_take hx)
  have hl : (xs.take 2).length = 2 := by rw [List.length_take]; omega
  have h1 := hor_lt hbt
  rw [numB_small hbt (by omega)]
  rw [hl] at h1
  omega
theorem rdtext_from {b g : Nat} {xs : List Int} {wrong : Int} {w : World} (most : Int) (hr : RdFrom b w g xs wrong) (hb : b ≤ w.heap.size) (hl : xs.length ≤ 140737488355328) (hx : AllB xs) :
    Calls Try.prog 18 #[.pointer (some ⟨g, 0, none⟩), .int .i64 most] w fun e w' => e = .returned (.tuple #[.string (strOfNums (rdText xs wrong most).1.1), .int .i64 (rdText xs wrong most).1.2]) ∧ RdFrom b w' g (rdText xs wrong most).2.1 (rdText xs wrong most).2.2 ∧ Below b w w' := by
  obtain ⟨F, hF, hFb⟩ := hr
  refine (rdtext_ok g xs wrong most F w hF hl (take2_ok hx)).mono ?_
  rintro e w' ⟨rfl, h1, h2⟩
  exact ⟨rfl, ⟨F, h1, hFb⟩, h2.below hb (fun k hk => by rw [show k = g from hk]; exact hFb g hF.mine)⟩
theorem end_from {b g : Nat} {xs : List Int} {wrong : Int} {w : World} (hr : RdFrom b w g xs wrong) :
    Calls Try.prog 23 #[.pointer (some ⟨g, 0, none⟩)] w fun e w' => e = .returned (.int .i64 (rdEnd xs wrong)) ∧ Drawn0 w w' := by
  obtain ⟨F, hF, _⟩ := hr
  exact end_ok g xs wrong F w hF
theorem left_from {b g : Nat} {xs : List Int} {wrong : Int} {w : World} (hr : RdFrom b w g xs wrong) :
    Calls Try.prog 22 #[.pointer (some ⟨g, 0, none⟩)] w fun e w' => e = .returned (.int .i64 xs.length) ∧ w = w' := by
  obtain ⟨F, hF, _⟩ := hr
  exact left_ok g xs wrong F w hF
set_option maxRecDepth 100000 in
set_option maxHeartbeats 8000000 in
theorem speaks_ok (w : World) : Calls Try.prog 16 #[] w fun e w' => e = .returned (.bool true) ∧ Below w.heap.size w w' := by
  have hnew := new_from w
  have q1 : [] ++ le 258 (Int.toNat 2) = [2, 1] := rfl
  have q2 : ∀ s : ByteArray, s = ⟨#[97, 98]⟩ → ([2, 1] : List Int) ++ (le s.size 2 ++ bytesOf s) = [2, 1, 2, 0, 97, 98] := by rintro s rfl; rfl
  have ab : AllB [2, 0, 97, 98] := by intro x hx; simp at hx; omega
  have q3 : rdNum [2, 1, 2, 0, 97, 98] 0 2 = ((258, 0), ([2, 0, 97, 98], 0)) := by decide +kernel
  have q4 : rdText [2, 0, 97, 98] 0 9 = (([97, 98], 0), ([], 0)) := by decide +kernel
  have q5 : rdNum [] 0 1 = ((0, 10), ([], 10)) := by decide +kernel
  have q6 : strOfNums [97, 98] = ⟨#[97, 98]⟩ := rfl
  have q7 : strOfNums [2, 1, 2, 0, 97, 98] = ⟨#[2, 1, 2, 0, 97, 98]⟩ := rfl
  have Q6 := Aside0.mk q6
  have Q7 := Aside0.mk q7
  have Q3 := Aside0.mk q3
  have Q4 := Aside0.mk q4
  have Q5 := Aside0.mk q5
  have Q1 := Aside0.mk q1
  have Q2 := Aside0.mk q2
  have AB := Aside0.mk ab
  clear q1 q2 q3 q4 q5 q6 q7 ab
  go_enter Try.func16, Try.ntmps16
  go_wp2_with (first
    | (go_at_call 9; refine hnew.mono ?_; rintro e w1 ⟨rfl, hw1, hB1⟩; (have hnum := num_from 258 2 hw1 hB1.size (by decide) (by decide)); rw [show numOk 258 2 = true from rfl, if_pos rfl, if_pos rfl, Q1.out] at hnum; (have HB1 := Aside0.mk hB1); clear hw1 hB1 hnew)
    | (go_at_call 12; refine hnum.mono ?_; rintro e w2 ⟨rfl, hw2, hB2⟩; (have HB2 := Aside0.mk (HB1.out.trans hB2)); (have htx := text_from (w := w2) ⟨#[97, 98]⟩ hw2 HB2.out.size (by decide)); rw [if_pos (by decide), if_pos (by decide), Q2.out _ rfl] at htx; clear hw2 hB2 hnum)
    | (go_at_call 10; refine htx.mono ?_; rintro e w3 ⟨rfl, hw3, hB3⟩; (have HB3 := Aside0.mk (HB2.out.trans hB3)); (have hby := bytes_from hw3 (by decide)); (have HW3 := Aside0.mk hw3); clear hw3 hB3 htx)
    | (go_at_call 15; refine hby.mono ?_; rintro e w4 ⟨A4, c4, rfl, hc4, hC4, hB4, _⟩; (have HB4 := Aside0.mk (below_from HB3.out (Nat.le_refl _) hB4)); (have hof := of_from (c := c4) hC4 (by decide)); (have HW4 := Aside0.mk (HW3.out.below hB4)); clear hC4 hB4 hby)
    | (go_at_call 17; refine hof.mono ?_; rintro e w5 ⟨g5, rfl, hr5, hB5⟩; (have HB5 := Aside0.mk hB5); (have hn2 := rdnum_from 2 hr5 hB5.size (by decide)); rw [Q3.out] at hn2; clear hr5 hB5 hof)
    | (go_at_call 19; refine hn2.mono ?_; rintro e w6 ⟨rfl, hr6, hB6⟩; (have HB6 := Aside0.mk (HB5.out.trans hB6)); (have hrt := rdtext_from 9 hr6 HB6.out.size (by decide) AB.out); rw [Q4.out, Q6.out] at hrt; clear hr6 hB6 hn2)
    | (go_at_call 18; refine hrt.mono ?_; rintro e w7 ⟨rfl, hr7, hB7⟩; (have HB7 := Aside0.mk (HB6.out.trans hB7)); (have hn3 := rdnum_from 1 hr7 HB7.out.size (by decide)); rw [Q5.out] at hn3; clear hr7 hB7 hrt)
    | (go_at_call 19; refine hn3.mono ?_; rintro e w8 ⟨rfl, hr8, hB8⟩; (have HB8 := Aside0.mk (HB7.out.trans hB8)); (have hby2 := bytes_from (HW4.out.below HB8.out) (by decide)); clear hr8 hB8 hn3)
    | (go_at_call 15; refine hby2.mono ?_; rintro e w9 ⟨A9, c9, rfl, hc9, hC9, hB9, _⟩; (have hcv := Kd.C_string (P := Try.prog) (A := A9) (c := c9) Try.underlying25 Try.underlying5 Try.underlying9 hC9); rw [Q7.out] at hcv; simp only [List.length_cons, List.length_nil, Nat.reduceAdd] at hcv; (have HB9 := Aside0.mk (below_from (below_from HB4.out (Nat.le_refl _) HB8.out) (Nat.le_refl _) hB9)); clear hC9 hB9 hby2))
  go_ret
  exact ⟨rfl, HB9.out⟩
end Go.Proofs.Ytjipjoadeeapnaa.Wire
