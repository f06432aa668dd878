-- Written by a program of this session (wip/tools/drv.py) over the kit's printer. Not trusted: Lean checks it.
import Derived.Test.YtecdgcfcpjhmlaaPrx0
import Derived.Test.YtecdgcfcpjhmlaaPrx1
import Derived.Test.YtecdgcfcpjhmlaaPrx2
namespace Go.Proofs.Ytecdgcfcpjhmlaa.Pr
open Go.RowKit Go.Proofs.YtecdgcfcpjhmlaaW.PrintWords Go.Proofs.YtecdgcfcpjhmlaaW.PrintLast Go.Proofs.YtecdgcfcpjhmlaaW.PrintMore
attribute [local go_sem] max2_int min2_int max_two min_two max_three min_three max_four min_four   -- for this text's walks alone
set_option linter.unusedVariables false
set_option linter.unusedSimpArgs false

/-! ### latticelaw05_KeyPrefix: function 7 -/
def latticelaw05_KeyPrefix.f (k : Nat) (a0 : ByteArray) (a1 : ByteArray) : Option (Bool) := (key_Above.f k a0).bind fun bt158 => (if (a1.size : Int) ≥ (a0.size : Int) then (if 0 ≤ (a0.size : Int) then (if (a0.size : Int) ≤ (a1.size : Int) then ((latticeref05_Compare.f k a1 a0).bind fun t160 => (if t160 ≥ 0 then (if bt158.2 = true then ((latticeref05_Compare.f k a1 bt158.1).bind fun t161 => (if (((a1.extract 0 a0.size).toList == a0.toList) == (decide (t161 < 0))) = true then ((latticelaw05_speaks.f k).bind fun t162 => (some t162)) else (some false))) else (if (((a1.extract 0 a0.size).toList == a0.toList) == true) = true then ((latticelaw05_speaks.f k).bind fun t163 => (some t163)) else (some false))) else (if (((a1.extract 0 a0.size).toList == a0.toList) == false) = true then ((latticelaw05_speaks.f k).bind fun t164 => (some t164)) else (some false)))) else (none)) else (none)) else ((latticeref05_Compare.f k a1 a0).bind fun t165 => (if t165 ≥ 0 then (if bt158.2 = true then ((latticeref05_Compare.f k a1 bt158.1).bind fun t166 => (if (false == (decide (t166 < 0))) = true then ((latticelaw05_speaks.f k).bind fun t167 => (some t167)) else (some false))) else (some false)) else ((latticelaw05_speaks.f k).bind fun t168 => (some t168)))))
theorem latticelaw05_KeyPrefix.mono : ∀ a0 a1 k, LeO (latticelaw05_KeyPrefix.f k a0 a1) (latticelaw05_KeyPrefix.f (k + 1) a0 a1) := by
  intro a0 a1 k
  unfold latticelaw05_KeyPrefix.f
  repeat' first
      | (with_reducible exact key_Above.mono _ _)
      | (with_reducible exact latticelaw05_speaks.mono _)
      | (with_reducible exact latticeref05_Compare.mono _ _ _)
      | (with_reducible exact LeO.refl _)
      | (with_reducible exact LeO.none _)
      | (with_reducible refine LeO.ite ?_ ?_)
      | (with_reducible refine LeO.bind ?_ (fun _ => ?_))
      | exact key_Above.mono _ _
      | exact latticelaw05_speaks.mono _
      | exact latticeref05_Compare.mono _ _ _
      | exact LeO.none _
      | refine LeO.ite ?_ ?_
      | refine LeO.bind ?_ (fun _ => ?_)
set_option maxHeartbeats 8000000 in
set_option maxRecDepth 100000 in
theorem latticelaw05_KeyPrefix.calls (k : Nat) (a0 : ByteArray) (a1 : ByteArray) (r : Bool) (w : World) (h : latticelaw05_KeyPrefix.f k a0 a1 = some r) :
    Calls Try.prog 7 #[.string a0, .string a1] w fun e w' => e = .returned (.bool r) ∧ Below w.heap.size w w' := by
  have HB := Aside0.mk (Below.refl w.heap.size w)
  have H : ((key_Above.f k a0).bind fun bt158 => (if (a1.size : Int) ≥ (a0.size : Int) then (if 0 ≤ (a0.size : Int) then (if (a0.size : Int) ≤ (a1.size : Int) then ((latticeref05_Compare.f k a1 a0).bind fun t160 => (if t160 ≥ 0 then (if bt158.2 = true then ((latticeref05_Compare.f k a1 bt158.1).bind fun t161 => (if (((a1.extract 0 a0.size).toList == a0.toList) == (decide (t161 < 0))) = true then ((latticelaw05_speaks.f k).bind fun t162 => (some t162)) else (some false))) else (if (((a1.extract 0 a0.size).toList == a0.toList) == true) = true then ((latticelaw05_speaks.f k).bind fun t163 => (some t163)) else (some false))) else (if (((a1.extract 0 a0.size).toList == a0.toList) == false) = true then ((latticelaw05_speaks.f k).bind fun t164 => (some t164)) else (some false)))) else (none)) else (none)) else ((latticeref05_Compare.f k a1 a0).bind fun t165 => (if t165 ≥ 0 then (if bt158.2 = true then ((latticeref05_Compare.f k a1 bt158.1).bind fun t166 => (if (false == (decide (t166 < 0))) = true then ((latticelaw05_speaks.f k).bind fun t167 => (some t167)) else (some false))) else (some false)) else ((latticelaw05_speaks.f k).bind fun t168 => (some t168)))))) = some r := h
  clear h
  replace H := Option.bind_eq_some_iff.mp H
  obtain ⟨⟨t158, t159⟩, A30, H⟩ := H
  replace H : (if (a1.size : Int) ≥ (a0.size : Int) then (if 0 ≤ (a0.size : Int) then (if (a0.size : Int) ≤ (a1.size : Int) then ((latticeref05_Compare.f k a1 a0).bind fun t160 => (if t160 ≥ 0 then (if t159 = true then ((latticeref05_Compare.f k a1 t158).bind fun t161 => (if (((a1.extract 0 a0.size).toList == a0.toList) == (decide (t161 < 0))) = true then ((latticelaw05_speaks.f k).bind fun t162 => (some t162)) else (some false))) else (if (((a1.extract 0 a0.size).toList == a0.toList) == true) = true then ((latticelaw05_speaks.f k).bind fun t163 => (some t163)) else (some false))) else (if (((a1.extract 0 a0.size).toList == a0.toList) == false) = true then ((latticelaw05_speaks.f k).bind fun t164 => (some t164)) else (some false)))) else (none)) else (none)) else ((latticeref05_Compare.f k a1 a0).bind fun t165 => (if t165 ≥ 0 then (if t159 = true then ((latticeref05_Compare.f k a1 t158).bind fun t166 => (if (false == (decide (t166 < 0))) = true then ((latticelaw05_speaks.f k).bind fun t167 => (some t167)) else (some false))) else (some false)) else ((latticelaw05_speaks.f k).bind fun t168 => (some t168))))) = some r := H
  have A3 := Aside0.mk A30
  clear A30
  by_cases c4 : (a1.size : Int) ≥ (a0.size : Int)
  · rw [if_pos c4] at H
    have c4b0 : decide ((a0.size : Int) ≤ (a1.size : Int)) = true := decide_eq_true c4
    have c4b1 : decide (a0.size ≤ a1.size) = true := decide_eq_true (Int.ofNat_le.mp c4)
    clear c4
    by_cases c5 : 0 ≤ (a0.size : Int)
    · rw [if_pos c5] at H
      have c5b0 := eq_true c5
      have c5b1 : decide (0 ≤ (a0.size : Int)) = true := decide_eq_true c5
      clear c5
      by_cases c6 : (a0.size : Int) ≤ (a1.size : Int)
      · rw [if_pos c6] at H
        have c6b0 := eq_true c6
        have c6b1 : decide ((a0.size : Int) ≤ (a1.size : Int)) = true := decide_eq_true c6
        clear c6
        replace H := Option.bind_eq_some_iff.mp H
        obtain ⟨t160, A70, H⟩ := H
        replace H : (if t160 ≥ 0 then (if t159 = true then ((latticeref05_Compare.f k a1 t158).bind fun t161 => (if (((a1.extract 0 a0.size).toList == a0.toList) == (decide (t161 < 0))) = true then ((latticelaw05_speaks.f k).bind fun t162 => (some t162)) else (some false))) else (if (((a1.extract 0 a0.size).toList == a0.toList) == true) = true then ((latticelaw05_speaks.f k).bind fun t163 => (some t163)) else (some false))) else (if (((a1.extract 0 a0.size).toList == a0.toList) == false) = true then ((latticelaw05_speaks.f k).bind fun t164 => (some t164)) else (some false))) = some r := H
        have A7 := Aside0.mk A70
        clear A70
        by_cases c8 : t160 ≥ 0
        · rw [if_pos c8] at H
          have c8b0 : decide (0 ≤ t160) = true := decide_eq_true c8
          clear c8
          by_cases c9 : t159 = true
          · subst c9
            have H1 : ((latticeref05_Compare.f k a1 t158).bind fun t161 => (if (((a1.extract 0 a0.size).toList == a0.toList) == (decide (t161 < 0))) = true then ((latticelaw05_speaks.f k).bind fun t162 => (some t162)) else (some false))) = some r := by rw [if_pos rfl] at H; exact H
            clear H
            have H := H1
            clear H1
            replace H := Option.bind_eq_some_iff.mp H
            obtain ⟨t161, A100, H⟩ := H
            replace H : (if (((a1.extract 0 a0.size).toList == a0.toList) == (decide (t161 < 0))) = true then ((latticelaw05_speaks.f k).bind fun t162 => (some t162)) else (some false)) = some r := H
            have A10 := Aside0.mk A100
            clear A100
            by_cases c11 : (((a1.extract 0 a0.size).toList == a0.toList) == (decide (t161 < 0))) = true
            · rw [if_pos c11] at H
              have c11b0 : (((a1.extract 0 a0.size).toList == a0.toList) == (decide (t161 < 0))) = true := c11
              (try (have c11b1 : decide (((a1.extract 0 a0.size).toList == a0.toList) = (decide (t161 < 0))) = true := by simpa using c11))
              (try (have c11b2 : (((a1.extract 0 a0.size).toList == a0.toList) == (decide (t161 < 0))) = true := by simpa using c11))
              (try (have c11b3 : (((a1.extract 0 a0.size).toList == a0.toList) = (decide (t161 < 0))) = True := eq_true (by first | (simpa using c11) | (simpa [bne_nil_, beq_nil_] using c11))))
              clear c11
              replace H := Option.bind_eq_some_iff.mp H
              obtain ⟨t162, A120, H⟩ := H
              replace H : (some t162) = some r := H
              have A12 := Aside0.mk A120
              clear A120
              obtain rfl := Option.some.inj H
              go_enter Try.func7, Try.ntmps7
              go_wp2_with (first | ((with_reducible refine gate_callee (f := 12) rfl ?_); refine goesL_ (some 11) rfl rfl Try.func12 (by kernel_rfl) rfl #[.string a0] rfl (by (try simp only [List.map_toArray, List.map_cons, List.map_nil]); first | done | rfl | (simp only [List.length_drop, List.length_take]; rfl)) ?_; (with_reducible refine (key_Above.calls k a0 t158 true _ A3.out).mono ?_); rintro e w13 ⟨rfl, hb⟩; refine ⟨_, rfl, ?_⟩; have n0_ := Aside0.mk (below_step (by repeat (first | (with_reducible first | exact HB.out | apply below_alloc | apply pw_below_drewN | apply below_drew1) | exact HB.out)) hb); clear HB; have HB := n0_; clear n0_; (try clear hb); (try clear hb2); (try clear hk); (try clear hi)) | ((with_reducible refine gate_callee (f := 18) rfl ?_); refine goesL_ (some 29) rfl rfl Try.func18 (by kernel_rfl) rfl #[.string a1, .string a0] rfl (by (try simp only [List.map_toArray, List.map_cons, List.map_nil]); first | done | rfl | (simp only [List.length_drop, List.length_take]; rfl)) ?_; (with_reducible refine (latticeref05_Compare.calls k a1 a0 t160 _ A7.out).mono ?_); rintro e w' ⟨rfl, ⟨nd, rfl⟩⟩; refine ⟨_, rfl, ?_⟩) | (go_at_call 18; (with_reducible refine (latticeref05_Compare.calls k a1 t158 t161 _ A10.out).mono ?_); rintro e w' ⟨rfl, ⟨nd, rfl⟩⟩) | (go_at_call 14; (with_reducible refine (latticelaw05_speaks.calls k  t162 _ A12.out).mono ?_); rintro e w14 ⟨rfl, hb⟩; have n0_ := Aside0.mk (below_step (by repeat (first | (with_reducible first | exact HB.out | apply below_alloc | apply pw_below_drewN | apply below_drew1) | exact HB.out)) hb); clear HB; have HB := n0_; clear n0_; (try clear hb); (try clear hb2); (try clear hk); (try clear hi)))
              go_ret
              exact ⟨by first | rfl | (simp [errW_none, errW_some] <;> rfl) | (simp [*, errW_none, errW_some] <;> rfl), by repeat (first | (with_reducible first | exact HB.out | apply below_alloc | apply pw_below_drewN | apply below_drew1) | exact HB.out)⟩
            · rw [if_neg c11] at H
              have c11b0 : (((a1.extract 0 a0.size).toList == a0.toList) == (decide (t161 < 0))) = false := by simpa using c11
              (try (have c11b1 : decide (((a1.extract 0 a0.size).toList == a0.toList) = (decide (t161 < 0))) = false := by simpa using c11))
              (try (have c11b2 : (((a1.extract 0 a0.size).toList == a0.toList) == (decide (t161 < 0))) = false := by simpa using c11))
              (try (have c11b3 : ¬ (((a1.extract 0 a0.size).toList == a0.toList) = (decide (t161 < 0))) := by simpa using c11))
              (try (have c11b4 : (((a1.extract 0 a0.size).toList == a0.toList) = (decide (t161 < 0))) = False := eq_false (by first | (simpa using c11) | (simpa [bne_nil_, beq_nil_] using c11))))
              clear c11
              obtain rfl := Option.some.inj H
              go_enter Try.func7, Try.ntmps7
              go_wp2_with (first | ((with_reducible refine gate_callee (f := 12) rfl ?_); refine goesL_ (some 11) rfl rfl Try.func12 (by kernel_rfl) rfl #[.string a0] rfl (by (try simp only [List.map_toArray, List.map_cons, List.map_nil]); first | done | rfl | (simp only [List.length_drop, List.length_take]; rfl)) ?_; (with_reducible refine (key_Above.calls k a0 t158 true _ A3.out).mono ?_); rintro e w15 ⟨rfl, hb⟩; refine ⟨_, rfl, ?_⟩; have n0_ := Aside0.mk (below_step (by repeat (first | (with_reducible first | exact HB.out | apply below_alloc | apply pw_below_drewN | apply below_drew1) | exact HB.out)) hb); clear HB; have HB := n0_; clear n0_; (try clear hb); (try clear hb2); (try clear hk); (try clear hi)) | ((with_reducible refine gate_callee (f := 18) rfl ?_); refine goesL_ (some 29) rfl rfl Try.func18 (by kernel_rfl) rfl #[.string a1, .string a0] rfl (by (try simp only [List.map_toArray, List.map_cons, List.map_nil]); first | done | rfl | (simp only [List.length_drop, List.length_take]; rfl)) ?_; (with_reducible refine (latticeref05_Compare.calls k a1 a0 t160 _ A7.out).mono ?_); rintro e w' ⟨rfl, ⟨nd, rfl⟩⟩; refine ⟨_, rfl, ?_⟩) | (go_at_call 18; (with_reducible refine (latticeref05_Compare.calls k a1 t158 t161 _ A10.out).mono ?_); rintro e w' ⟨rfl, ⟨nd, rfl⟩⟩))
              go_ret
              exact ⟨by first | rfl | (simp [errW_none, errW_some] <;> rfl) | (simp [*, errW_none, errW_some] <;> rfl), by repeat (first | (with_reducible first | exact HB.out | apply below_alloc | apply pw_below_drewN | apply below_drew1) | exact HB.out)⟩
          · replace c9 := Bool.eq_false_iff.mpr c9
            subst c9
            have H1 : (if (((a1.extract 0 a0.size).toList == a0.toList) == true) = true then ((latticelaw05_speaks.f k).bind fun t163 => (some t163)) else (some false)) = some r := by rw [if_neg (show ¬ (false = true) by decide)] at H; exact H
            clear H
            have H := H1
            clear H1
            by_cases c16 : (((a1.extract 0 a0.size).toList == a0.toList) == true) = true
            · rw [if_pos c16] at H
              have c16b0 : (((a1.extract 0 a0.size).toList == a0.toList) == true) = true := c16
              (try (have c16b1 : decide (((a1.extract 0 a0.size).toList == a0.toList) = true) = true := by simpa using c16))
              (try (have c16b2 : (((a1.extract 0 a0.size).toList == a0.toList) == true) = true := by simpa using c16))
              (try (have c16b3 : (((a1.extract 0 a0.size).toList == a0.toList) = (true)) = True := eq_true (by first | (simpa using c16) | (simpa [bne_nil_, beq_nil_] using c16))))
              clear c16
              replace H := Option.bind_eq_some_iff.mp H
              obtain ⟨t163, A170, H⟩ := H
              replace H : (some t163) = some r := H
              have A17 := Aside0.mk A170
              clear A170
              obtain rfl := Option.some.inj H
              go_enter Try.func7, Try.ntmps7
              go_wp2_with (first | ((with_reducible refine gate_callee (f := 12) rfl ?_); refine goesL_ (some 11) rfl rfl Try.func12 (by kernel_rfl) rfl #[.string a0] rfl (by (try simp only [List.map_toArray, List.map_cons, List.map_nil]); first | done | rfl | (simp only [List.length_drop, List.length_take]; rfl)) ?_; (with_reducible refine (key_Above.calls k a0 t158 false _ A3.out).mono ?_); rintro e w18 ⟨rfl, hb⟩; refine ⟨_, rfl, ?_⟩; have n0_ := Aside0.mk (below_step (by repeat (first | (with_reducible first | exact HB.out | apply below_alloc | apply pw_below_drewN | apply below_drew1) | exact HB.out)) hb); clear HB; have HB := n0_; clear n0_; (try clear hb); (try clear hb2); (try clear hk); (try clear hi)) | ((with_reducible refine gate_callee (f := 18) rfl ?_); refine goesL_ (some 29) rfl rfl Try.func18 (by kernel_rfl) rfl #[.string a1, .string a0] rfl (by (try simp only [List.map_toArray, List.map_cons, List.map_nil]); first | done | rfl | (simp only [List.length_drop, List.length_take]; rfl)) ?_; (with_reducible refine (latticeref05_Compare.calls k a1 a0 t160 _ A7.out).mono ?_); rintro e w' ⟨rfl, ⟨nd, rfl⟩⟩; refine ⟨_, rfl, ?_⟩) | (go_at_call 14; (with_reducible refine (latticelaw05_speaks.calls k  t163 _ A17.out).mono ?_); rintro e w19 ⟨rfl, hb⟩; have n0_ := Aside0.mk (below_step (by repeat (first | (with_reducible first | exact HB.out | apply below_alloc | apply pw_below_drewN | apply below_drew1) | exact HB.out)) hb); clear HB; have HB := n0_; clear n0_; (try clear hb); (try clear hb2); (try clear hk); (try clear hi)))
              go_ret
              exact ⟨by first | rfl | (simp [errW_none, errW_some] <;> rfl) | (simp [*, errW_none, errW_some] <;> rfl), by repeat (first | (with_reducible first | exact HB.out | apply below_alloc | apply pw_below_drewN | apply below_drew1) | exact HB.out)⟩
            · rw [if_neg c16] at H
              have c16b0 : (((a1.extract 0 a0.size).toList == a0.toList) == true) = false := by simpa using c16
              (try (have c16b1 : decide (((a1.extract 0 a0.size).toList == a0.toList) = true) = false := by simpa using c16))
              (try (have c16b2 : (((a1.extract 0 a0.size).toList == a0.toList) == true) = false := by simpa using c16))
              (try (have c16b3 : ¬ (((a1.extract 0 a0.size).toList == a0.toList) = true) := by simpa using c16))
              (try (have c16b4 : (((a1.extract 0 a0.size).toList == a0.toList) = (true)) = False := eq_false (by first | (simpa using c16) | (simpa [bne_nil_, beq_nil_] using c16))))
              clear c16
              obtain rfl := Option.some.inj H
              go_enter Try.func7, Try.ntmps7
              go_wp2_with (first | ((with_reducible refine gate_callee (f := 12) rfl ?_); refine goesL_ (some 11) rfl rfl Try.func12 (by kernel_rfl) rfl #[.string a0] rfl (by (try simp only [List.map_toArray, List.map_cons, List.map_nil]); first | done | rfl | (simp only [List.length_drop, List.length_take]; rfl)) ?_; (with_reducible refine (key_Above.calls k a0 t158 false _ A3.out).mono ?_); rintro e w20 ⟨rfl, hb⟩; refine ⟨_, rfl, ?_⟩; have n0_ := Aside0.mk (below_step (by repeat (first | (with_reducible first | exact HB.out | apply below_alloc | apply pw_below_drewN | apply below_drew1) | exact HB.out)) hb); clear HB; have HB := n0_; clear n0_; (try clear hb); (try clear hb2); (try clear hk); (try clear hi)) | ((with_reducible refine gate_callee (f := 18) rfl ?_); refine goesL_ (some 29) rfl rfl Try.func18 (by kernel_rfl) rfl #[.string a1, .string a0] rfl (by (try simp only [List.map_toArray, List.map_cons, List.map_nil]); first | done | rfl | (simp only [List.length_drop, List.length_take]; rfl)) ?_; (with_reducible refine (latticeref05_Compare.calls k a1 a0 t160 _ A7.out).mono ?_); rintro e w' ⟨rfl, ⟨nd, rfl⟩⟩; refine ⟨_, rfl, ?_⟩))
              go_ret
              exact ⟨by first | rfl | (simp [errW_none, errW_some] <;> rfl) | (simp [*, errW_none, errW_some] <;> rfl), by repeat (first | (with_reducible first | exact HB.out | apply below_alloc | apply pw_below_drewN | apply below_drew1) | exact HB.out)⟩
        · rw [if_neg c8] at H
          have c8b0 : decide (0 ≤ t160) = false := decide_eq_false c8
          clear c8
          by_cases c21 : (((a1.extract 0 a0.size).toList == a0.toList) == false) = true
          · rw [if_pos c21] at H
            have c21b0 : (((a1.extract 0 a0.size).toList == a0.toList) == false) = true := c21
            (try (have c21b1 : decide (((a1.extract 0 a0.size).toList == a0.toList) = false) = true := by simpa using c21))
            (try (have c21b2 : (((a1.extract 0 a0.size).toList == a0.toList) == false) = true := by simpa using c21))
            (try (have c21b3 : (((a1.extract 0 a0.size).toList == a0.toList) = (false)) = True := eq_true (by first | (simpa using c21) | (simpa [bne_nil_, beq_nil_] using c21))))
            clear c21
            replace H := Option.bind_eq_some_iff.mp H
            obtain ⟨t164, A220, H⟩ := H
            replace H : (some t164) = some r := H
            have A22 := Aside0.mk A220
            clear A220
            obtain rfl := Option.some.inj H
            go_enter Try.func7, Try.ntmps7
            go_wp2_with (first | ((with_reducible refine gate_callee (f := 12) rfl ?_); refine goesL_ (some 11) rfl rfl Try.func12 (by kernel_rfl) rfl #[.string a0] rfl (by (try simp only [List.map_toArray, List.map_cons, List.map_nil]); first | done | rfl | (simp only [List.length_drop, List.length_take]; rfl)) ?_; (with_reducible refine (key_Above.calls k a0 t158 t159 _ A3.out).mono ?_); rintro e w23 ⟨rfl, hb⟩; refine ⟨_, rfl, ?_⟩; have n0_ := Aside0.mk (below_step (by repeat (first | (with_reducible first | exact HB.out | apply below_alloc | apply pw_below_drewN | apply below_drew1) | exact HB.out)) hb); clear HB; have HB := n0_; clear n0_; (try clear hb); (try clear hb2); (try clear hk); (try clear hi)) | ((with_reducible refine gate_callee (f := 18) rfl ?_); refine goesL_ (some 29) rfl rfl Try.func18 (by kernel_rfl) rfl #[.string a1, .string a0] rfl (by (try simp only [List.map_toArray, List.map_cons, List.map_nil]); first | done | rfl | (simp only [List.length_drop, List.length_take]; rfl)) ?_; (with_reducible refine (latticeref05_Compare.calls k a1 a0 t160 _ A7.out).mono ?_); rintro e w' ⟨rfl, ⟨nd, rfl⟩⟩; refine ⟨_, rfl, ?_⟩) | (go_at_call 14; (with_reducible refine (latticelaw05_speaks.calls k  t164 _ A22.out).mono ?_); rintro e w24 ⟨rfl, hb⟩; have n0_ := Aside0.mk (below_step (by repeat (first | (with_reducible first | exact HB.out | apply below_alloc | apply pw_below_drewN | apply below_drew1) | exact HB.out)) hb); clear HB; have HB := n0_; clear n0_; (try clear hb); (try clear hb2); (try clear hk); (try clear hi)))
            go_ret
            exact ⟨by first | rfl | (simp [errW_none, errW_some] <;> rfl) | (simp [*, errW_none, errW_some] <;> rfl), by repeat (first | (with_reducible first | exact HB.out | apply below_alloc | apply pw_below_drewN | apply below_drew1) | exact HB.out)⟩
          · rw [if_neg c21] at H
            have c21b0 : (((a1.extract 0 a0.size).toList == a0.toList) == false) = false := by simpa using c21
            (try (have c21b1 : decide (((a1.extract 0 a0.size).toList == a0.toList) = false) = false := by simpa using c21))
            (try (have c21b2 : (((a1.extract 0 a0.size).toList == a0.toList) == false) = false := by simpa using c21))
            (try (have c21b3 : ¬ (((a1.extract 0 a0.size).toList == a0.toList) = false) := by simpa using c21))
            (try (have c21b4 : (((a1.extract 0 a0.size).toList == a0.toList) = (false)) = False := eq_false (by first | (simpa using c21) | (simpa [bne_nil_, beq_nil_] using c21))))
            clear c21
            obtain rfl := Option.some.inj H
            go_enter Try.func7, Try.ntmps7
            go_wp2_with (first | ((with_reducible refine gate_callee (f := 12) rfl ?_); refine goesL_ (some 11) rfl rfl Try.func12 (by kernel_rfl) rfl #[.string a0] rfl (by (try simp only [List.map_toArray, List.map_cons, List.map_nil]); first | done | rfl | (simp only [List.length_drop, List.length_take]; rfl)) ?_; (with_reducible refine (key_Above.calls k a0 t158 t159 _ A3.out).mono ?_); rintro e w25 ⟨rfl, hb⟩; refine ⟨_, rfl, ?_⟩; have n0_ := Aside0.mk (below_step (by repeat (first | (with_reducible first | exact HB.out | apply below_alloc | apply pw_below_drewN | apply below_drew1) | exact HB.out)) hb); clear HB; have HB := n0_; clear n0_; (try clear hb); (try clear hb2); (try clear hk); (try clear hi)) | ((with_reducible refine gate_callee (f := 18) rfl ?_); refine goesL_ (some 29) rfl rfl Try.func18 (by kernel_rfl) rfl #[.string a1, .string a0] rfl (by (try simp only [List.map_toArray, List.map_cons, List.map_nil]); first | done | rfl | (simp only [List.length_drop, List.length_take]; rfl)) ?_; (with_reducible refine (latticeref05_Compare.calls k a1 a0 t160 _ A7.out).mono ?_); rintro e w' ⟨rfl, ⟨nd, rfl⟩⟩; refine ⟨_, rfl, ?_⟩))
            go_ret
            exact ⟨by first | rfl | (simp [errW_none, errW_some] <;> rfl) | (simp [*, errW_none, errW_some] <;> rfl), by repeat (first | (with_reducible first | exact HB.out | apply below_alloc | apply pw_below_drewN | apply below_drew1) | exact HB.out)⟩
      · rw [if_neg c6] at H
        exact absurd H (by simp)
    · rw [if_neg c5] at H
      exact absurd H (by simp)
  · rw [if_neg c4] at H
    have c4b0 : decide ((a0.size : Int) ≤ (a1.size : Int)) = false := decide_eq_false c4
    have c4b1 : decide (a0.size ≤ a1.size) = false := decide_eq_false (fun h => c4 (Int.ofNat_le.mpr h))
    clear c4
    replace H := Option.bind_eq_some_iff.mp H
    obtain ⟨t165, A260, H⟩ := H
    replace H : (if t165 ≥ 0 then (if t159 = true then ((latticeref05_Compare.f k a1 t158).bind fun t166 => (if (false == (decide (t166 < 0))) = true then ((latticelaw05_speaks.f k).bind fun t167 => (some t167)) else (some false))) else (some false)) else ((latticelaw05_speaks.f k).bind fun t168 => (some t168))) = some r := H
    have A26 := Aside0.mk A260
    clear A260
    by_cases c27 : t165 ≥ 0
    · rw [if_pos c27] at H
      have c27b0 : decide (0 ≤ t165) = true := decide_eq_true c27
      clear c27
      by_cases c28 : t159 = true
      · subst c28
        have H1 : ((latticeref05_Compare.f k a1 t158).bind fun t166 => (if (false == (decide (t166 < 0))) = true then ((latticelaw05_speaks.f k).bind fun t167 => (some t167)) else (some false))) = some r := by rw [if_pos rfl] at H; exact H
        clear H
        have H := H1
        clear H1
        replace H := Option.bind_eq_some_iff.mp H
        obtain ⟨t166, A290, H⟩ := H
        replace H : (if (false == (decide (t166 < 0))) = true then ((latticelaw05_speaks.f k).bind fun t167 => (some t167)) else (some false)) = some r := H
        have A29 := Aside0.mk A290
        clear A290
        by_cases c30 : (false == (decide (t166 < 0))) = true
        · rw [if_pos c30] at H
          have c30b0 : (false == (decide (t166 < 0))) = true := c30
          (try (have c30b1 : decide (false = (decide (t166 < 0))) = true := by simpa using c30))
          (try (have c30b2 : (false == (decide (t166 < 0))) = true := by simpa using c30))
          (try (have c30b3 : ((false) = (decide (t166 < 0))) = True := eq_true (by first | (simpa using c30) | (simpa [bne_nil_, beq_nil_] using c30))))
          clear c30
          replace H := Option.bind_eq_some_iff.mp H
          obtain ⟨t167, A310, H⟩ := H
          replace H : (some t167) = some r := H
          have A31 := Aside0.mk A310
          clear A310
          obtain rfl := Option.some.inj H
          go_enter Try.func7, Try.ntmps7
          go_wp2_with (first | ((with_reducible refine gate_callee (f := 12) rfl ?_); refine goesL_ (some 11) rfl rfl Try.func12 (by kernel_rfl) rfl #[.string a0] rfl (by (try simp only [List.map_toArray, List.map_cons, List.map_nil]); first | done | rfl | (simp only [List.length_drop, List.length_take]; rfl)) ?_; (with_reducible refine (key_Above.calls k a0 t158 true _ A3.out).mono ?_); rintro e w32 ⟨rfl, hb⟩; refine ⟨_, rfl, ?_⟩; have n0_ := Aside0.mk (below_step (by repeat (first | (with_reducible first | exact HB.out | apply below_alloc | apply pw_below_drewN | apply below_drew1) | exact HB.out)) hb); clear HB; have HB := n0_; clear n0_; (try clear hb); (try clear hb2); (try clear hk); (try clear hi)) | ((with_reducible refine gate_callee (f := 18) rfl ?_); refine goesL_ (some 29) rfl rfl Try.func18 (by kernel_rfl) rfl #[.string a1, .string a0] rfl (by (try simp only [List.map_toArray, List.map_cons, List.map_nil]); first | done | rfl | (simp only [List.length_drop, List.length_take]; rfl)) ?_; (with_reducible refine (latticeref05_Compare.calls k a1 a0 t165 _ A26.out).mono ?_); rintro e w' ⟨rfl, ⟨nd, rfl⟩⟩; refine ⟨_, rfl, ?_⟩) | (go_at_call 18; (with_reducible refine (latticeref05_Compare.calls k a1 t158 t166 _ A29.out).mono ?_); rintro e w' ⟨rfl, ⟨nd, rfl⟩⟩) | (go_at_call 14; (with_reducible refine (latticelaw05_speaks.calls k  t167 _ A31.out).mono ?_); rintro e w33 ⟨rfl, hb⟩; have n0_ := Aside0.mk (below_step (by repeat (first | (with_reducible first | exact HB.out | apply below_alloc | apply pw_below_drewN | apply below_drew1) | exact HB.out)) hb); clear HB; have HB := n0_; clear n0_; (try clear hb); (try clear hb2); (try clear hk); (try clear hi)))
          go_ret
          exact ⟨by first | rfl | (simp [errW_none, errW_some] <;> rfl) | (simp [*, errW_none, errW_some] <;> rfl), by repeat (first | (with_reducible first | exact HB.out | apply below_alloc | apply pw_below_drewN | apply below_drew1) | exact HB.out)⟩
        · rw [if_neg c30] at H
          have c30b0 : (false == (decide (t166 < 0))) = false := by simpa using c30
          (try (have c30b1 : decide (false = (decide (t166 < 0))) = false := by simpa using c30))
          (try (have c30b2 : (false == (decide (t166 < 0))) = false := by simpa using c30))
          (try (have c30b3 : ¬ (false = (decide (t166 < 0))) := by simpa using c30))
          (try (have c30b4 : ((false) = (decide (t166 < 0))) = False := eq_false (by first | (simpa using c30) | (simpa [bne_nil_, beq_nil_] using c30))))
          clear c30
          obtain rfl := Option.some.inj H
          go_enter Try.func7, Try.ntmps7
          go_wp2_with (first | ((with_reducible refine gate_callee (f := 12) rfl ?_); refine goesL_ (some 11) rfl rfl Try.func12 (by kernel_rfl) rfl #[.string a0] rfl (by (try simp only [List.map_toArray, List.map_cons, List.map_nil]); first | done | rfl | (simp only [List.length_drop, List.length_take]; rfl)) ?_; (with_reducible refine (key_Above.calls k a0 t158 true _ A3.out).mono ?_); rintro e w34 ⟨rfl, hb⟩; refine ⟨_, rfl, ?_⟩; have n0_ := Aside0.mk (below_step (by repeat (first | (with_reducible first | exact HB.out | apply below_alloc | apply pw_below_drewN | apply below_drew1) | exact HB.out)) hb); clear HB; have HB := n0_; clear n0_; (try clear hb); (try clear hb2); (try clear hk); (try clear hi)) | ((with_reducible refine gate_callee (f := 18) rfl ?_); refine goesL_ (some 29) rfl rfl Try.func18 (by kernel_rfl) rfl #[.string a1, .string a0] rfl (by (try simp only [List.map_toArray, List.map_cons, List.map_nil]); first | done | rfl | (simp only [List.length_drop, List.length_take]; rfl)) ?_; (with_reducible refine (latticeref05_Compare.calls k a1 a0 t165 _ A26.out).mono ?_); rintro e w' ⟨rfl, ⟨nd, rfl⟩⟩; refine ⟨_, rfl, ?_⟩) | (go_at_call 18; (with_reducible refine (latticeref05_Compare.calls k a1 t158 t166 _ A29.out).mono ?_); rintro e w' ⟨rfl, ⟨nd, rfl⟩⟩))
          go_ret
          exact ⟨by first | rfl | (simp [errW_none, errW_some] <;> rfl) | (simp [*, errW_none, errW_some] <;> rfl), by repeat (first | (with_reducible first | exact HB.out | apply below_alloc | apply pw_below_drewN | apply below_drew1) | exact HB.out)⟩
      · replace c28 := Bool.eq_false_iff.mpr c28
        subst c28
        have H1 : (some false) = some r := by rw [if_neg (show ¬ (false = true) by decide)] at H; exact H
        clear H
        have H := H1
        clear H1
        obtain rfl := Option.some.inj H
        go_enter Try.func7, Try.ntmps7
        go_wp2_with (first | ((with_reducible refine gate_callee (f := 12) rfl ?_); refine goesL_ (some 11) rfl rfl Try.func12 (by kernel_rfl) rfl #[.string a0] rfl (by (try simp only [List.map_toArray, List.map_cons, List.map_nil]); first | done | rfl | (simp only [List.length_drop, List.length_take]; rfl)) ?_; (with_reducible refine (key_Above.calls k a0 t158 false _ A3.out).mono ?_); rintro e w35 ⟨rfl, hb⟩; refine ⟨_, rfl, ?_⟩; have n0_ := Aside0.mk (below_step (by repeat (first | (with_reducible first | exact HB.out | apply below_alloc | apply pw_below_drewN | apply below_drew1) | exact HB.out)) hb); clear HB; have HB := n0_; clear n0_; (try clear hb); (try clear hb2); (try clear hk); (try clear hi)) | ((with_reducible refine gate_callee (f := 18) rfl ?_); refine goesL_ (some 29) rfl rfl Try.func18 (by kernel_rfl) rfl #[.string a1, .string a0] rfl (by (try simp only [List.map_toArray, List.map_cons, List.map_nil]); first | done | rfl | (simp only [List.length_drop, List.length_take]; rfl)) ?_; (with_reducible refine (latticeref05_Compare.calls k a1 a0 t165 _ A26.out).mono ?_); rintro e w' ⟨rfl, ⟨nd, rfl⟩⟩; refine ⟨_, rfl, ?_⟩))
        go_ret
        exact ⟨by first | rfl | (simp [errW_none, errW_some] <;> rfl) | (simp [*, errW_none, errW_some] <;> rfl), by repeat (first | (with_reducible first | exact HB.out | apply below_alloc | apply pw_below_drewN | apply below_drew1) | exact HB.out)⟩
    · rw [if_neg c27] at H
      have c27b0 : decide (0 ≤ t165) = false := decide_eq_false c27
      clear c27
      replace H := Option.bind_eq_some_iff.mp H
      obtain ⟨t168, A360, H⟩ := H
      replace H : (some t168) = some r := H
      have A36 := Aside0.mk A360
      clear A360
      obtain rfl := Option.some.inj H
      go_enter Try.func7, Try.ntmps7
      go_wp2_with (first | ((with_reducible refine gate_callee (f := 12) rfl ?_); refine goesL_ (some 11) rfl rfl Try.func12 (by kernel_rfl) rfl #[.string a0] rfl (by (try simp only [List.map_toArray, List.map_cons, List.map_nil]); first | done | rfl | (simp only [List.length_drop, List.length_take]; rfl)) ?_; (with_reducible refine (key_Above.calls k a0 t158 t159 _ A3.out).mono ?_); rintro e w37 ⟨rfl, hb⟩; refine ⟨_, rfl, ?_⟩; have n0_ := Aside0.mk (below_step (by repeat (first | (with_reducible first | exact HB.out | apply below_alloc | apply pw_below_drewN | apply below_drew1) | exact HB.out)) hb); clear HB; have HB := n0_; clear n0_; (try clear hb); (try clear hb2); (try clear hk); (try clear hi)) | ((with_reducible refine gate_callee (f := 18) rfl ?_); refine goesL_ (some 29) rfl rfl Try.func18 (by kernel_rfl) rfl #[.string a1, .string a0] rfl (by (try simp only [List.map_toArray, List.map_cons, List.map_nil]); first | done | rfl | (simp only [List.length_drop, List.length_take]; rfl)) ?_; (with_reducible refine (latticeref05_Compare.calls k a1 a0 t165 _ A26.out).mono ?_); rintro e w' ⟨rfl, ⟨nd, rfl⟩⟩; refine ⟨_, rfl, ?_⟩) | (go_at_call 14; (with_reducible refine (latticelaw05_speaks.calls k  t168 _ A36.out).mono ?_); rintro e w38 ⟨rfl, hb⟩; have n0_ := Aside0.mk (below_step (by repeat (first | (with_reducible first | exact HB.out | apply below_alloc | apply pw_below_drewN | apply below_drew1) | exact HB.out)) hb); clear HB; have HB := n0_; clear n0_; (try clear hb); (try clear hb2); (try clear hk); (try clear hi)))
      go_ret
      exact ⟨by first | rfl | (simp [errW_none, errW_some] <;> rfl) | (simp [*, errW_none, errW_some] <;> rfl), by repeat (first | (with_reducible first | exact HB.out | apply below_alloc | apply pw_below_drewN | apply below_drew1) | exact HB.out)⟩

/-- THE ONE PURE STATEMENT of latticelaw05_KeyPrefix: yours. -/
def latticelaw05_KeyPrefix.Pure : Prop := ∀ (a0 : ByteArray) (a1 : ByteArray), a0.size ≤ 140737488351232 → a1.size ≤ 140737488351232 → ∃ k, latticelaw05_KeyPrefix.f k a0 a1 = some true
theorem latticelaw05_KeyPrefix.walk (P : latticelaw05_KeyPrefix.Pure) (a0 : ByteArray) (a1 : ByteArray) (w : World) (w0 : a0.size ≤ 140737488351232) (w1 : a1.size ≤ 140737488351232) :
    Calls Try.prog 7 #[.string a0, .string a1] w fun e w' => e = .returned (.bool true) ∧ Below w.heap.size w w' := by
  obtain ⟨k, h⟩ := P a0 a1 w0 w1
  refine (latticelaw05_KeyPrefix.calls k a0 a1 true w h).mono ?_
  rintro e w' ⟨rfl, hd⟩
  exact ⟨rfl, hd⟩

/-! ### latticeref05_Check: function 20 -/
def latticeref05_Check.f (a0 : ByteArray) : Option (Int) := if (a0.size : Int) < 1 then (some 50) else (if (a0.size : Int) > 16 then (some 50) else (some 0))
set_option maxHeartbeats 8000000 in
set_option maxRecDepth 100000 in
theorem latticeref05_Check.calls (a0 : ByteArray) (r : Int) (w : World) (h : latticeref05_Check.f a0 = some r) :
    Calls Try.prog 20 #[.string a0] w fun e w' => e = .returned (.int .i64 r) ∧ Drawn0 w w' := by
  have H : (if (a0.size : Int) < 1 then (some 50) else (if (a0.size : Int) > 16 then (some 50) else (some 0))) = some r := h
  clear h
  by_cases c2 : (a0.size : Int) < 1
  · rw [if_pos c2] at H
    have c2b0 : decide ((a0.size : Int) < 1) = true := decide_eq_true c2
    have c2b1 : decide (a0.size < 1) = true := decide_eq_true (by omega)
    clear c2
    obtain rfl := Option.some.inj H
    go_enter Try.func20, Try.ntmps20
    go_wp2
    go_ret
    exact ⟨by first | rfl | (simp; done) | (simp [*]; done), by repeat (first | exact Drawn0.refl _ | apply Drawn0.step)⟩
  · rw [if_neg c2] at H
    have c2b0 : decide ((a0.size : Int) < 1) = false := decide_eq_false c2
    have c2b1 : decide (a0.size < 1) = false := decide_eq_false (by omega)
    clear c2
    by_cases c3 : (a0.size : Int) > 16
    · rw [if_pos c3] at H
      have c3b0 : decide (16 < (a0.size : Int)) = true := decide_eq_true c3
      have c3b1 : decide (16 < a0.size) = true := decide_eq_true (by omega)
      clear c3
      obtain rfl := Option.some.inj H
      go_enter Try.func20, Try.ntmps20
      go_wp2
      go_ret
      exact ⟨by first | rfl | (simp; done) | (simp [*]; done), by repeat (first | exact Drawn0.refl _ | apply Drawn0.step)⟩
    · rw [if_neg c3] at H
      have c3b0 : decide (16 < (a0.size : Int)) = false := decide_eq_false c3
      have c3b1 : decide (16 < a0.size) = false := decide_eq_false (by omega)
      clear c3
      obtain rfl := Option.some.inj H
      go_enter Try.func20, Try.ntmps20
      go_wp2
      go_ret
      exact ⟨by first | rfl | (simp; done) | (simp [*]; done), by repeat (first | exact Drawn0.refl _ | apply Drawn0.step)⟩

/-! ### key_Value: function 21 -/
def key_Value.f (a0 : ByteArray) : Option (Int) := if (a0.size : Int) > 32 then (some 51) else (some 0)
set_option maxHeartbeats 8000000 in
set_option maxRecDepth 100000 in
theorem key_Value.calls (a0 : ByteArray) (r : Int) (w : World) (h : key_Value.f a0 = some r) :
    Calls Try.prog 21 #[.string a0] w fun e w' => e = .returned (.int .i64 r) ∧ Drawn0 w w' := by
  have H : (if (a0.size : Int) > 32 then (some 51) else (some 0)) = some r := h
  clear h
  by_cases c2 : (a0.size : Int) > 32
  · rw [if_pos c2] at H
    have c2b0 : decide (32 < (a0.size : Int)) = true := decide_eq_true c2
    have c2b1 : decide (32 < a0.size) = true := decide_eq_true (by omega)
    clear c2
    obtain rfl := Option.some.inj H
    go_enter Try.func21, Try.ntmps21
    go_wp2
    go_ret
    exact ⟨by first | rfl | (simp; done) | (simp [*]; done), by repeat (first | exact Drawn0.refl _ | apply Drawn0.step)⟩
  · rw [if_neg c2] at H
    have c2b0 : decide (32 < (a0.size : Int)) = false := decide_eq_false c2
    have c2b1 : decide (32 < a0.size) = false := decide_eq_false (by omega)
    clear c2
    obtain rfl := Option.some.inj H
    go_enter Try.func21, Try.ntmps21
    go_wp2
    go_ret
    exact ⟨by first | rfl | (simp; done) | (simp [*]; done), by repeat (first | exact Drawn0.refl _ | apply Drawn0.step)⟩

/-! ### latticeref05_Value: function 22 -/
def latticeref05_Value.f (a0 : ByteArray) : Option (Int) := if (a0.size : Int) > 32 then (some 51) else (some 0)
set_option maxHeartbeats 8000000 in
set_option maxRecDepth 100000 in
theorem latticeref05_Value.calls (a0 : ByteArray) (r : Int) (w : World) (h : latticeref05_Value.f a0 = some r) :
    Calls Try.prog 22 #[.string a0] w fun e w' => e = .returned (.int .i64 r) ∧ Drawn0 w w' := by
  have H : (if (a0.size : Int) > 32 then (some 51) else (some 0)) = some r := h
  clear h
  by_cases c2 : (a0.size : Int) > 32
  · rw [if_pos c2] at H
    have c2b0 : decide (32 < (a0.size : Int)) = true := decide_eq_true c2
    have c2b1 : decide (32 < a0.size) = true := decide_eq_true (by omega)
    clear c2
    obtain rfl := Option.some.inj H
    go_enter Try.func22, Try.ntmps22
    go_wp2
    go_ret
    exact ⟨by first | rfl | (simp; done) | (simp [*]; done), by repeat (first | exact Drawn0.refl _ | apply Drawn0.step)⟩
  · rw [if_neg c2] at H
    have c2b0 : decide (32 < (a0.size : Int)) = false := decide_eq_false c2
    have c2b1 : decide (32 < a0.size) = false := decide_eq_false (by omega)
    clear c2
    obtain rfl := Option.some.inj H
    go_enter Try.func22, Try.ntmps22
    go_wp2
    go_ret
    exact ⟨by first | rfl | (simp; done) | (simp [*]; done), by repeat (first | exact Drawn0.refl _ | apply Drawn0.step)⟩

/-! ### latticeref05_Common: function 24 -/
def latticeref05_Common.l0 : Nat → ByteArray → ByteArray → Int → Option (Int)
  | 0, _, _, _ => none
  | k + 1, x0, x1, x5 => if x5 < (x0.size : Int) then (if x5 < (x1.size : Int) then (if 0 ≤ x5 then (if (bt x0 x5) = (bt x1 x5) then (latticeref05_Common.l0 k x0 x1 (wrap64 (x5 + 1))) else (some x5)) else (none)) else (some x5)) else (some x5)
def latticeref05_Common.f (k : Nat) (a0 : ByteArray) (a1 : ByteArray) : Option (Int) := latticeref05_Common.l0 k a0 a1 0
theorem latticeref05_Common.mono_l : ∀ k, (∀ y0 y1 y2, LeO (latticeref05_Common.l0 k y0 y1 y2) (latticeref05_Common.l0 (k + 1) y0 y1 y2))
  | 0 => fun _ _ _ r h => by simp [latticeref05_Common.l0] at h
  | k + 1 => by
    have ih0 := latticeref05_Common.mono_l k
    · intro y0 y1 y2
      unfold latticeref05_Common.l0
      repeat' first
      | (with_reducible exact ih0 _ _ _)
      | (with_reducible exact LeO.refl _)
      | (with_reducible exact LeO.none _)
      | (with_reducible refine LeO.ite ?_ ?_)
      | (with_reducible refine LeO.bind ?_ (fun _ => ?_))
      | exact ih0 _ _ _
      | exact LeO.none _
      | refine LeO.ite ?_ ?_
      | refine LeO.bind ?_ (fun _ => ?_)
theorem latticeref05_Common.mono : ∀ a0 a1 k, LeO (latticeref05_Common.f k a0 a1) (latticeref05_Common.f (k + 1) a0 a1) := by
  intro a0 a1 k
  have ih0 := latticeref05_Common.mono_l k
  unfold latticeref05_Common.f
  repeat' first
      | (with_reducible exact ih0 _ _ _)
      | (with_reducible exact LeO.refl _)
      | (with_reducible exact LeO.none _)
      | (with_reducible refine LeO.ite ?_ ?_)
      | (with_reducible refine LeO.bind ?_ (fun _ => ?_))
      | exact ih0 _ _ _
      | exact LeO.none _
      | refine LeO.ite ?_ ?_
      | refine LeO.bind ?_ (fun _ => ?_)
set_option maxHeartbeats 8000000 in
set_option maxRecDepth 100000 in
theorem latticeref05_Common.calls (k : Nat) (a0 : ByteArray) (a1 : ByteArray) (r : Int) (w : World) (h : latticeref05_Common.f k a0 a1 = some r) :
    Calls Try.prog 24 #[.string a0, .string a1] w fun e w' => e = .returned (.int .i64 r) ∧ Drawn0 w w' := by
  have H : (latticeref05_Common.l0 k a0 a1 0) = some r := h
  clear h
  have H' := Aside0.mk H
  clear H
  go_enter Try.func24, Try.ntmps24
  go_wp2
  repeat (go_quiet (fail); try go_wp2)
  go_loopg [5] k (fun kq v5 w' => ∃ (x5_1 : Int), v5 = .int .i64 x5_1 ∧ Aside0 (latticeref05_Common.l0 kq a0 a1 x5_1 = some r) ∧ Aside0 (kq ≤ k) ∧ Drawn0 w w')
  case atStart => exact ⟨(0), (by first | rfl | (simp; done) | (simp [*]; done)), H', ⟨Nat.le_refl _⟩, by repeat (first | exact Drawn0.refl _ | apply Drawn0.step)⟩
  case round =>
    clear H'
    try clear c2
    try clear p2
    obtain ⟨x5_1, rfl, HA, HK1, ⟨m1, rfl⟩⟩ := hrel
    cases gk with
    | zero => exact absurd HA.out (by simp [latticeref05_Common.l0])
    | succ k1 =>
      have H := HA.out
      clear HA
      simp only [latticeref05_Common.l0] at H
      by_cases c3 : x5_1 < (a0.size : Int)
      · rw [if_pos c3] at H
        have c3b0 : decide (x5_1 < (a0.size : Int)) = true := decide_eq_true c3
        clear c3
        by_cases c4 : x5_1 < (a1.size : Int)
        · rw [if_pos c4] at H
          have c4b0 : decide (x5_1 < (a1.size : Int)) = true := decide_eq_true c4
          clear c4
          by_cases c5 : 0 ≤ x5_1
          · rw [if_pos c5] at H
            have c5b0 : decide (0 ≤ x5_1) = true := decide_eq_true c5
            clear c5
            by_cases c8 : (bt a0 x5_1) = (bt a1 x5_1)
            · rw [if_pos c8] at H
              have c8b0 : ((bt a0 x5_1) == (bt a1 x5_1)) = true := beq_iff_eq.mpr c8
              have c8b1 : ((bt a0 x5_1) != (bt a1 x5_1)) = false := bne_eq_false_iff_eq.mpr c8
              clear c8
              have H' := Aside0.mk H
              clear H
              have p6 : 0 ≤ (x5_1 : Int) := of_decide_eq_true (by first | (with_reducible assumption) | assumption)
              have q6 : x5_1 < (a0.size : Int) := of_decide_eq_true (by first | (with_reducible assumption) | assumption)
              have hx6 := bt_at a0 x5_1
              replace p6 := eq_true p6
              replace q6 := eq_true q6
              have p7 : 0 ≤ (x5_1 : Int) := of_decide_eq_true (by first | (with_reducible assumption) | assumption)
              have q7 : x5_1 < (a1.size : Int) := of_decide_eq_true (by first | (with_reducible assumption) | assumption)
              have hx7 := bt_at a1 x5_1
              replace p7 := eq_true p7
              replace q7 := eq_true q7
              go_wp2
              repeat (go_quiet (fail); try go_wp2)
              go_roundg k1
              case measure => have := HK1.out; omega
              case rel => exact ⟨(wrap64 (x5_1 + 1)), (by first | rfl | (simp; done) | (simp [*]; done)), H', ⟨by have := HK1.out; omega⟩, by repeat (first | exact Drawn0.refl _ | apply Drawn0.step)⟩
            · rw [if_neg c8] at H
              have c8b0 : ((bt a0 x5_1) == (bt a1 x5_1)) = false := beq_eq_false_iff_ne.mpr c8
              have c8b1 : ((bt a0 x5_1) != (bt a1 x5_1)) = true := bne_iff_ne.mpr c8
              obtain rfl := Option.some.inj H
              have p6 : 0 ≤ (x5_1 : Int) := of_decide_eq_true (by first | (with_reducible assumption) | assumption)
              have q6 : x5_1 < (a0.size : Int) := of_decide_eq_true (by first | (with_reducible assumption) | assumption)
              have hx6 := bt_at a0 x5_1
              replace p6 := eq_true p6
              replace q6 := eq_true q6
              have p7 : 0 ≤ (x5_1 : Int) := of_decide_eq_true (by first | (with_reducible assumption) | assumption)
              have q7 : x5_1 < (a1.size : Int) := of_decide_eq_true (by first | (with_reducible assumption) | assumption)
              have hx7 := bt_at a1 x5_1
              replace p7 := eq_true p7
              replace q7 := eq_true q7
              go_wp2
              repeat (go_quiet (fail); try go_wp2)
              go_ret
              exact ⟨by first | rfl | (simp; done) | (simp [*]; done), by repeat (first | exact Drawn0.refl _ | apply Drawn0.step)⟩
          · rw [if_neg c5] at H
            exact absurd H (by simp)
        · rw [if_neg c4] at H
          have c4b0 : decide (x5_1 < (a1.size : Int)) = false := decide_eq_false c4
          clear c4
          obtain rfl := Option.some.inj H
          go_wp2
          repeat (go_quiet (fail); try go_wp2)
          go_ret
          exact ⟨by first | rfl | (simp; done) | (simp [*]; done), by repeat (first | exact Drawn0.refl _ | apply Drawn0.step)⟩
      · rw [if_neg c3] at H
        have c3b0 : decide (x5_1 < (a0.size : Int)) = false := decide_eq_false c3
        clear c3
        obtain rfl := Option.some.inj H
        go_wp2
        repeat (go_quiet (fail); try go_wp2)
        go_ret
        exact ⟨by first | rfl | (simp; done) | (simp [*]; done), by repeat (first | exact Drawn0.refl _ | apply Drawn0.step)⟩

/-! ### latticelaw05_KeyTells: function 8 -/
def latticelaw05_KeyTells.f (k : Nat) (a0 : ByteArray) (a1 : ByteArray) : Option (Bool) := (key_Check.f a0).bind fun t169 => ((latticeref05_Check.f a0).bind fun t170 => (if t169 = t170 then ((key_Value.f a1).bind fun t171 => ((latticeref05_Value.f a1).bind fun t172 => (if t171 = t172 then ((key_Compare.f a0 a1).bind fun t173 => ((latticeref05_Compare.f k a0 a1).bind fun t174 => (if t173 = t174 then ((key_Common.f a0 a1).bind fun t175 => ((latticeref05_Common.f k a0 a1).bind fun t176 => (if t175 = t176 then ((latticelaw05_speaks.f k).bind fun t177 => (some t177)) else (some false)))) else (some false)))) else (some false)))) else (some false)))
theorem latticelaw05_KeyTells.mono : ∀ a0 a1 k, LeO (latticelaw05_KeyTells.f k a0 a1) (latticelaw05_KeyTells.f (k + 1) a0 a1) := by
  intro a0 a1 k
  unfold latticelaw05_KeyTells.f
  repeat' first
      | (with_reducible exact latticelaw05_speaks.mono _)
      | (with_reducible exact latticeref05_Common.mono _ _ _)
      | (with_reducible exact latticeref05_Compare.mono _ _ _)
      | (with_reducible exact LeO.refl _)
      | (with_reducible exact LeO.none _)
      | (with_reducible refine LeO.ite ?_ ?_)
      | (with_reducible refine LeO.bind ?_ (fun _ => ?_))
      | exact latticelaw05_speaks.mono _
      | exact latticeref05_Common.mono _ _ _
      | exact latticeref05_Compare.mono _ _ _
      | exact LeO.none _
      | refine LeO.ite ?_ ?_
      | refine LeO.bind ?_ (fun _ => ?_)
set_option maxHeartbeats 8000000 in
set_option maxRecDepth 100000 in
theorem latticelaw05_KeyTells.calls (k : Nat) (a0 : ByteArray) (a1 : ByteArray) (r : Bool) (w : World) (h : latticelaw05_KeyTells.f k a0 a1 = some r) :
    Calls Try.prog 8 #[.string a0, .string a1] w fun e w' => e = .returned (.bool r) ∧ Below w.heap.size w w' := by
  have HB := Aside0.mk (Below.refl w.heap.size w)
  have H : ((key_Check.f a0).bind fun t169 => ((latticeref05_Check.f a0).bind fun t170 => (if t169 = t170 then ((key_Value.f a1).bind fun t171 => ((latticeref05_Value.f a1).bind fun t172 => (if t171 = t172 then ((key_Compare.f a0 a1).bind fun t173 => ((latticeref05_Compare.f k a0 a1).bind fun t174 => (if t173 = t174 then ((key_Common.f a0 a1).bind fun t175 => ((latticeref05_Common.f k a0 a1).bind fun t176 => (if t175 = t176 then ((latticelaw05_speaks.f k).bind fun t177 => (some t177)) else (some false)))) else (some false)))) else (some false)))) else (some false)))) = some r := h
  clear h
  replace H := Option.bind_eq_some_iff.mp H
  obtain ⟨t169, A30, H⟩ := H
  replace H : ((latticeref05_Check.f a0).bind fun t170 => (if t169 = t170 then ((key_Value.f a1).bind fun t171 => ((latticeref05_Value.f a1).bind fun t172 => (if t171 = t172 then ((key_Compare.f a0 a1).bind fun t173 => ((latticeref05_Compare.f k a0 a1).bind fun t174 => (if t173 = t174 then ((key_Common.f a0 a1).bind fun t175 => ((latticeref05_Common.f k a0 a1).bind fun t176 => (if t175 = t176 then ((latticelaw05_speaks.f k).bind fun t177 => (some t177)) else (some false)))) else (some false)))) else (some false)))) else (some false))) = some r := H
  have A3 := Aside0.mk A30
  clear A30
  replace H := Option.bind_eq_some_iff.mp H
  obtain ⟨t170, A40, H⟩ := H
  replace H : (if t169 = t170 then ((key_Value.f a1).bind fun t171 => ((latticeref05_Value.f a1).bind fun t172 => (if t171 = t172 then ((key_Compare.f a0 a1).bind fun t173 => ((latticeref05_Compare.f k a0 a1).bind fun t174 => (if t173 = t174 then ((key_Common.f a0 a1).bind fun t175 => ((latticeref05_Common.f k a0 a1).bind fun t176 => (if t175 = t176 then ((latticelaw05_speaks.f k).bind fun t177 => (some t177)) else (some false)))) else (some false)))) else (some false)))) else (some false)) = some r := H
  have A4 := Aside0.mk A40
  clear A40
  by_cases c5 : t169 = t170
  · rw [if_pos c5] at H
    have c5b0 : (t169 == t170) = true := beq_iff_eq.mpr c5
    have c5b1 : (t169 != t170) = false := bne_eq_false_iff_eq.mpr c5
    clear c5
    replace H := Option.bind_eq_some_iff.mp H
    obtain ⟨t171, A60, H⟩ := H
    replace H : ((latticeref05_Value.f a1).bind fun t172 => (if t171 = t172 then ((key_Compare.f a0 a1).bind fun t173 => ((latticeref05_Compare.f k a0 a1).bind fun t174 => (if t173 = t174 then ((key_Common.f a0 a1).bind fun t175 => ((latticeref05_Common.f k a0 a1).bind fun t176 => (if t175 = t176 then ((latticelaw05_speaks.f k).bind fun t177 => (some t177)) else (some false)))) else (some false)))) else (some false))) = some r := H
    have A6 := Aside0.mk A60
    clear A60
    replace H := Option.bind_eq_some_iff.mp H
    obtain ⟨t172, A70, H⟩ := H
    replace H : (if t171 = t172 then ((key_Compare.f a0 a1).bind fun t173 => ((latticeref05_Compare.f k a0 a1).bind fun t174 => (if t173 = t174 then ((key_Common.f a0 a1).bind fun t175 => ((latticeref05_Common.f k a0 a1).bind fun t176 => (if t175 = t176 then ((latticelaw05_speaks.f k).bind fun t177 => (some t177)) else (some false)))) else (some false)))) else (some false)) = some r := H
    have A7 := Aside0.mk A70
    clear A70
    by_cases c8 : t171 = t172
    · rw [if_pos c8] at H
      have c8b0 : (t171 == t172) = true := beq_iff_eq.mpr c8
      have c8b1 : (t171 != t172) = false := bne_eq_false_iff_eq.mpr c8
      clear c8
      replace H := Option.bind_eq_some_iff.mp H
      obtain ⟨t173, A90, H⟩ := H
      replace H : ((latticeref05_Compare.f k a0 a1).bind fun t174 => (if t173 = t174 then ((key_Common.f a0 a1).bind fun t175 => ((latticeref05_Common.f k a0 a1).bind fun t176 => (if t175 = t176 then ((latticelaw05_speaks.f k).bind fun t177 => (some t177)) else (some false)))) else (some false))) = some r := H
      have A9 := Aside0.mk A90
      clear A90
      replace H := Option.bind_eq_some_iff.mp H
      obtain ⟨t174, A100, H⟩ := H
      replace H : (if t173 = t174 then ((key_Common.f a0 a1).bind fun t175 => ((latticeref05_Common.f k a0 a1).bind fun t176 => (if t175 = t176 then ((latticelaw05_speaks.f k).bind fun t177 => (some t177)) else (some false)))) else (some false)) = some r := H
      have A10 := Aside0.mk A100
      clear A100
      by_cases c11 : t173 = t174
      · rw [if_pos c11] at H
        have c11b0 : (t173 == t174) = true := beq_iff_eq.mpr c11
        have c11b1 : (t173 != t174) = false := bne_eq_false_iff_eq.mpr c11
        clear c11
        replace H := Option.bind_eq_some_iff.mp H
        obtain ⟨t175, A120, H⟩ := H
        replace H : ((latticeref05_Common.f k a0 a1).bind fun t176 => (if t175 = t176 then ((latticelaw05_speaks.f k).bind fun t177 => (some t177)) else (some false))) = some r := H
        have A12 := Aside0.mk A120
        clear A120
        replace H := Option.bind_eq_some_iff.mp H
        obtain ⟨t176, A130, H⟩ := H
        replace H : (if t175 = t176 then ((latticelaw05_speaks.f k).bind fun t177 => (some t177)) else (some false)) = some r := H
        have A13 := Aside0.mk A130
        clear A130
        by_cases c14 : t175 = t176
        · rw [if_pos c14] at H
          have c14b0 : (t175 == t176) = true := beq_iff_eq.mpr c14
          have c14b1 : (t175 != t176) = false := bne_eq_false_iff_eq.mpr c14
          clear c14
          replace H := Option.bind_eq_some_iff.mp H
          obtain ⟨t177, A150, H⟩ := H
          replace H : (some t177) = some r := H
          have A15 := Aside0.mk A150
          clear A150
          obtain rfl := Option.some.inj H
          go_enter Try.func8, Try.ntmps8
          go_wp2_with (first | ((with_reducible refine gate_callee (f := 19) rfl ?_); refine goesL_ (some 6) rfl rfl Try.func19 (by kernel_rfl) rfl #[.string a0] rfl (by (try simp only [List.map_toArray, List.map_cons, List.map_nil]); first | done | rfl | (simp only [List.length_drop, List.length_take]; rfl)) ?_; (with_reducible refine (key_Check.calls a0 t169 _ A3.out).mono ?_); rintro e w' ⟨rfl, ⟨nd, rfl⟩⟩; refine ⟨_, rfl, ?_⟩) | ((with_reducible refine gate_callee (f := 20) rfl ?_); refine goesL_ (some 8) rfl rfl Try.func20 (by kernel_rfl) rfl #[.string a0] rfl (by (try simp only [List.map_toArray, List.map_cons, List.map_nil]); first | done | rfl | (simp only [List.length_drop, List.length_take]; rfl)) ?_; (with_reducible refine (latticeref05_Check.calls a0 t170 _ A4.out).mono ?_); rintro e w' ⟨rfl, ⟨nd, rfl⟩⟩; refine ⟨_, rfl, ?_⟩) | (go_at_call 21; (with_reducible refine (key_Value.calls a1 t171 _ A6.out).mono ?_); rintro e w' ⟨rfl, ⟨nd, rfl⟩⟩) | (go_at_call 22; (with_reducible refine (latticeref05_Value.calls a1 t172 _ A7.out).mono ?_); rintro e w' ⟨rfl, ⟨nd, rfl⟩⟩) | (go_at_call 17; (with_reducible refine (key_Compare.calls a0 a1 t173 _ A9.out).mono ?_); rintro e w' ⟨rfl, ⟨nd, rfl⟩⟩) | (go_at_call 18; (with_reducible refine (latticeref05_Compare.calls k a0 a1 t174 _ A10.out).mono ?_); rintro e w' ⟨rfl, ⟨nd, rfl⟩⟩) | (go_at_call 23; (with_reducible refine (key_Common.calls a0 a1 t175 _ A12.out).mono ?_); rintro e w16 ⟨rfl, hb⟩; have n0_ := Aside0.mk (below_step (by repeat (first | (with_reducible first | exact HB.out | apply below_alloc | apply pw_below_drewN | apply below_drew1) | exact HB.out)) hb); clear HB; have HB := n0_; clear n0_; (try clear hb); (try clear hb2); (try clear hk); (try clear hi)) | (go_at_call 24; (with_reducible refine (latticeref05_Common.calls k a0 a1 t176 _ A13.out).mono ?_); rintro e w' ⟨rfl, ⟨nd, rfl⟩⟩) | (go_at_call 14; (with_reducible refine (latticelaw05_speaks.calls k  t177 _ A15.out).mono ?_); rintro e w17 ⟨rfl, hb⟩; have n0_ := Aside0.mk (below_step (by repeat (first | (with_reducible first | exact HB.out | apply below_alloc | apply pw_below_drewN | apply below_drew1) | exact HB.out)) hb); clear HB; have HB := n0_; clear n0_; (try clear hb); (try clear hb2); (try clear hk); (try clear hi)))
          go_ret
          exact ⟨by first | rfl | (simp [errW_none, errW_some] <;> rfl) | (simp [*, errW_none, errW_some] <;> rfl), by repeat (first | (with_reducible first | exact HB.out | apply below_alloc | apply pw_below_drewN | apply below_drew1) | exact HB.out)⟩
        · rw [if_neg c14] at H
          have c14b0 : (t175 == t176) = false := beq_eq_false_iff_ne.mpr c14
          have c14b1 : (t175 != t176) = true := bne_iff_ne.mpr c14
          obtain rfl := Option.some.inj H
          go_enter Try.func8, Try.ntmps8
          go_wp2_with (first | ((with_reducible refine gate_callee (f := 19) rfl ?_); refine goesL_ (some 6) rfl rfl Try.func19 (by kernel_rfl) rfl #[.string a0] rfl (by (try simp only [List.map_toArray, List.map_cons, List.map_nil]); first | done | rfl | (simp only [List.length_drop, List.length_take]; rfl)) ?_; (with_reducible refine (key_Check.calls a0 t169 _ A3.out).mono ?_); rintro e w' ⟨rfl, ⟨nd, rfl⟩⟩; refine ⟨_, rfl, ?_⟩) | ((with_reducible refine gate_callee (f := 20) rfl ?_); refine goesL_ (some 8) rfl rfl Try.func20 (by kernel_rfl) rfl #[.string a0] rfl (by (try simp only [List.map_toArray, List.map_cons, List.map_nil]); first | done | rfl | (simp only [List.length_drop, List.length_take]; rfl)) ?_; (with_reducible refine (latticeref05_Check.calls a0 t170 _ A4.out).mono ?_); rintro e w' ⟨rfl, ⟨nd, rfl⟩⟩; refine ⟨_, rfl, ?_⟩) | (go_at_call 21; (with_reducible refine (key_Value.calls a1 t171 _ A6.out).mono ?_); rintro e w' ⟨rfl, ⟨nd, rfl⟩⟩) | (go_at_call 22; (with_reducible refine (latticeref05_Value.calls a1 t172 _ A7.out).mono ?_); rintro e w' ⟨rfl, ⟨nd, rfl⟩⟩) | (go_at_call 17; (with_reducible refine (key_Compare.calls a0 a1 t173 _ A9.out).mono ?_); rintro e w' ⟨rfl, ⟨nd, rfl⟩⟩) | (go_at_call 18; (with_reducible refine (latticeref05_Compare.calls k a0 a1 t174 _ A10.out).mono ?_); rintro e w' ⟨rfl, ⟨nd, rfl⟩⟩) | (go_at_call 23; (with_reducible refine (key_Common.calls a0 a1 t175 _ A12.out).mono ?_); rintro e w18 ⟨rfl, hb⟩; have n0_ := Aside0.mk (below_step (by repeat (first | (with_reducible first | exact HB.out | apply below_alloc | apply pw_below_drewN | apply below_drew1) | exact HB.out)) hb); clear HB; have HB := n0_; clear n0_; (try clear hb); (try clear hb2); (try clear hk); (try clear hi)) | (go_at_call 24; (with_reducible refine (latticeref05_Common.calls k a0 a1 t176 _ A13.out).mono ?_); rintro e w' ⟨rfl, ⟨nd, rfl⟩⟩))
          go_ret
          exact ⟨by first | rfl | (simp [errW_none, errW_some] <;> rfl) | (simp [*, errW_none, errW_some] <;> rfl), by repeat (first | (with_reducible first | exact HB.out | apply below_alloc | apply pw_below_drewN | apply below_drew1) | exact HB.out)⟩
      · rw [if_neg c11] at H
        have c11b0 : (t173 == t174) = false := beq_eq_false_iff_ne.mpr c11
        have c11b1 : (t173 != t174) = true := bne_iff_ne.mpr c11
        obtain rfl := Option.some.inj H
        go_enter Try.func8, Try.ntmps8
        go_wp2_with (first | ((with_reducible refine gate_callee (f := 19) rfl ?_); refine goesL_ (some 6) rfl rfl Try.func19 (by kernel_rfl) rfl #[.string a0] rfl (by (try simp only [List.map_toArray, List.map_cons, List.map_nil]); first | done | rfl | (simp only [List.length_drop, List.length_take]; rfl)) ?_; (with_reducible refine (key_Check.calls a0 t169 _ A3.out).mono ?_); rintro e w' ⟨rfl, ⟨nd, rfl⟩⟩; refine ⟨_, rfl, ?_⟩) | ((with_reducible refine gate_callee (f := 20) rfl ?_); refine goesL_ (some 8) rfl rfl Try.func20 (by kernel_rfl) rfl #[.string a0] rfl (by (try simp only [List.map_toArray, List.map_cons, List.map_nil]); first | done | rfl | (simp only [List.length_drop, List.length_take]; rfl)) ?_; (with_reducible refine (latticeref05_Check.calls a0 t170 _ A4.out).mono ?_); rintro e w' ⟨rfl, ⟨nd, rfl⟩⟩; refine ⟨_, rfl, ?_⟩) | (go_at_call 21; (with_reducible refine (key_Value.calls a1 t171 _ A6.out).mono ?_); rintro e w' ⟨rfl, ⟨nd, rfl⟩⟩) | (go_at_call 22; (with_reducible refine (latticeref05_Value.calls a1 t172 _ A7.out).mono ?_); rintro e w' ⟨rfl, ⟨nd, rfl⟩⟩) | (go_at_call 17; (with_reducible refine (key_Compare.calls a0 a1 t173 _ A9.out).mono ?_); rintro e w' ⟨rfl, ⟨nd, rfl⟩⟩) | (go_at_call 18; (with_reducible refine (latticeref05_Compare.calls k a0 a1 t174 _ A10.out).mono ?_); rintro e w' ⟨rfl, ⟨nd, rfl⟩⟩))
        go_ret
        exact ⟨by first | rfl | (simp [errW_none, errW_some] <;> rfl) | (simp [*, errW_none, errW_some] <;> rfl), by repeat (first | (with_reducible first | exact HB.out | apply below_alloc | apply pw_below_drewN | apply below_drew1) | exact HB.out)⟩
    · rw [if_neg c8] at H
      have c8b0 : (t171 == t172) = false := beq_eq_false_iff_ne.mpr c8
      have c8b1 : (t171 != t172) = true := bne_iff_ne.mpr c8
      obtain rfl := Option.some.inj H
      go_enter Try.func8, Try.ntmps8
      go_wp2_with (first | ((with_reducible refine gate_callee (f := 19) rfl ?_); refine goesL_ (some 6) rfl rfl Try.func19 (by kernel_rfl) rfl #[.string a0] rfl (by (try simp only [List.map_toArray, List.map_cons, List.map_nil]); first | done | rfl | (simp only [List.length_drop, List.length_take]; rfl)) ?_; (with_reducible refine (key_Check.calls a0 t169 _ A3.out).mono ?_); rintro e w' ⟨rfl, ⟨nd, rfl⟩⟩; refine ⟨_, rfl, ?_⟩) | ((with_reducible refine gate_callee (f := 20) rfl ?_); refine goesL_ (some 8) rfl rfl Try.func20 (by kernel_rfl) rfl #[.string a0] rfl (by (try simp only [List.map_toArray, List.map_cons, List.map_nil]); first | done | rfl | (simp only [List.length_drop, List.length_take]; rfl)) ?_; (with_reducible refine (latticeref05_Check.calls a0 t170 _ A4.out).mono ?_); rintro e w' ⟨rfl, ⟨nd, rfl⟩⟩; refine ⟨_, rfl, ?_⟩) | (go_at_call 21; (with_reducible refine (key_Value.calls a1 t171 _ A6.out).mono ?_); rintro e w' ⟨rfl, ⟨nd, rfl⟩⟩) | (go_at_call 22; (with_reducible refine (latticeref05_Value.calls a1 t172 _ A7.out).mono ?_); rintro e w' ⟨rfl, ⟨nd, rfl⟩⟩))
      go_ret
      exact ⟨by first | rfl | (simp [errW_none, errW_some] <;> rfl) | (simp [*, errW_none, errW_some] <;> rfl), by repeat (first | (with_reducible first | exact HB.out | apply below_alloc | apply pw_below_drewN | apply below_drew1) | exact HB.out)⟩
  · rw [if_neg c5] at H
    have c5b0 : (t169 == t170) = false := beq_eq_false_iff_ne.mpr c5
    have c5b1 : (t169 != t170) = true := bne_iff_ne.mpr c5
    obtain rfl := Option.some.inj H
    go_enter Try.func8, Try.ntmps8
    go_wp2_with (first | ((with_reducible refine gate_callee (f := 19) rfl ?_); refine goesL_ (some 6) rfl rfl Try.func19 (by kernel_rfl) rfl #[.string a0] rfl (by (try simp only [List.map_toArray, List.map_cons, List.map_nil]); first | done | rfl | (simp only [List.length_drop, List.length_take]; rfl)) ?_; (with_reducible refine (key_Check.calls a0 t169 _ A3.out).mono ?_); rintro e w' ⟨rfl, ⟨nd, rfl⟩⟩; refine ⟨_, rfl, ?_⟩) | ((with_reducible refine gate_callee (f := 20) rfl ?_); refine goesL_ (some 8) rfl rfl Try.func20 (by kernel_rfl) rfl #[.string a0] rfl (by (try simp only [List.map_toArray, List.map_cons, List.map_nil]); first | done | rfl | (simp only [List.length_drop, List.length_take]; rfl)) ?_; (with_reducible refine (latticeref05_Check.calls a0 t170 _ A4.out).mono ?_); rintro e w' ⟨rfl, ⟨nd, rfl⟩⟩; refine ⟨_, rfl, ?_⟩))
    go_ret
    exact ⟨by first | rfl | (simp [errW_none, errW_some] <;> rfl) | (simp [*, errW_none, errW_some] <;> rfl), by repeat (first | (with_reducible first | exact HB.out | apply below_alloc | apply pw_below_drewN | apply below_drew1) | exact HB.out)⟩

/-- THE ONE PURE STATEMENT of latticelaw05_KeyTells: yours. -/
def latticelaw05_KeyTells.Pure : Prop := ∀ (a0 : ByteArray) (a1 : ByteArray), a0.size ≤ 140737488351232 → a1.size ≤ 140737488351232 → ∃ k, latticelaw05_KeyTells.f k a0 a1 = some true
theorem latticelaw05_KeyTells.walk (P : latticelaw05_KeyTells.Pure) (a0 : ByteArray) (a1 : ByteArray) (w : World) (w0 : a0.size ≤ 140737488351232) (w1 : a1.size ≤ 140737488351232) :
    Calls Try.prog 8 #[.string a0, .string a1] w fun e w' => e = .returned (.bool true) ∧ Below w.heap.size w w' := by
  obtain ⟨k, h⟩ := P a0 a1 w0 w1
  refine (latticelaw05_KeyTells.calls k a0 a1 true w h).mono ?_
  rintro e w' ⟨rfl, hd⟩
  exact ⟨rfl, hd⟩

/-! ### stringslite_HasPrefix: function 35 -/
def stringslite_HasPrefix.f (a0 : ByteArray) (a1 : ByteArray) : Option (Bool) := if (a0.size : Int) ≥ (a1.size : Int) then (if 0 ≤ (a1.size : Int) then (if (a1.size : Int) ≤ (a0.size : Int) then (some ((a0.extract 0 a1.size).toList == a1.toList)) else (none)) else (none)) else (some false)
set_option maxHeartbeats 8000000 in
set_option maxRecDepth 100000 in
theorem stringslite_HasPrefix.calls (a0 : ByteArray) (a1 : ByteArray) (r : Bool) (w : World) (h : stringslite_HasPrefix.f a0 a1 = some r) :
    Calls Try.prog 35 #[.string a0, .string a1] w fun e w' => e = .returned (.bool r) ∧ Drawn0 w w' := by
  have H : (if (a0.size : Int) ≥ (a1.size : Int) then (if 0 ≤ (a1.size : Int) then (if (a1.size : Int) ≤ (a0.size : Int) then (some ((a0.extract 0 a1.size).toList == a1.toList)) else (none)) else (none)) else (some false)) = some r := h
  clear h
  by_cases c3 : (a0.size : Int) ≥ (a1.size : Int)
  · rw [if_pos c3] at H
    have c3b0 : decide ((a1.size : Int) ≤ (a0.size : Int)) = true := decide_eq_true c3
    have c3b1 : decide (a1.size ≤ a0.size) = true := decide_eq_true (Int.ofNat_le.mp c3)
    clear c3
    by_cases c4 : 0 ≤ (a1.size : Int)
    · rw [if_pos c4] at H
      have c4b0 := eq_true c4
      have c4b1 : decide (0 ≤ (a1.size : Int)) = true := decide_eq_true c4
      clear c4
      by_cases c5 : (a1.size : Int) ≤ (a0.size : Int)
      · rw [if_pos c5] at H
        have c5b0 := eq_true c5
        have c5b1 : decide ((a1.size : Int) ≤ (a0.size : Int)) = true := decide_eq_true c5
        clear c5
        obtain rfl := Option.some.inj H
        go_enter Try.func35, Try.ntmps35
        go_wp2
        go_ret
        exact ⟨by first | rfl | (simp; done) | (simp [*]; done), by repeat (first | exact Drawn0.refl _ | apply Drawn0.step)⟩
      · rw [if_neg c5] at H
        exact absurd H (by simp)
    · rw [if_neg c4] at H
      exact absurd H (by simp)
  · rw [if_neg c3] at H
    have c3b0 : decide ((a1.size : Int) ≤ (a0.size : Int)) = false := decide_eq_false c3
    have c3b1 : decide (a1.size ≤ a0.size) = false := decide_eq_false (fun h => c3 (Int.ofNat_le.mpr h))
    clear c3
    obtain rfl := Option.some.inj H
    go_enter Try.func35, Try.ntmps35
    go_wp2
    go_ret
    exact ⟨by first | rfl | (simp; done) | (simp [*]; done), by repeat (first | exact Drawn0.refl _ | apply Drawn0.step)⟩

/-! ### strings_HasPrefix: function 31 -/
def strings_HasPrefix.f (a0 : ByteArray) (a1 : ByteArray) : Option (Bool) := (stringslite_HasPrefix.f a0 a1).bind fun t178 => (some t178)
set_option maxHeartbeats 8000000 in
set_option maxRecDepth 100000 in
theorem strings_HasPrefix.calls (a0 : ByteArray) (a1 : ByteArray) (r : Bool) (w : World) (h : strings_HasPrefix.f a0 a1 = some r) :
    Calls Try.prog 31 #[.string a0, .string a1] w fun e w' => e = .returned (.bool r) ∧ Drawn0 w w' := by
  have H : ((stringslite_HasPrefix.f a0 a1).bind fun t178 => (some t178)) = some r := h
  clear h
  replace H := Option.bind_eq_some_iff.mp H
  obtain ⟨t178, A30, H⟩ := H
  replace H : (some t178) = some r := H
  have A3 := Aside0.mk A30
  clear A30
  obtain rfl := Option.some.inj H
  go_enter Try.func31, Try.ntmps31
  go_wp2_with (first | ((with_reducible refine gate_callee (f := 35) rfl ?_); refine goesL_ (some 7) rfl rfl Try.func35 (by kernel_rfl) rfl #[.string a0, .string a1] rfl (by (try simp only [List.map_toArray, List.map_cons, List.map_nil]); first | done | rfl | (simp only [List.length_drop, List.length_take]; rfl)) ?_; (with_reducible refine (stringslite_HasPrefix.calls a0 a1 t178 _ A3.out).mono ?_); rintro e w' ⟨rfl, ⟨nd, rfl⟩⟩; refine ⟨_, rfl, ?_⟩))
  go_ret
  exact ⟨by first | rfl | (simp; done) | (simp [*]; done), by repeat (first | exact Drawn0.refl _ | apply Drawn0.step)⟩

-- EXT-PART lattice/key.Letters
/-- does U+FFFD stand for itself -/
def fffdB (s : ByteArray) (pos : Nat) : Bool := (strings_HasPrefix.f (s.extract pos s.size) ⟨#[239, 191, 189]⟩).getD false
/-- the letters from a place on: how many more, and whether all are right -/
def lettersGo (s : ByteArray) : Nat → Nat → Int × Bool → Int × Bool
  | 0, _, acc => acc
  | b + 1, pos, acc => if pos < s.size then lettersGo s b (pos + (Utf8.decode s pos).2) (acc.1 + 1, if (Utf8.decode s pos).1 = 65533 then (if fffdB s pos = true then acc.2 else false) else acc.2) else acc
def key_Letters.f (a0 : ByteArray) : Option (Int × Bool) := if a0.size ≤ 1000000000000000000 then some (lettersGo a0 a0.size 0 (0, true)) else none

theorem hasPrefix_some (a b : ByteArray) (ha : a.size ≤ 9223372036854775807) : ∃ r, strings_HasPrefix.f a b = some r := by
  unfold strings_HasPrefix.f stringslite_HasPrefix.f
  by_cases h : (a.size : Int) ≥ (b.size : Int)
  · rw [if_pos h, if_pos (by omega), if_pos (by omega)]
    exact ⟨_, rfl⟩
  · rw [if_neg h]
    exact ⟨_, rfl⟩
theorem fffd_some (s : ByteArray) (pos : Nat) (h : s.size ≤ 1000000000000000000) : strings_HasPrefix.f (s.extract pos s.size) ⟨#[239, 191, 189]⟩ = some (fffdB s pos) := by
  obtain ⟨r, hr⟩ := hasPrefix_some (s.extract pos s.size) ⟨#[239, 191, 189]⟩ (by have := ByteArray.size_extract (a := s) (b := pos) (e := s.size); omega)
  rw [fffdB, hr]; rfl

theorem letters_width (s : ByteArray) (pos : Nat) (h : pos < s.size) : 1 ≤ (Utf8.decode s pos).2 := by
  by_cases ha : (s[pos]'h).toNat < 128
  · rw [decode_ascii s pos h ha]
    exact Nat.le_refl _
  · exact (decode_high s pos h (by omega)).2

set_option maxHeartbeats 4000000 in
set_option maxRecDepth 1000000 in
theorem key_Letters.calls (a0 : ByteArray) (r1 : Int) (r2 : Bool) (w : World) (h : key_Letters.f a0 = some (r1, r2)) :
    Calls Try.prog 25 #[.string a0] w fun e w' => e = .returned (.tuple #[.int .i64 r1, .bool r2]) ∧ Below w.heap.size w w' := by
  unfold key_Letters.f at h
  by_cases hs : a0.size ≤ 1000000000000000000
  · rw [if_pos hs] at h
    have HX := Aside0.mk (Option.some.inj h)
    clear h
    go_enter Try.func25, Try.ntmps25
    go_wp2
    go_loopw [4, 5] (fun v4 v5 w' => ∃ (pos b : Nat) (acc : Int × Bool), Aside0 (Below w.heap.size w w') ∧ (∃ q, w' = (w.iter a0 pos).drewN q) ∧ v4 = .int .i64 acc.1 ∧ v5 = .bool acc.2 ∧ Aside0 (lettersGo a0 b pos acc = (r1, r2)) ∧ Aside0 (a0.size ≤ pos + b) ∧ Aside0 (0 ≤ acc.1 ∧ acc.1 ≤ pos)) (fun _ _ w' => a0.size - w'.iterPos w.heap.size)
    case atStart => exact ⟨0, a0.size, (0, true), ⟨(Below.refl _ _).alloc (Nat.le_refl _) _⟩, ⟨0, rfl⟩, rfl, rfl, HX, ⟨by omega⟩, ⟨by simp⟩⟩
    case round =>
      clear HX
      obtain ⟨pos, b, acc, HB, ⟨q, rfl⟩, rfl, rfl, HX, HS, HA⟩ := hrel
      by_cases hp : pos < a0.size
      · have hnx : ∀ ty, (Instr.next (.pointer (some ⟨w.heap.size, 0, none⟩)) true ty).run Try.prog ((w.iter a0 pos).drewN q) = .ok (.tuple #[.bool true, .int .i64 pos, .int .i32 (Utf8.decode a0 pos).1]) ((w.iter a0 (pos + (Utf8.decode a0 pos).2)).drewN q) := fun ty => run_next_any (w.drewN q) a0 pos ty hp
        have hwd := letters_width a0 pos hp
        have hfd := fffd_some a0 pos hs
        have hac := HA.out
        cases b with
        | zero => have := HS.out; omega
        | succ b =>
        have HX1 := HX.out
        unfold lettersGo at HX1
        rw [if_pos hp] at HX1
        clear HX
        have HB1 : Aside0 (Below w.heap.size w ((w.iter a0 (pos + (Utf8.decode a0 pos).2)))) := ⟨(Below.refl _ _).alloc (Nat.le_refl _) _⟩
        generalize hdec : Utf8.decode a0 pos = dec at hnx hwd HX1 HB1
        clear hdec
        obtain ⟨n, right⟩ := acc
        simp only at hac HX1 HA
        have hn0 : 0 ≤ n := hac.1
        have hn1 : n ≤ 1000000000000000000 := by omega
        have hps : (pos : Int) ≤ (a0.size : Int) := by omega
        by_cases hd : dec.1 = 65533
        · have hdI : ((dec.1 : Int) == 65533) = true := by rw [hd]; rfl
          rw [if_pos hd] at HX1
          clear hd
          generalize fffdB a0 pos = fb at hfd HX1
          have HFD := Aside0.mk hfd
          clear hfd
          cases fb with
          | true =>
            have HX := Aside0.mk HX1
            clear HX1
            go_wp2_with (go_at_call 31; refine (strings_HasPrefix.calls _ _ true _ HFD.out).mono ?_; rintro e w' ⟨rfl, ⟨nd, rfl⟩⟩)
            go_roundw
            case rel => exact ⟨pos + dec.2, b, (n + 1, right), ⟨pw_below_drewN HB1.out _⟩, ⟨_, rfl⟩, rfl, rfl, HX, ⟨by have := HS.out; omega⟩, ⟨by simp only; omega⟩⟩
            case measure => simp only [World.iterPos, World.heap_drewN, World.iter_heap]; omega
          | false =>
            have HX := Aside0.mk HX1
            clear HX1
            go_wp2_with (go_at_call 31; refine (strings_HasPrefix.calls _ _ false _ HFD.out).mono ?_; rintro e w' ⟨rfl, ⟨nd, rfl⟩⟩)
            go_roundw
            case rel => exact ⟨pos + dec.2, b, (n + 1, false), ⟨pw_below_drewN HB1.out _⟩, ⟨_, rfl⟩, rfl, rfl, HX, ⟨by have := HS.out; omega⟩, ⟨by simp only; omega⟩⟩
            case measure => simp only [World.iterPos, World.heap_drewN, World.iter_heap]; omega
        · have hdI : ((dec.1 : Int) == 65533) = false := by simp; omega
          rw [if_neg hd] at HX1
          clear hd hfd
          have HX := Aside0.mk HX1
          clear HX1
          go_wp2
          go_roundw
          case rel => exact ⟨pos + dec.2, b, (n + 1, right), ⟨pw_below_drewN HB1.out _⟩, ⟨_, rfl⟩, rfl, rfl, HX, ⟨by have := HS.out; omega⟩, ⟨by simp only; omega⟩⟩
          case measure => simp only [World.iterPos, World.heap_drewN, World.iter_heap]; omega
      · have hnx : ∀ ty, (Instr.next (.pointer (some ⟨w.heap.size, 0, none⟩)) true ty).run Try.prog ((w.iter a0 pos).drewN q) = .ok (.tuple #[.bool false]) ((w.iter a0 pos).drewN q) := fun ty => run_next_end (w.drewN q) a0 pos ty hp
        go_wp2
        go_ret2
        have h0 : lettersGo a0 b pos acc = acc := by cases b with | zero => rfl | succ b => simp [lettersGo, hp]
        have h1 := HX.out
        rw [h0] at h1
        subst h1
        exact ⟨rfl, HB.out⟩
  · rw [if_neg hs] at h
    cases h

end Go.Proofs.Ytecdgcfcpjhmlaa.Pr
