/- The document's voters. -/
import Derived.Test.YtjbddcaamefgaaaVote
namespace Go.Proofs.Ytjbddcaamefgaaa.Vote
open Go.RowKit Go.Proofs.YtjbddcaamefgaaaW.PrintWords Go.Proofs.YtjbddcaamefgaaaW.PrintLast Go.Proofs.YtjbddcaamefgaaaW.PrintMore Go.Proofs.Ytjbddcaamefgaaa.Wire
set_option linter.unusedVariables false
set_option linter.unusedSimpArgs false
theorem bfalse {b : Bool} (h : b = true → False) : b = false := by cases b <;> simp_all
set_option maxHeartbeats 1000000 in
theorem refright_ok (e f : Int) (w : World) : Calls Try.prog 9 #[.agg #[.int .i64 e, .int .i64 f]] w fun r w' => r = .returned (.bool (okP e f)) ∧ Below w.heap.size w w' := by
  have hd : ∃ b, okP e f = b ∧ ((decide (e ≥ 0) = false ∧ b = false) ∨ (decide (e ≥ 0) = true ∧ decide (e ≤ 1099511627776) = false ∧ b = false) ∨ (decide (e ≥ 0) = true ∧ decide (e ≤ 1099511627776) = true ∧ decide (f ≥ -1) = false ∧ b = false) ∨ (decide (e ≥ 0) = true ∧ decide (e ≤ 1099511627776) = true ∧ decide (f ≥ -1) = true ∧ decide (f ≤ 6) = b)) := by
    refine ⟨_, rfl, ?_⟩
    by_cases h1 : e ≥ 0
    · by_cases h2 : e ≤ 1099511627776
      · by_cases h3 : f ≥ -1
        · refine .inr (.inr (.inr ⟨decide_eq_true h1, decide_eq_true h2, decide_eq_true h3, ?_⟩))
          by_cases h4 : f ≤ 6
          · rw [decide_eq_true h4, okP_iff.2 ⟨⟨h1, h2⟩, h3, by omega⟩]
          · rw [decide_eq_false h4]
            exact (bfalse (fun h => by have := okP_iff.1 h; omega)).symm
        · exact .inr (.inr (.inl ⟨decide_eq_true h1, decide_eq_true h2, decide_eq_false h3, bfalse (fun h => by have := okP_iff.1 h; omega)⟩))
      · exact .inr (.inl ⟨decide_eq_true h1, decide_eq_false h2, bfalse (fun h => by have := okP_iff.1 h; omega)⟩)
    · exact .inl ⟨decide_eq_false h1, bfalse (fun h => by have := okP_iff.1 h; omega)⟩
  obtain ⟨b, hb, hd⟩ := hd
  rw [hb]
  clear hb
  rcases hd with ⟨h1, rfl⟩ | ⟨h1, h2, rfl⟩ | ⟨h1, h2, h3, rfl⟩ | ⟨h1, h2, h3, h4⟩
  all_goals
    go_enter Try.func9, Try.ntmps9
    go_wp2
    go_ret
    exact ⟨rfl, below_alloc (Below.refl _ _) _⟩
set_option maxHeartbeats 1000000 in
theorem refsee_ok (g : Nat) (e f n : Int) (w : World) (h : VotAt 32 w g e f) (he : 0 ≤ e) : Calls Try.prog 14 #[.pointer (some ⟨g, 0, none⟩), .int .i64 n] w fun r w' => r = .returned (.bool (seeF e f n).1) ∧ VotAt 32 w' g (seeF e f n).2.1 (seeF e f n).2.2 ∧ Chg w w' (fun k => k = g) := by
  obtain ⟨c0, c1, f0, f1⟩ := h.cells
  have H := Aside0.mk h
  clear h
  unfold seeF
  by_cases hle : n ≤ e
  · rw [if_pos (.inl hle)]
    have d0 : decide (n ≤ e) = true := decide_eq_true hle
    clear hle he
    go_enter Try.func14, Try.ntmps14
    go_wp2
    go_ret
    exact ⟨rfl, H.out, Chg.refl _ _⟩
  · have d0 : decide (n ≤ e) = false := decide_eq_false hle
    by_cases hm : n > 1099511627776
    · have d1 : decide (n > 1099511627776) = true := decide_eq_true hm
      rw [if_pos (.inr (bfalse (fun h => by have := okE_iff.1 h; omega)))]
      clear hle hm he
      go_enter Try.func14, Try.ntmps14
      go_wp2
      go_ret
      exact ⟨rfl, H.out, Chg.refl _ _⟩
    · have d1 : decide (n > 1099511627776) = false := decide_eq_false hm
      rw [if_neg (by rw [okE_iff.2 ⟨by omega, by omega⟩]; simp [hle])]
      clear hle hm he
      go_enter Try.func14, Try.ntmps14
      go_wp2
      go_ret
      exact ⟨rfl, H.out.set _ _, chg_set2 _ _ _ _⟩
set_option maxHeartbeats 2000000 in
theorem refstand_ok (g : Nat) (e f me : Int) (w : World) (h : VotAt 32 w g e f) (he : 0 ≤ e ∧ e ≤ 1099511627776) : Calls Try.prog 16 #[.pointer (some ⟨g, 0, none⟩), .int .i64 me] w fun r w' => r = .returned (.tuple #[.int .i64 (standF e f me).1.1, .int .i64 (standF e f me).1.2]) ∧ VotAt 32 w' g (standF e f me).2.1 (standF e f me).2.2 ∧ Chg w w' (fun k => k = g) := by
  obtain ⟨c0, c1, f0, f1⟩ := h.cells
  have H := Aside0.mk h
  obtain ⟨he1, he2⟩ := he
  clear h
  unfold standF
  have hd : (okN me = false ∧ (decide (me < 0) = true ∨ (decide (me < 0) = false ∧ decide (me > 6) = true))) ∨ (okN me = true ∧ decide (me < 0) = false ∧ decide (me > 6) = false) := by
    by_cases h1 : me < 0
    · exact .inl ⟨bfalse (fun h => by have := okN_iff.1 h; omega), .inl (decide_eq_true h1)⟩
    · by_cases h2 : me > 6
      · exact .inl ⟨bfalse (fun h => by have := okN_iff.1 h; omega), .inr ⟨decide_eq_false h1, decide_eq_true h2⟩⟩
      · exact .inr ⟨okN_iff.2 ⟨by omega, by omega⟩, decide_eq_false h1, decide_eq_false h2⟩
  rcases hd with ⟨hb, hd⟩ | ⟨hb, d1, d2⟩
  · rw [if_pos hb]
    clear hb
    rcases hd with d1 | ⟨d1, d2⟩
    all_goals
      go_enter Try.func16, Try.ntmps16
      go_wp2
      go_ret2
      exact ⟨rfl, H.out, Chg.refl _ _⟩
  · rw [if_neg (by simp [hb])]
    clear hb
    by_cases hm : e = 1099511627776
    · rw [if_pos hm]
      have d0 : (e == 1099511627776) = true := beq_iff_eq.mpr hm
      clear hm
      go_enter Try.func16, Try.ntmps16
      go_wp2
      go_ret2
      exact ⟨rfl, H.out, Chg.refl _ _⟩
    · rw [if_neg hm]
      have d0 : (e == 1099511627776) = false := beq_eq_false_iff_ne.mpr hm
      clear hm
      go_enter Try.func16, Try.ntmps16
      go_wp2
      go_ret2
      exact ⟨rfl, H.out.set _ _, chg_set2 _ _ _ _⟩
set_option maxRecDepth 100000 in
set_option maxHeartbeats 4000000 in
theorem refask_ok (g : Nat) (e f p n a b c d : Int) (w : World) (h : VotAt 32 w g e f) (he : 0 ≤ e) : Calls Try.prog 12 #[.pointer (some ⟨g, 0, none⟩), .int .i64 p, .int .i64 n, .agg #[.int .i64 a, .int .i64 b], .agg #[.int .i64 c, .int .i64 d]] w fun r w' => r = .returned (.bool (askF e f p n (newer a b c d)).1) ∧ VotAt 32 w' g (askF e f p n (newer a b c d)).2.1 (askF e f p n (newer a b c d)).2.2 ∧ Chg w w' (fun k => k = g) := by
  obtain ⟨c0, c1, fz0, fz1⟩ := h.cells
  have h3 := refnewer_ok a b c d
  have hgl := blk_lt h
  generalize newer a b c d = nw at h3 ⊢
  by_cases hk : okN p = false ∨ n < e ∨ okE n = false
  · unfold askF
    rw [if_pos hk]
    have H := Aside0.mk h
    clear h
    have hd : (decide (p < 0) = true) ∨ (decide (p < 0) = false ∧ decide (p > 6) = true) ∨ (decide (p < 0) = false ∧ decide (p > 6) = false ∧ decide (n < e) = true) ∨ (decide (p < 0) = false ∧ decide (p > 6) = false ∧ decide (n < e) = false ∧ decide (n > 1099511627776) = true) := by
      by_cases h1 : p < 0
      · exact .inl (decide_eq_true h1)
      · by_cases h2 : p > 6
        · exact .inr (.inl ⟨decide_eq_false h1, decide_eq_true h2⟩)
        · by_cases hn : n < e
          · exact .inr (.inr (.inl ⟨decide_eq_false h1, decide_eq_false h2, decide_eq_true hn⟩))
          · refine .inr (.inr (.inr ⟨decide_eq_false h1, decide_eq_false h2, decide_eq_false hn, decide_eq_true ?_⟩))
            rcases hk with hk | hk | hk
            · rw [okN_iff.2 ⟨by omega, by omega⟩] at hk
              cases hk
            · omega
            · by_cases h4 : n > 1099511627776
              · exact h4
              · rw [okE_iff.2 ⟨by omega, by omega⟩] at hk
                cases hk
    clear hk he
    rcases hd with d1 | ⟨d1, d2⟩ | ⟨d1, d2, d3⟩ | ⟨d1, d2, d3, d4⟩
    all_goals
      go_enter Try.func12, Try.ntmps12
      go_wp2
      go_ret
      exact ⟨rfl, H.out.below (below_alloc (below_alloc (Below.refl _ _) _) _), Chg.of_below (below_alloc (below_alloc (Below.refl _ _) _) _) _⟩
  · have hne : ¬ n < e := fun h => hk (.inr (.inl h))
    have hb1 := okN_iff.1 (by cases h : okN p <;> simp_all : okN p = true)
    have hb2 := okE_iff.1 (by cases h : okE n <;> simp_all : okE n = true)
    have d1 : decide (p < 0) = false := decide_eq_false (by omega)
    have d2 : decide (p > 6) = false := decide_eq_false (by omega)
    have d3 : decide (n < e) = false := decide_eq_false hne
    have d4 : decide (n > 1099511627776) = false := decide_eq_false (by omega)
    unfold askF
    rw [if_neg hk]
    have H := Aside0.mk h
    by_cases hgt : n > e
    · rw [if_pos hgt]
      have d5 : decide (n > e) = true := decide_eq_true hgt
      have q1 : ((-1 : Int) != -1) = false := rfl
      rw [show (if ((-1 : Int) ≠ p ∧ (-1 : Int) ≠ -1) ∨ nw = false then (false, n, (-1 : Int)) else (true, n, p)) = (nw, n, if nw = true then p else -1) by cases nw <;> simp]
      have hVA := VotAt.below (VotAt.below (h.set n (-1)) (below_alloc (Below.refl _ _) (.cells #[.int .i64 a, .int .i64 b] 36))) (below_alloc (Below.refl _ _) (.cells #[.int .i64 c, .int .i64 d] 36))
      have hCA := ((chg_set2 w g (.int .i64 n) (.int .i64 (-1))).alloc (.cells #[.int .i64 a, .int .i64 b] 36)).alloc (.cells #[.int .i64 c, .int .i64 d] 36)
      have HVA := Aside0.mk hVA
      have HCA := Aside0.mk hCA
      clear h hk hne hb1 hb2 he hgt hVA hCA
      cases nw
      · go_enter Try.func12, Try.ntmps12
        go_wp2_with (go_at_call 27; refine (h3 _).mono ?_; rintro r w5 ⟨rfl, hB5⟩; (have HV5 := Aside0.mk (HVA.out.below hB5)); (have HC5 := Aside0.mk (HCA.out.then_below hB5)); clear hB5)
        go_ret
        exact ⟨rfl, HV5.out, HC5.out⟩
      · go_enter Try.func12, Try.ntmps12
        go_wp2_with (go_at_call 27; refine (h3 _).mono ?_; rintro r w5 ⟨rfl, hB5⟩; obtain ⟨z0, z1, z2, z3⟩ := (HVA.out.below hB5).cells; (have HV5 := Aside0.mk (HVA.out.below hB5)); (have HC5 := Aside0.mk (HCA.out.then_below hB5)); clear hB5)
        go_ret
        exact ⟨rfl, HV5.out.set1 _, HC5.out.trans (Chg.setCell _ ⟨g, 1, none⟩ _) (fun k hk => .inl hk)⟩
    · rw [if_neg hgt]
      obtain rfl : n = e := by omega
      have d5 : decide (n > n) = false := decide_eq_false (by omega)
      have hd : ∃ rb rf, (if (f ≠ p ∧ f ≠ -1) ∨ nw = false then (false, n, f) else (true, n, p)) = (rb, n, rf) ∧ (((f != -1) = false ∧ nw = rb ∧ rf = (if nw = true then p else f)) ∨ ((f != -1) = true ∧ (f != p) = false ∧ nw = rb ∧ rf = (if nw = true then p else f)) ∨ ((f != -1) = true ∧ (f != p) = true ∧ rb = false ∧ f = rf)) := by
        by_cases q1 : f = -1
        · exact ⟨nw, if nw = true then p else f, by cases nw <;> simp [q1], .inl ⟨by simp [q1], rfl, rfl⟩⟩
        · by_cases q2 : f = p
          · exact ⟨nw, if nw = true then p else f, by cases nw <;> simp [q2], .inr (.inl ⟨by simp [q1], by simp [q2], rfl, rfl⟩)⟩
          · exact ⟨false, f, by simp [q1, q2], .inr (.inr ⟨by simp [q1], by simp [q2], rfl, rfl⟩)⟩
      obtain ⟨rb, rf, hres, hd⟩ := hd
      rw [hres]
      have hVA := VotAt.below (VotAt.below h (below_alloc (Below.refl _ _) (.cells #[.int .i64 a, .int .i64 b] 36))) (below_alloc (Below.refl _ _) (.cells #[.int .i64 c, .int .i64 d] 36))
      have hCA := ((Chg.refl w (fun k => k = g)).alloc (.cells #[.int .i64 a, .int .i64 b] 36)).alloc (.cells #[.int .i64 c, .int .i64 d] 36)
      have HVA := Aside0.mk hVA
      have HCA := Aside0.mk hCA
      clear h hk hne hb1 hb2 he hgt hVA hCA hres d3
      rcases hd with ⟨q1, rfl, rfl⟩ | ⟨q1, q2, rfl, rfl⟩ | ⟨q1, q2, rfl, rfl⟩
      iterate 2
        · cases nw
          · go_enter Try.func12, Try.ntmps12
            go_wp2_with (go_at_call 27; refine (h3 _).mono ?_; rintro r w5 ⟨rfl, hB5⟩; (have HV5 := Aside0.mk (HVA.out.below hB5)); (have HC5 := Aside0.mk (HCA.out.then_below hB5)); clear hB5)
            go_ret
            exact ⟨rfl, HV5.out, HC5.out⟩
          · go_enter Try.func12, Try.ntmps12
            go_wp2_with (go_at_call 27; refine (h3 _).mono ?_; rintro r w5 ⟨rfl, hB5⟩; obtain ⟨z0, z1, z2, z3⟩ := (HVA.out.below hB5).cells; (have HV5 := Aside0.mk (HVA.out.below hB5)); (have HC5 := Aside0.mk (HCA.out.then_below hB5)); clear hB5)
            go_ret
            exact ⟨rfl, HV5.out.set1 _, HC5.out.trans (Chg.setCell _ ⟨g, 1, none⟩ _) (fun k hk => .inl hk)⟩
      · go_enter Try.func12, Try.ntmps12
        go_wp2
        go_ret
        exact ⟨rfl, HVA.out, HCA.out⟩
end Go.Proofs.Ytjbddcaamefgaaa.Vote
