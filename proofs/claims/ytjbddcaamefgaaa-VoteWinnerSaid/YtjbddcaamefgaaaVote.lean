/- The contracts of package vote: promises, voters. -/
import Derived.Test.YtjbddcaamefgaaaWire
namespace Go.Proofs.Ytjbddcaamefgaaa.Vote
open Go.RowKit Go.Proofs.YtjbddcaamefgaaaW.PrintWords Go.Proofs.YtjbddcaamefgaaaW.PrintLast Go.Proofs.YtjbddcaamefgaaaW.PrintMore Go.Proofs.Ytjbddcaamefgaaa.Wire
set_option linter.unusedVariables false
set_option linter.unusedSimpArgs false
/-- an epoch -/
def okE (n : Int) : Bool := decide (n ≥ 0) && decide (n ≤ 1099511627776)
/-- a node -/
def okN (n : Int) : Bool := decide (n ≥ 0) && decide (n < 7)
def okP (e f : Int) : Bool := okE e && (f == -1 || okN f)
theorem okE_iff {n : Int} : okE n = true ↔ 0 ≤ n ∧ n ≤ 1099511627776 := by simp [okE]
theorem okN_iff {n : Int} : okN n = true ↔ 0 ≤ n ∧ n < 7 := by simp [okN]
theorem okP_iff {e f : Int} : okP e f = true ↔ (0 ≤ e ∧ e ≤ 1099511627776) ∧ -1 ≤ f ∧ f < 7 := by
  simp [okP, okE, okN]
  omega
theorem below_from {w w1 w2 : World} {b : Nat} (h : Below b w w1) (hb : b ≤ w.heap.size) (k : Below w1.heap.size w1 w2) : Below b w w2 :=
  h.trans ⟨k.os, k.tape, k.output, k.size, fun i hi => k.block i (by have := h.size; omega)⟩
theorem epoch_ok (n : Int) (w : World) : Calls Try.prog 30 #[.int .i64 n] w fun e w' => e = .returned (.bool (okE n)) ∧ w = w' := by
  unfold okE
  rcases h1 : decide (n ≥ 0) <;> rcases h2 : decide (n ≤ 1099511627776)
  all_goals
    go_enter Try.func30, Try.ntmps30
    go_wp2
    go_ret
    exact ⟨rfl, rfl⟩
theorem node_ok (n : Int) (w : World) : Calls Try.prog 29 #[.int .i64 n] w fun e w' => e = .returned (.bool (okN n)) ∧ w = w' := by
  unfold okN
  rcases h1 : decide (n ≥ 0) <;> rcases h2 : decide (n < 7)
  all_goals
    go_enter Try.func29, Try.ntmps29
    go_wp2
    go_ret
    exact ⟨rfl, rfl⟩
set_option maxHeartbeats 1000000 in
theorem right_ok (e f : Int) (w : World) : Calls Try.prog 28 #[.agg #[.int .i64 e, .int .i64 f]] w fun r w' => r = .returned (.bool (okP e f)) ∧ Below w.heap.size w w' := by
  unfold okP
  have h1 := epoch_ok e
  have h2 := node_ok f
  generalize okE e = b1 at h1 ⊢
  generalize okN f = b2 at h2 ⊢
  rcases h3 : (f == -1) <;> cases b1 <;> cases b2
  all_goals
    go_enter Try.func28, Try.ntmps28
    go_wp2_with (first
      | (go_at_call 30; refine (h1 _).mono ?_; rintro e w' ⟨rfl, rfl⟩)
      | (go_at_call 29; refine (h2 _).mono ?_; rintro e w' ⟨rfl, rfl⟩))
    go_ret
    exact ⟨rfl, below_alloc (Below.refl _ _) _⟩
/-- Block g (of type T) is a voter with the promise e, f. -/
def VotAt (T : TypeId) (w : World) (g : Nat) (e f : Int) : Prop := w.heap[g]? = some (.cells #[.int .i64 e, .int .i64 f] T (0, 0))
theorem VotAt.cells {T : TypeId} {w : World} {g : Nat} {e f : Int} (h : VotAt T w g e f) : w.cell? ⟨g, 0, none⟩ = some (.int .i64 e) ∧ w.cell? ⟨g, 1, none⟩ = some (.int .i64 f) ∧ w.frozen? ⟨g, 0, none⟩ = false ∧ w.frozen? ⟨g, 1, none⟩ = false := by
  unfold VotAt at h
  simp [World.cell?, World.frozen?, h]
theorem VotAt.chg {T : TypeId} {w w1 : World} {g : Nat} {e f : Int} {S : Nat → Prop} (h : VotAt T w g e f) (hc : Chg w w1 S) (hn : ¬ S g) : VotAt T w1 g e f := hc.blk h hn
theorem VotAt.below {T : TypeId} {w w1 : World} {g : Nat} {e f : Int} (h : VotAt T w g e f) (hc : Below w.heap.size w w1) : VotAt T w1 g e f := (Chg.of_below hc (fun _ => False)).blk h (fun h => h)
theorem VotAt.set {T : TypeId} {w : World} {g : Nat} {e f : Int} (h : VotAt T w g e f) (a b : Int) : VotAt T ((w.setCell ⟨g, 0, none⟩ (.int .i64 a)).setCell ⟨g, 1, none⟩ (.int .i64 b)) g a b := by
  unfold VotAt at *
  exact blk_put (blk_put h 0 _ rfl) 1 _ rfl
theorem VotAt.set1 {T : TypeId} {w : World} {g : Nat} {e f : Int} (h : VotAt T w g e f) (b : Int) : VotAt T (w.setCell ⟨g, 1, none⟩ (.int .i64 b)) g e b := by
  unfold VotAt at *
  exact blk_put h 1 _ rfl
theorem chg_set2 (w : World) (g : Nat) (a b : Value) : Chg w ((w.setCell ⟨g, 0, none⟩ a).setCell ⟨g, 1, none⟩ b) (fun k => k = g) :=
  (Chg.setCell w ⟨g, 0, none⟩ a).trans (Chg.setCell _ ⟨g, 1, none⟩ b) (fun k hk => .inl hk)
set_option maxHeartbeats 1000000 in
theorem new_ok (e f : Int) (w : World) (h : okP e f = true) : Calls Try.prog 8 #[.agg #[.int .i64 e, .int .i64 f]] w fun r w' => ∃ g, r = .returned (.tuple #[.pointer (some ⟨g, 0, none⟩), .int .i64 0]) ∧ w.heap.size ≤ g ∧ VotAt 78 w' g e f ∧ Below w.heap.size w w' := by
  have h1 := right_ok e f
  rw [h] at h1
  go_enter Try.func8, Try.ntmps8
  go_wp2_with (go_at_call 28; refine (h1 _).mono ?_; rintro r w2 ⟨rfl, hB⟩; obtain ⟨c0, c1, _, _⟩ := VotAt.cells (T := 23) (VotAt.below (e := e) (f := f) (blk_new w _) hB); (have HB := Aside0.mk (below_from (below_alloc (Below.refl w.heap.size w) _) (Nat.le_refl _) hB)); clear hB)
  go_ret2
  exact ⟨_, rfl, HB.out.size, blk_new _ _, HB.out.alloc HB.out.size _⟩
theorem new_bad (e f : Int) (w : World) (h : okP e f = false) : Calls Try.prog 8 #[.agg #[.int .i64 e, .int .i64 f]] w fun r w' => r = .returned (.tuple #[.pointer none, .int .i64 1]) ∧ Below w.heap.size w w' := by
  have h1 := right_ok e f
  rw [h] at h1
  go_enter Try.func8, Try.ntmps8
  go_wp2_with (go_at_call 28; refine (h1 _).mono ?_; rintro r w2 ⟨rfl, hB⟩; obtain ⟨c0, c1, _, _⟩ := VotAt.cells (T := 23) (VotAt.below (e := e) (f := f) (blk_new w _) hB); (have HB := Aside0.mk (below_from (below_alloc (Below.refl w.heap.size w) _) (Nat.le_refl _) hB)); clear hB)
  go_ret2
  exact ⟨rfl, HB.out⟩
/-- See -/
def seeF (e f n : Int) : Bool × Int × Int := if n ≤ e ∨ okE n = false then (false, e, f) else (true, n, -1)
set_option maxHeartbeats 1000000 in
theorem see_ok (g : Nat) (e f n : Int) (w : World) (h : VotAt 78 w g e f) : Calls Try.prog 13 #[.pointer (some ⟨g, 0, none⟩), .int .i64 n] w fun r w' => r = .returned (.bool (seeF e f n).1) ∧ VotAt 78 w' g (seeF e f n).2.1 (seeF e f n).2.2 ∧ Chg w w' (fun k => k = g) := by
  obtain ⟨c0, c1, f0, f1⟩ := h.cells
  have h1 := epoch_ok n
  have H := Aside0.mk h
  clear h
  unfold seeF
  by_cases hle : n ≤ e
  · rw [if_pos (.inl hle)]
    have d0 : decide (n ≤ e) = true := decide_eq_true hle
    clear hle
    go_enter Try.func13, Try.ntmps13
    go_wp2_with (go_at_call 30; refine (h1 _).mono ?_; rintro e w' ⟨rfl, rfl⟩)
    go_ret
    exact ⟨rfl, H.out, Chg.refl _ _⟩
  · have d0 : decide (n ≤ e) = false := decide_eq_false hle
    rcases hb : okE n
    · rw [if_pos (.inr rfl)]
      rw [hb] at h1
      clear hle
      go_enter Try.func13, Try.ntmps13
      go_wp2_with (go_at_call 30; refine (h1 _).mono ?_; rintro e w' ⟨rfl, rfl⟩)
      go_ret
      exact ⟨rfl, H.out, Chg.refl _ _⟩
    · rw [if_neg (by simp [hle])]
      rw [hb] at h1
      clear hle
      go_enter Try.func13, Try.ntmps13
      go_wp2_with (go_at_call 30; refine (h1 _).mono ?_; rintro e w' ⟨rfl, rfl⟩)
      go_ret
      exact ⟨rfl, H.out.set _ _, chg_set2 _ _ _ _⟩
/-- Newer -/
def newer (a b c d : Int) : Bool := decide (a > c) || (a == c && decide (b ≥ d))
set_option maxHeartbeats 1000000 in
theorem newer_ok (a b c d : Int) (w : World) : Calls Try.prog 26 #[.agg #[.int .i64 a, .int .i64 b], .agg #[.int .i64 c, .int .i64 d]] w fun r w' => r = .returned (.bool (newer a b c d)) ∧ Below w.heap.size w w' := by
  unfold newer
  rcases h1 : decide (a > c) <;> rcases h2 : (a == c) <;> rcases h3 : decide (b ≥ d)
  all_goals
    go_enter Try.func26, Try.ntmps26
    go_wp2
    go_ret
    exact ⟨rfl, below_alloc (below_alloc (Below.refl _ _) _) _⟩
set_option maxHeartbeats 1000000 in
theorem refnewer_ok (a b c d : Int) (w : World) : Calls Try.prog 27 #[.agg #[.int .i64 a, .int .i64 b], .agg #[.int .i64 c, .int .i64 d]] w fun r w' => r = .returned (.bool (newer a b c d)) ∧ Below w.heap.size w w' := by
  unfold newer
  by_cases h : a = c
  · have h1 : decide (a > c) = false := decide_eq_false (by omega)
    have h2 : (a == c) = true := beq_iff_eq.mpr h
    have h3 : (a != c) = false := by rw [bne, h2]; rfl
    rw [h1, h2]
    clear h h1 h2
    rcases h4 : decide (b ≥ d)
    all_goals
      go_enter Try.func27, Try.ntmps27
      go_wp2
      go_ret
      exact ⟨rfl, below_alloc (below_alloc (Below.refl _ _) _) _⟩
  · have h2 : (a == c) = false := beq_eq_false_iff_ne.mpr h
    have h3 : (a != c) = true := by rw [bne, h2]; rfl
    rw [h2]
    clear h h2
    rcases h1 : decide (a > c)
    all_goals
      go_enter Try.func27, Try.ntmps27
      go_wp2
      go_ret
      exact ⟨rfl, below_alloc (below_alloc (Below.refl _ _) _) _⟩
/-- Stand -/
def standF (e f me : Int) : (Int × Int) × Int × Int := if okN me = false then ((0, 1), e, f) else if e = 1099511627776 then ((0, 5), e, f) else ((e + 1, 0), e + 1, me)
set_option maxHeartbeats 2000000 in
theorem stand_ok (g : Nat) (e f me : Int) (w : World) (h : VotAt 78 w g e f) (he : 0 ≤ e ∧ e ≤ 1099511627776) : Calls Try.prog 15 #[.pointer (some ⟨g, 0, none⟩), .int .i64 me] w fun r w' => r = .returned (.tuple #[.int .i64 (standF e f me).1.1, .int .i64 (standF e f me).1.2]) ∧ VotAt 78 w' g (standF e f me).2.1 (standF e f me).2.2 ∧ Chg w w' (fun k => k = g) := by
  obtain ⟨c0, c1, f0, f1⟩ := h.cells
  obtain ⟨c0', c1', _, _⟩ := (h.set (e + 1) me).cells
  have h1 := node_ok me
  have H := Aside0.mk h
  obtain ⟨he1, he2⟩ := he
  clear h
  unfold standF
  rcases hb : okN me
  · rw [if_pos rfl]
    rw [hb] at h1
    go_enter Try.func15, Try.ntmps15
    go_wp2_with (go_at_call 29; refine (h1 _).mono ?_; rintro e w' ⟨rfl, rfl⟩)
    go_ret2
    exact ⟨rfl, H.out, Chg.refl _ _⟩
  · rw [if_neg (by simp)]
    rw [hb] at h1
    by_cases hm : e = 1099511627776
    · rw [if_pos hm]
      have d0 : (e == 1099511627776) = true := beq_iff_eq.mpr hm
      clear hm
      go_enter Try.func15, Try.ntmps15
      go_wp2_with (go_at_call 29; refine (h1 _).mono ?_; rintro e w' ⟨rfl, rfl⟩)
      go_ret2
      exact ⟨rfl, H.out, Chg.refl _ _⟩
    · rw [if_neg hm]
      have d0 : (e == 1099511627776) = false := beq_eq_false_iff_ne.mpr hm
      clear hm
      go_enter Try.func15, Try.ntmps15
      go_wp2_with (go_at_call 29; refine (h1 _).mono ?_; rintro e w' ⟨rfl, rfl⟩)
      go_ret2
      exact ⟨rfl, H.out.set _ _, chg_set2 _ _ _ _⟩
theorem promise_ok (g : Nat) (e f : Int) (w : World) (h : VotAt 78 w g e f) : Calls Try.prog 17 #[.pointer (some ⟨g, 0, none⟩)] w fun r w' => r = .returned (.agg #[.int .i64 e, .int .i64 f]) ∧ Below w.heap.size w w' := by
  obtain ⟨c0, c1, f0, f1⟩ := h.cells
  obtain ⟨c0', c1', _, _⟩ := (h.below (below_alloc (Below.refl _ _) (.cells #[.int .i64 0, .int .i64 0] 23))).cells
  clear h
  go_enter Try.func17, Try.ntmps17
  go_wp2
  refine bodyPost_ret (results_cell_row rfl _ _ w.heap.size 23 #[.int .i64 e, .int .i64 f] (0, 0) _ rfl (blk_new _ _) Try.underlying23 rfl (by kernel_rfl)) rfl ?_
  exact ⟨rfl, below_alloc (Below.refl _ _) _⟩
theorem promise_nil (w : World) : Calls Try.prog 17 #[.pointer none] w fun r w' => r = .returned (.agg #[.int .i64 0, .int .i64 (-1)]) ∧ Below w.heap.size w w' := by
  go_enter Try.func17, Try.ntmps17
  go_wp2
  refine bodyPost_ret (results_cell_row rfl _ _ w.heap.size 23 #[.int .i64 0, .int .i64 (-1)] (0, 0) _ rfl (blk_new _ _) Try.underlying23 rfl (by kernel_rfl)) rfl ?_
  exact ⟨rfl, below_alloc (Below.refl _ _) _⟩
theorem stand_nil (me : Int) (w : World) : Calls Try.prog 15 #[.pointer none, .int .i64 me] w fun r w' => r = .returned (.tuple #[.int .i64 0, .int .i64 (if okN me = true then 7 else 1)]) ∧ w = w' := by
  have h1 := node_ok me
  generalize okN me = b at h1 ⊢
  cases b
  all_goals
    go_enter Try.func15, Try.ntmps15
    go_wp2_with (go_at_call 29; refine (h1 _).mono ?_; rintro e w' ⟨rfl, rfl⟩)
    go_ret2
    exact ⟨rfl, rfl⟩
theorem see_nil (n : Int) (w : World) : Calls Try.prog 13 #[.pointer none, .int .i64 n] w fun r w' => r = .returned (.bool false) ∧ w = w' := by
  go_enter Try.func13, Try.ntmps13
  go_wp2
  go_ret
  exact ⟨rfl, rfl⟩
theorem ask_nil (n m a b c d : Int) (w : World) : Calls Try.prog 11 #[.pointer none, .int .i64 n, .int .i64 m, .agg #[.int .i64 a, .int .i64 b], .agg #[.int .i64 c, .int .i64 d]] w fun r w' => r = .returned (.bool false) ∧ Below w.heap.size w w' := by
  go_enter Try.func11, Try.ntmps11
  go_wp2
  go_ret
  exact ⟨rfl, below_alloc (below_alloc (Below.refl _ _) _) _⟩
/-- Ask -/
def askF (e f p n : Int) (nw : Bool) : Bool × Int × Int :=
  if okN p = false ∨ n < e ∨ okE n = false then (false, e, f) else if ((if n > e then -1 else f) ≠ p ∧ (if n > e then -1 else f) ≠ -1) ∨ nw = false then (false, n, if n > e then -1 else f) else (true, n, p)
theorem seeF_ask {e f n : Int} (h : ¬ n < e) (h2 : okE n = true) : (seeF e f n).2 = (n, if n > e then -1 else f) := by
  unfold seeF
  by_cases h3 : n ≤ e
  · rw [if_pos (.inl h3), if_neg (by omega), show n = e by omega]
  · rw [if_neg (by simp [h2, h3]), if_pos (by omega)]
set_option maxRecDepth 100000 in
set_option maxHeartbeats 4000000 in
theorem ask_ok (g : Nat) (e f p n a b c d : Int) (w : World) (h : VotAt 78 w g e f) : Calls Try.prog 11 #[.pointer (some ⟨g, 0, none⟩), .int .i64 p, .int .i64 n, .agg #[.int .i64 a, .int .i64 b], .agg #[.int .i64 c, .int .i64 d]] w fun r w' => r = .returned (.bool (askF e f p n (newer a b c d)).1) ∧ VotAt 78 w' g (askF e f p n (newer a b c d)).2.1 (askF e f p n (newer a b c d)).2.2 ∧ Chg w w' (fun k => k = g) := by
  obtain ⟨c0, c1, fz0, fz1⟩ := h.cells
  have h1 := node_ok p
  have h2 := epoch_ok n
  have h3 := newer_ok a b c d
  have hgl := blk_lt h
  generalize newer a b c d = nw at h3 ⊢
  by_cases hk : okN p = false ∨ n < e ∨ okE n = false
  · unfold askF
    rw [if_pos hk]
    have H := Aside0.mk h
    clear h
    generalize okN p = b1 at h1 hk
    generalize okE n = b2 at h2 hk
    have hd : (b1 = false) ∨ (b1 = true ∧ decide (n < e) = true) ∨ (b1 = true ∧ decide (n < e) = false ∧ b2 = false) := by
      cases b1
      · exact .inl rfl
      · by_cases hn : n < e
        · exact .inr (.inl ⟨rfl, decide_eq_true hn⟩)
        · exact .inr (.inr ⟨rfl, decide_eq_false hn, by simpa [hn] using hk⟩)
    clear hk
    rcases hd with rfl | ⟨rfl, d1⟩ | ⟨rfl, d1, rfl⟩
    all_goals
      go_enter Try.func11, Try.ntmps11
      go_wp2_with (first
        | (go_at_call 29; refine (h1 _).mono ?_; rintro e w' ⟨rfl, rfl⟩)
        | (go_at_call 30; refine (h2 _).mono ?_; rintro e w' ⟨rfl, rfl⟩))
      go_ret
      exact ⟨rfl, H.out.below (below_alloc (below_alloc (Below.refl _ _) _) _), Chg.of_below (below_alloc (below_alloc (Below.refl _ _) _) _) _⟩
  · have hs := fun W (hW : VotAt 78 W g e f) => see_ok g e f n W hW
    have hne : ¬ n < e := fun h => hk (.inr (.inl h))
    have hb1 : okN p = true := by cases h : okN p <;> simp_all
    have hb2 : okE n = true := by cases h : okE n <;> simp_all
    have hsf := seeF_ask (f := f) hne hb2
    have d1 : decide (n < e) = false := decide_eq_false hne
    rw [hsf] at hs
    unfold askF
    rw [if_neg hk]
    rw [hb1] at h1
    rw [hb2] at h2
    generalize (if n > e then -1 else f) = f1 at hs ⊢
    generalize (seeF e f n).1 = sb at hs
    have hd : ∃ rb rf, (if (f1 ≠ p ∧ f1 ≠ -1) ∨ nw = false then (false, n, f1) else (true, n, p)) = (rb, n, rf) ∧ (((f1 == p) = true ∧ (f1 != p) = false ∧ nw = rb ∧ rf = (if nw = true then p else f1)) ∨ (((f1 == p) = false ∧ (f1 != p) = true) ∧ ((f1 == -1) = true ∧ (f1 != -1) = false) ∧ nw = rb ∧ rf = (if nw = true then p else f1)) ∨ (((f1 == p) = false ∧ (f1 != p) = true) ∧ ((f1 == -1) = false ∧ (f1 != -1) = true) ∧ rb = false ∧ f1 = rf)) := by
      by_cases q1 : f1 = p
      · exact ⟨nw, if nw = true then p else f1, by cases nw <;> simp [q1], .inl ⟨by simp [q1], by simp [q1], rfl, rfl⟩⟩
      · by_cases q2 : f1 = -1
        · exact ⟨nw, if nw = true then p else f1, by cases nw <;> simp [q2], .inr (.inl ⟨⟨by simp [q1], by simp [q1]⟩, ⟨by simp [q2], by simp [q2]⟩, rfl, rfl⟩)⟩
        · exact ⟨false, f1, by simp [q1, q2], .inr (.inr ⟨⟨by simp [q1], by simp [q1]⟩, ⟨by simp [q2], by simp [q2]⟩, rfl, rfl⟩)⟩
    obtain ⟨rb, rf, hres, hd⟩ := hd
    rw [hres]
    clear hres
    have hs2 := hs ((w.alloc (.cells #[.int .i64 a, .int .i64 b] 36)).alloc (.cells #[.int .i64 c, .int .i64 d] 36)) (VotAt.below (VotAt.below h (below_alloc (Below.refl _ _) _)) (below_alloc (Below.refl _ _) _))
    have hx0 : VotAt 36 (w.alloc (.cells #[.int .i64 a, .int .i64 b] 36)) w.heap.size a b := blk_new _ _
    have hx1 : VotAt 36 ((w.alloc (.cells #[.int .i64 a, .int .i64 b] 36)).alloc (.cells #[.int .i64 c, .int .i64 d] 36)) w.heap.size a b := VotAt.below hx0 (below_alloc (Below.refl _ _) _)
    have hy1 : VotAt 36 ((w.alloc (.cells #[.int .i64 a, .int .i64 b] 36)).alloc (.cells #[.int .i64 c, .int .i64 d] 36)) (w.alloc (.cells #[.int .i64 a, .int .i64 b] 36)).heap.size c d := blk_new _ _
    have hC0 : Chg w ((w.alloc (.cells #[.int .i64 a, .int .i64 b] 36)).alloc (.cells #[.int .i64 c, .int .i64 d] 36)) (fun k => k = g) := Chg.of_below (below_alloc (below_alloc (Below.refl _ _) _) _) _
    have HX := Aside0.mk hx1
    have HY := Aside0.mk hy1
    have HC0 := Aside0.mk hC0
    have hsz : (w.alloc (.cells #[.int .i64 a, .int .i64 b] 36)).heap.size = w.heap.size + 1 := by
      show (w.heap.push _).size = _
      simp
    have HSZ := Aside0.mk hsz
    have HGL := Aside0.mk hgl
    clear h hx0 hx1 hy1 hC0 hsz hs hk hne hb1 hb2 hsf
    go_enter Try.func11, Try.ntmps11
    go_upto_region 5 with (first
      | (go_at_call 29; refine (h1 _).mono ?_; rintro e w' ⟨rfl, rfl⟩)
      | (go_at_call 30; refine (h2 _).mono ?_; rintro e w' ⟨rfl, rfl⟩)
      | (go_at_call 13; refine hs2.mono ?_; rintro e w3 ⟨rfl, hV, hCh⟩; (have hx3 := HX.out.chg hCh (fun q => by have q : w.heap.size = g := q; omega)); (have hy3 := HY.out.chg hCh (fun q => by rw [HSZ.out] at q; have q : w.heap.size + 1 = g := q; omega)); rw [HSZ.out] at hy3; obtain ⟨v0, v1, v2, v3⟩ := hV.cells; obtain ⟨x0, x1, _, _⟩ := hx3.cells; obtain ⟨y0, y1, _, _⟩ := hy3.cells; (have l1 := blk_lt hV); (have l2 := blk_lt hx3); (have l3 := blk_lt hy3); (have HV := Aside0.mk hV); (have HX3 := Aside0.mk hx3); (have HY3 := Aside0.mk hy3); (have HCH := Aside0.mk (HC0.out.trans hCh (fun k hk => .inl hk))); clear hV hCh hs2 hx3 hy3))
    have hV4 := HV.out.below (below_alloc (Below.refl _ _) (.cells #[.int .i64 n, .int .i64 p] 23))
    have hO4 : VotAt 23 (w3.alloc (.cells #[.int .i64 n, .int .i64 p] 23)) w3.heap.size n p := blk_new _ _
    have hX4 := HX3.out.below (below_alloc (Below.refl _ _) (.cells #[.int .i64 n, .int .i64 p] 23))
    have hY4 := HY3.out.below (below_alloc (Below.refl _ _) (.cells #[.int .i64 n, .int .i64 p] 23))
    have HCH4 := Aside0.mk (HCH.out.alloc (.cells #[.int .i64 n, .int .i64 p] 23))
    obtain ⟨t0, t1, _, _⟩ := hV4.cells
    obtain ⟨t2, t3, _, _⟩ := hO4.cells
    obtain ⟨t4, t5, _, _⟩ := hX4.cells
    obtain ⟨t6, t7, _, _⟩ := hY4.cells
    have HV4 := Aside0.mk hV4
    have HO4 := Aside0.mk hO4
    clear hV4 hO4 hX4 hY4 v0 v1 v2 v3 x0 x1 y0 y1 l1 l2 l3
    rcases hd with ⟨q1, q2, rfl, rfl⟩ | ⟨⟨q1, q2⟩, ⟨q3, q4⟩, rfl, rfl⟩ | ⟨⟨q1, q2⟩, ⟨q3, q4⟩, rfl, rfl⟩
    · skip
      refine start_ (n := 20) (S := fun w' => w'.cell? ⟨g, 0, none⟩ = some (.int .i64 n) ∧ w'.cell? ⟨g, 1, none⟩ = some (.int .i64 f1) ∧ w'.cell? ⟨w3.heap.size, 0, none⟩ = some (.int .i64 n) ∧ w'.cell? ⟨w3.heap.size, 1, none⟩ = some (.int .i64 p) ∧ w'.cell? ⟨w.heap.size, 0, none⟩ = some (.int .i64 a) ∧ w'.cell? ⟨w.heap.size, 1, none⟩ = some (.int .i64 b) ∧ w'.cell? ⟨w.heap.size + 1, 0, none⟩ = some (.int .i64 c) ∧ w'.cell? ⟨w.heap.size + 1, 1, none⟩ = some (.int .i64 d)) (ds := [17]) #[false, false, false, false, false, false, false, false, false, false, false, false, false, false, false, false, false, false, false, false] (by kernel_rfl) rfl rfl ⟨t0, t1, t2, t3, t4, t5, t6, t7⟩ (fun hHeld => ?_)
      refine pure_ (i := 0) (N := some 39) (v := ?_) (a' := ?_) #[true, false, false, false, false, false, false, false, false, false, false, false, false, false, false, false, false, false, false, false] rfl rfl (by kernel_rfl) (fun _ _ _ h => h) (Or.inl ⟨by rfl, ?_⟩) ?_ ?_
      rotate_left
      · intro w'
        go_simp
        with_reducible rfl
      rotate_left
      · simp only [Act.put, List.setIfInBounds_toArray, List.set_cons_zero, List.set_cons_succ, i64_w, i32_w]
        rfl
      refine pure_ (i := 1) (N := some 40) (v := ?_) (a' := ?_) #[true, true, false, false, false, false, false, false, false, false, false, false, false, false, false, false, false, false, false, false] rfl rfl (by kernel_rfl) (fun _ _ _ h => h) (Or.inl ⟨by rfl, ?_⟩) ?_ ?_
      rotate_left
      · intro w'
        go_simp
        with_reducible rfl
      rotate_left
      · simp only [Act.put, List.setIfInBounds_toArray, List.set_cons_zero, List.set_cons_succ, i64_w, i32_w]
        rfl
      refine pure_ (i := 2) (N := some 41) (v := ?_) (a' := ?_) #[true, true, true, false, false, false, false, false, false, false, false, false, false, false, false, false, false, false, false, false] rfl rfl (by kernel_rfl) (fun _ _ _ h => h) (Or.inl ⟨by rfl, ?_⟩) ?_ ?_
      rotate_left
      · intro w'
        go_simp
        with_reducible rfl
      rotate_left
      · simp only [Act.put, List.setIfInBounds_toArray, List.set_cons_zero, List.set_cons_succ, i64_w, i32_w]
        rfl
      refine take_ (i := 3) (N := some 42) (v := ?_) (a' := ?_) #[true, true, true, true, false, false, false, false, false, false, false, false, false, false, false, false, false, false, false, false] rfl rfl (by kernel_rfl) (fun _ _ _ h => h) (Or.inl ⟨by rfl, ?_⟩) hHeld ?_ ?_
      rotate_left
      · rintro w' ⟨s0, s1, s2, s3, s4, s5, s6, s7⟩
        go_simp
        with_reducible rfl
      rotate_left
      · simp only [Act.put, List.setIfInBounds_toArray, List.set_cons_zero, List.set_cons_succ, i64_w, i32_w]
        rfl
      refine take_ (i := 4) (N := some 43) (v := ?_) (a' := ?_) #[true, true, true, true, true, false, false, false, false, false, false, false, false, false, false, false, false, false, false, false] rfl rfl (by kernel_rfl) (fun _ _ _ h => h) (Or.inl ⟨by rfl, ?_⟩) hHeld ?_ ?_
      rotate_left
      · rintro w' ⟨s0, s1, s2, s3, s4, s5, s6, s7⟩
        go_simp
        with_reducible rfl
      rotate_left
      · simp only [Act.put, List.setIfInBounds_toArray, List.set_cons_zero, List.set_cons_succ, i64_w, i32_w]
        rfl
      refine pure_ (i := 5) (N := some 44) (v := ?_) (a' := ?_) #[true, true, true, true, true, true, false, false, false, false, false, false, false, false, false, false, false, false, false, false] rfl rfl (by kernel_rfl) (fun _ _ _ h => h) (Or.inl ⟨by rfl, ?_⟩) ?_ ?_
      rotate_left
      · intro w'
        go_simp
        with_reducible rfl
      rotate_left
      · simp only [Act.put, List.setIfInBounds_toArray, List.set_cons_zero, List.set_cons_succ, i64_w, i32_w]
        rfl
      refine pure_ (i := 6) (N := some 45) (v := ?_) (a' := ?_) #[true, true, true, true, true, true, true, false, false, false, false, false, false, false, false, false, false, false, false, false] rfl rfl (by kernel_rfl) (fun _ _ _ h => h) (Or.inl ⟨by rfl, ?_⟩) ?_ ?_
      rotate_left
      · intro w'
        go_simp
        with_reducible rfl
      rotate_left
      · simp only [Act.put, List.setIfInBounds_toArray, List.set_cons_zero, List.set_cons_succ, i64_w, i32_w]
        rfl
      refine pure_ (i := 7) (N := some 46) (v := undef) (a' := ?_) #[true, true, true, true, true, true, true, true, false, false, false, false, false, false, false, false, false, false, false, false] rfl rfl (by kernel_rfl) (fun _ _ _ h => h) (Or.inr ⟨by rfl, rfl⟩) ?_ ?_
      rotate_left
      · simp only [Act.put, List.setIfInBounds_toArray, List.set_cons_zero, List.set_cons_succ, i64_w, i32_w]
        rfl
      refine pure_ (i := 8) (N := some 47) (v := undef) (a' := ?_) #[true, true, true, true, true, true, true, true, true, false, false, false, false, false, false, false, false, false, false, false] rfl rfl (by kernel_rfl) (fun _ _ _ h => h) (Or.inr ⟨by rfl, rfl⟩) ?_ ?_
      rotate_left
      · simp only [Act.put, List.setIfInBounds_toArray, List.set_cons_zero, List.set_cons_succ, i64_w, i32_w]
        rfl
      refine pure_ (i := 9) (N := some 48) (v := undef) (a' := ?_) #[true, true, true, true, true, true, true, true, true, true, false, false, false, false, false, false, false, false, false, false] rfl rfl (by kernel_rfl) (fun _ _ _ h => h) (Or.inr ⟨by rfl, rfl⟩) ?_ ?_
      rotate_left
      · simp only [Act.put, List.setIfInBounds_toArray, List.set_cons_zero, List.set_cons_succ, i64_w, i32_w]
        rfl
      refine pure_ (i := 10) (N := some 49) (v := undef) (a' := ?_) #[true, true, true, true, true, true, true, true, true, true, true, false, false, false, false, false, false, false, false, false] rfl rfl (by kernel_rfl) (fun _ _ _ h => h) (Or.inr ⟨by rfl, rfl⟩) ?_ ?_
      rotate_left
      · simp only [Act.put, List.setIfInBounds_toArray, List.set_cons_zero, List.set_cons_succ, i64_w, i32_w]
        rfl
      refine pure_ (i := 11) (N := some 50) (v := undef) (a' := ?_) #[true, true, true, true, true, true, true, true, true, true, true, true, false, false, false, false, false, false, false, false] rfl rfl (by kernel_rfl) (fun _ _ _ h => h) (Or.inr ⟨by rfl, rfl⟩) ?_ ?_
      rotate_left
      · simp only [Act.put, List.setIfInBounds_toArray, List.set_cons_zero, List.set_cons_succ, i64_w, i32_w]
        rfl
      refine pure_ (i := 12) (N := some 51) (v := undef) (a' := ?_) #[true, true, true, true, true, true, true, true, true, true, true, true, true, false, false, false, false, false, false, false] rfl rfl (by kernel_rfl) (fun _ _ _ h => h) (Or.inr ⟨by rfl, rfl⟩) ?_ ?_
      rotate_left
      · simp only [Act.put, List.setIfInBounds_toArray, List.set_cons_zero, List.set_cons_succ, i64_w, i32_w]
        rfl
      refine pure_ (i := 13) (N := some 52) (v := ?_) (a' := ?_) #[true, true, true, true, true, true, true, true, true, true, true, true, true, true, false, false, false, false, false, false] rfl rfl (by kernel_rfl) (fun _ _ _ h => h) (Or.inl ⟨by rfl, ?_⟩) ?_ ?_
      rotate_left
      · intro w'
        go_simp
        with_reducible rfl
      rotate_left
      · simp only [Act.put, List.setIfInBounds_toArray, List.set_cons_zero, List.set_cons_succ, i64_w, i32_w]
        rfl
      refine pure_ (i := 14) (N := some 53) (v := ?_) (a' := ?_) #[true, true, true, true, true, true, true, true, true, true, true, true, true, true, true, false, false, false, false, false] rfl rfl (by kernel_rfl) (fun _ _ _ h => h) (Or.inl ⟨by rfl, ?_⟩) ?_ ?_
      rotate_left
      · intro w'
        go_simp
        with_reducible rfl
      rotate_left
      · simp only [Act.put, List.setIfInBounds_toArray, List.set_cons_zero, List.set_cons_succ, i64_w, i32_w]
        rfl
      refine take_ (i := 15) (N := some 54) (v := ?_) (a' := ?_) #[true, true, true, true, true, true, true, true, true, true, true, true, true, true, true, true, false, false, false, false] rfl rfl (by kernel_rfl) (fun _ _ _ h => h) (Or.inl ⟨by rfl, ?_⟩) hHeld ?_ ?_
      rotate_left
      · rintro w' ⟨s0, s1, s2, s3, s4, s5, s6, s7⟩
        go_simp
        with_reducible rfl
      rotate_left
      · simp only [Act.put, List.setIfInBounds_toArray, List.set_cons_zero, List.set_cons_succ, i64_w, i32_w]
        rfl
      refine take_ (i := 16) (N := some 55) (v := ?_) (a' := ?_) #[true, true, true, true, true, true, true, true, true, true, true, true, true, true, true, true, true, false, false, false] rfl rfl (by kernel_rfl) (fun _ _ _ h => h) (Or.inl ⟨by rfl, ?_⟩) hHeld ?_ ?_
      rotate_left
      · rintro w' ⟨s0, s1, s2, s3, s4, s5, s6, s7⟩
        go_simp
        with_reducible rfl
      rotate_left
      · simp only [Act.put, List.setIfInBounds_toArray, List.set_cons_zero, List.set_cons_succ, i64_w, i32_w]
        rfl
      refine last_ (i := 17) (N := some 56) #[true, true, true, true, true, true, true, true, true, true, true, true, true, true, true, true, true, true, false, false] rfl rfl (by kernel_rfl) (by decide) (fun K hK => ?_)
      refine goes_ Try.func26 (by kernel_rfl) rfl #[.agg #[.int .i64 a, .int .i64 b], .agg #[.int .i64 c, .int .i64 d]] (by rfl) rfl rfl (by (try simp only [List.map_toArray, List.map_cons, List.map_nil]); first | done | rfl) ?_
      with_reducible refine (h3 _).mono ?_
      rintro r w5 ⟨rfl, hB5⟩
      refine ⟨_, rfl, ?_⟩
      obtain ⟨z0, z1, z2, z3⟩ := (HV4.out.below (below_from (below_drew (Below.refl _ _)) (Nat.le_refl _) hB5)).cells
      obtain ⟨o0, o1, _, _⟩ := (HO4.out.below (below_from (below_drew (Below.refl _ _)) (Nat.le_refl _) hB5)).cells
      have HB5 := Aside0.mk (below_from (below_drew (Below.refl _ _)) (Nat.le_refl _) hB5)
      have HV5 := Aside0.mk (HV4.out.below HB5.out)
      clear hB5
      refine hK.out _ _ ?_
      clear hK K
      refine norm_ (a' := ?_) ?_ ?_
      rotate_left
      · show Act.put _ (some 56) _ = _
        simp only [Act.put, List.setIfInBounds_toArray, List.set_cons_zero, List.set_cons_succ, i64_w, i32_w]
        rfl
      refine pure_ (i := 18) (N := some 57) (v := ?_) (a' := ?_) #[true, true, true, true, true, true, true, true, true, true, true, true, true, true, true, true, true, true, true, false] rfl rfl (by kernel_rfl) (fun _ _ _ h => h) (Or.inl ⟨by rfl, ?_⟩) ?_ ?_
      rotate_left
      · intro w'
        go_simp
        with_reducible rfl
      rotate_left
      · simp only [Act.put, List.setIfInBounds_toArray, List.set_cons_zero, List.set_cons_succ, i64_w, i32_w]
        rfl
      refine pure_ (i := 19) (N := some 58) (v := ?_) (a' := ?_) #[true, true, true, true, true, true, true, true, true, true, true, true, true, true, true, true, true, true, true, true] rfl rfl (by kernel_rfl) (fun _ _ _ h => h) (Or.inl ⟨by rfl, ?_⟩) ?_ ?_
      rotate_left
      · intro w'
        go_simp
        with_reducible rfl
      rotate_left
      · simp only [Act.put, List.setIfInBounds_toArray, List.set_cons_zero, List.set_cons_succ, i64_w, i32_w]
        rfl
      refine done_ (by kernel_rfl) ?_
      cases nw
      · go_wp2
        go_ret
        exact ⟨rfl, HV5.out, (HCH4.out.then_below HB5.out)⟩
      · go_wp2
        go_ret
        exact ⟨rfl, HV5.out.set _ _, (HCH4.out.then_below HB5.out).trans (chg_set2 _ _ _ _) (fun k hk => .inl hk)⟩
    · skip
      refine start_ (n := 20) (S := fun w' => w'.cell? ⟨g, 0, none⟩ = some (.int .i64 n) ∧ w'.cell? ⟨g, 1, none⟩ = some (.int .i64 f1) ∧ w'.cell? ⟨w3.heap.size, 0, none⟩ = some (.int .i64 n) ∧ w'.cell? ⟨w3.heap.size, 1, none⟩ = some (.int .i64 p) ∧ w'.cell? ⟨w.heap.size, 0, none⟩ = some (.int .i64 a) ∧ w'.cell? ⟨w.heap.size, 1, none⟩ = some (.int .i64 b) ∧ w'.cell? ⟨w.heap.size + 1, 0, none⟩ = some (.int .i64 c) ∧ w'.cell? ⟨w.heap.size + 1, 1, none⟩ = some (.int .i64 d)) (ds := [17]) #[false, false, false, false, false, false, false, false, false, false, false, false, false, false, false, false, false, false, false, false] (by kernel_rfl) rfl rfl ⟨t0, t1, t2, t3, t4, t5, t6, t7⟩ (fun hHeld => ?_)
      refine pure_ (i := 0) (N := some 39) (v := ?_) (a' := ?_) #[true, false, false, false, false, false, false, false, false, false, false, false, false, false, false, false, false, false, false, false] rfl rfl (by kernel_rfl) (fun _ _ _ h => h) (Or.inl ⟨by rfl, ?_⟩) ?_ ?_
      rotate_left
      · intro w'
        go_simp
        with_reducible rfl
      rotate_left
      · simp only [Act.put, List.setIfInBounds_toArray, List.set_cons_zero, List.set_cons_succ, i64_w, i32_w]
        rfl
      refine pure_ (i := 1) (N := some 40) (v := ?_) (a' := ?_) #[true, true, false, false, false, false, false, false, false, false, false, false, false, false, false, false, false, false, false, false] rfl rfl (by kernel_rfl) (fun _ _ _ h => h) (Or.inl ⟨by rfl, ?_⟩) ?_ ?_
      rotate_left
      · intro w'
        go_simp
        with_reducible rfl
      rotate_left
      · simp only [Act.put, List.setIfInBounds_toArray, List.set_cons_zero, List.set_cons_succ, i64_w, i32_w]
        rfl
      refine pure_ (i := 2) (N := some 41) (v := ?_) (a' := ?_) #[true, true, true, false, false, false, false, false, false, false, false, false, false, false, false, false, false, false, false, false] rfl rfl (by kernel_rfl) (fun _ _ _ h => h) (Or.inl ⟨by rfl, ?_⟩) ?_ ?_
      rotate_left
      · intro w'
        go_simp
        with_reducible rfl
      rotate_left
      · simp only [Act.put, List.setIfInBounds_toArray, List.set_cons_zero, List.set_cons_succ, i64_w, i32_w]
        rfl
      refine take_ (i := 3) (N := some 42) (v := ?_) (a' := ?_) #[true, true, true, true, false, false, false, false, false, false, false, false, false, false, false, false, false, false, false, false] rfl rfl (by kernel_rfl) (fun _ _ _ h => h) (Or.inl ⟨by rfl, ?_⟩) hHeld ?_ ?_
      rotate_left
      · rintro w' ⟨s0, s1, s2, s3, s4, s5, s6, s7⟩
        go_simp
        with_reducible rfl
      rotate_left
      · simp only [Act.put, List.setIfInBounds_toArray, List.set_cons_zero, List.set_cons_succ, i64_w, i32_w]
        rfl
      refine take_ (i := 4) (N := some 43) (v := ?_) (a' := ?_) #[true, true, true, true, true, false, false, false, false, false, false, false, false, false, false, false, false, false, false, false] rfl rfl (by kernel_rfl) (fun _ _ _ h => h) (Or.inl ⟨by rfl, ?_⟩) hHeld ?_ ?_
      rotate_left
      · rintro w' ⟨s0, s1, s2, s3, s4, s5, s6, s7⟩
        go_simp
        with_reducible rfl
      rotate_left
      · simp only [Act.put, List.setIfInBounds_toArray, List.set_cons_zero, List.set_cons_succ, i64_w, i32_w]
        rfl
      refine pure_ (i := 5) (N := some 44) (v := ?_) (a' := ?_) #[true, true, true, true, true, true, false, false, false, false, false, false, false, false, false, false, false, false, false, false] rfl rfl (by kernel_rfl) (fun _ _ _ h => h) (Or.inl ⟨by rfl, ?_⟩) ?_ ?_
      rotate_left
      · intro w'
        go_simp
        with_reducible rfl
      rotate_left
      · simp only [Act.put, List.setIfInBounds_toArray, List.set_cons_zero, List.set_cons_succ, i64_w, i32_w]
        rfl
      refine pure_ (i := 6) (N := some 45) (v := ?_) (a' := ?_) #[true, true, true, true, true, true, true, false, false, false, false, false, false, false, false, false, false, false, false, false] rfl rfl (by kernel_rfl) (fun _ _ _ h => h) (Or.inl ⟨by rfl, ?_⟩) ?_ ?_
      rotate_left
      · intro w'
        go_simp
        with_reducible rfl
      rotate_left
      · simp only [Act.put, List.setIfInBounds_toArray, List.set_cons_zero, List.set_cons_succ, i64_w, i32_w]
        rfl
      refine pure_ (i := 7) (N := some 46) (v := ?_) (a' := ?_) #[true, true, true, true, true, true, true, true, false, false, false, false, false, false, false, false, false, false, false, false] rfl rfl (by kernel_rfl) (fun _ _ _ h => h) (Or.inl ⟨by rfl, ?_⟩) ?_ ?_
      rotate_left
      · intro w'
        go_simp
        with_reducible rfl
      rotate_left
      · simp only [Act.put, List.setIfInBounds_toArray, List.set_cons_zero, List.set_cons_succ, i64_w, i32_w]
        rfl
      refine pure_ (i := 8) (N := some 47) (v := ?_) (a' := ?_) #[true, true, true, true, true, true, true, true, true, false, false, false, false, false, false, false, false, false, false, false] rfl rfl (by kernel_rfl) (fun _ _ _ h => h) (Or.inl ⟨by rfl, ?_⟩) ?_ ?_
      rotate_left
      · intro w'
        go_simp
        with_reducible rfl
      rotate_left
      · simp only [Act.put, List.setIfInBounds_toArray, List.set_cons_zero, List.set_cons_succ, i64_w, i32_w]
        rfl
      refine pure_ (i := 9) (N := some 48) (v := ?_) (a' := ?_) #[true, true, true, true, true, true, true, true, true, true, false, false, false, false, false, false, false, false, false, false] rfl rfl (by kernel_rfl) (fun _ _ _ h => h) (Or.inl ⟨by rfl, ?_⟩) ?_ ?_
      rotate_left
      · intro w'
        go_simp
        with_reducible rfl
      rotate_left
      · simp only [Act.put, List.setIfInBounds_toArray, List.set_cons_zero, List.set_cons_succ, i64_w, i32_w]
        rfl
      refine pure_ (i := 10) (N := some 49) (v := ?_) (a' := ?_) #[true, true, true, true, true, true, true, true, true, true, true, false, false, false, false, false, false, false, false, false] rfl rfl (by kernel_rfl) (fun _ _ _ h => h) (Or.inl ⟨by rfl, ?_⟩) ?_ ?_
      rotate_left
      · intro w'
        go_simp
        with_reducible rfl
      rotate_left
      · simp only [Act.put, List.setIfInBounds_toArray, List.set_cons_zero, List.set_cons_succ, i64_w, i32_w]
        rfl
      refine take_ (i := 11) (N := some 50) (v := ?_) (a' := ?_) #[true, true, true, true, true, true, true, true, true, true, true, true, false, false, false, false, false, false, false, false] rfl rfl (by kernel_rfl) (fun _ _ _ h => h) (Or.inl ⟨by rfl, ?_⟩) hHeld ?_ ?_
      rotate_left
      · rintro w' ⟨s0, s1, s2, s3, s4, s5, s6, s7⟩
        go_simp
        with_reducible rfl
      rotate_left
      · simp only [Act.put, List.setIfInBounds_toArray, List.set_cons_zero, List.set_cons_succ, i64_w, i32_w]
        rfl
      refine pure_ (i := 12) (N := some 51) (v := ?_) (a' := ?_) #[true, true, true, true, true, true, true, true, true, true, true, true, true, false, false, false, false, false, false, false] rfl rfl (by kernel_rfl) (fun _ _ _ h => h) (Or.inl ⟨by rfl, ?_⟩) ?_ ?_
      rotate_left
      · intro w'
        go_simp
        with_reducible rfl
      rotate_left
      · simp only [Act.put, List.setIfInBounds_toArray, List.set_cons_zero, List.set_cons_succ, i64_w, i32_w]
        rfl
      refine pure_ (i := 13) (N := some 52) (v := ?_) (a' := ?_) #[true, true, true, true, true, true, true, true, true, true, true, true, true, true, false, false, false, false, false, false] rfl rfl (by kernel_rfl) (fun _ _ _ h => h) (Or.inl ⟨by rfl, ?_⟩) ?_ ?_
      rotate_left
      · intro w'
        go_simp
        with_reducible rfl
      rotate_left
      · simp only [Act.put, List.setIfInBounds_toArray, List.set_cons_zero, List.set_cons_succ, i64_w, i32_w]
        rfl
      refine pure_ (i := 14) (N := some 53) (v := ?_) (a' := ?_) #[true, true, true, true, true, true, true, true, true, true, true, true, true, true, true, false, false, false, false, false] rfl rfl (by kernel_rfl) (fun _ _ _ h => h) (Or.inl ⟨by rfl, ?_⟩) ?_ ?_
      rotate_left
      · intro w'
        go_simp
        with_reducible rfl
      rotate_left
      · simp only [Act.put, List.setIfInBounds_toArray, List.set_cons_zero, List.set_cons_succ, i64_w, i32_w]
        rfl
      refine take_ (i := 15) (N := some 54) (v := ?_) (a' := ?_) #[true, true, true, true, true, true, true, true, true, true, true, true, true, true, true, true, false, false, false, false] rfl rfl (by kernel_rfl) (fun _ _ _ h => h) (Or.inl ⟨by rfl, ?_⟩) hHeld ?_ ?_
      rotate_left
      · rintro w' ⟨s0, s1, s2, s3, s4, s5, s6, s7⟩
        go_simp
        with_reducible rfl
      rotate_left
      · simp only [Act.put, List.setIfInBounds_toArray, List.set_cons_zero, List.set_cons_succ, i64_w, i32_w]
        rfl
      refine take_ (i := 16) (N := some 55) (v := ?_) (a' := ?_) #[true, true, true, true, true, true, true, true, true, true, true, true, true, true, true, true, true, false, false, false] rfl rfl (by kernel_rfl) (fun _ _ _ h => h) (Or.inl ⟨by rfl, ?_⟩) hHeld ?_ ?_
      rotate_left
      · rintro w' ⟨s0, s1, s2, s3, s4, s5, s6, s7⟩
        go_simp
        with_reducible rfl
      rotate_left
      · simp only [Act.put, List.setIfInBounds_toArray, List.set_cons_zero, List.set_cons_succ, i64_w, i32_w]
        rfl
      refine last_ (i := 17) (N := some 56) #[true, true, true, true, true, true, true, true, true, true, true, true, true, true, true, true, true, true, false, false] rfl rfl (by kernel_rfl) (by decide) (fun K hK => ?_)
      refine goes_ Try.func26 (by kernel_rfl) rfl #[.agg #[.int .i64 a, .int .i64 b], .agg #[.int .i64 c, .int .i64 d]] (by rfl) rfl rfl (by (try simp only [List.map_toArray, List.map_cons, List.map_nil]); first | done | rfl) ?_
      with_reducible refine (h3 _).mono ?_
      rintro r w5 ⟨rfl, hB5⟩
      refine ⟨_, rfl, ?_⟩
      obtain ⟨z0, z1, z2, z3⟩ := (HV4.out.below (below_from (below_drew (Below.refl _ _)) (Nat.le_refl _) hB5)).cells
      obtain ⟨o0, o1, _, _⟩ := (HO4.out.below (below_from (below_drew (Below.refl _ _)) (Nat.le_refl _) hB5)).cells
      have HB5 := Aside0.mk (below_from (below_drew (Below.refl _ _)) (Nat.le_refl _) hB5)
      have HV5 := Aside0.mk (HV4.out.below HB5.out)
      clear hB5
      refine hK.out _ _ ?_
      clear hK K
      refine norm_ (a' := ?_) ?_ ?_
      rotate_left
      · show Act.put _ (some 56) _ = _
        simp only [Act.put, List.setIfInBounds_toArray, List.set_cons_zero, List.set_cons_succ, i64_w, i32_w]
        rfl
      refine pure_ (i := 18) (N := some 57) (v := ?_) (a' := ?_) #[true, true, true, true, true, true, true, true, true, true, true, true, true, true, true, true, true, true, true, false] rfl rfl (by kernel_rfl) (fun _ _ _ h => h) (Or.inl ⟨by rfl, ?_⟩) ?_ ?_
      rotate_left
      · intro w'
        go_simp
        with_reducible rfl
      rotate_left
      · simp only [Act.put, List.setIfInBounds_toArray, List.set_cons_zero, List.set_cons_succ, i64_w, i32_w]
        rfl
      refine pure_ (i := 19) (N := some 58) (v := ?_) (a' := ?_) #[true, true, true, true, true, true, true, true, true, true, true, true, true, true, true, true, true, true, true, true] rfl rfl (by kernel_rfl) (fun _ _ _ h => h) (Or.inl ⟨by rfl, ?_⟩) ?_ ?_
      rotate_left
      · intro w'
        go_simp
        with_reducible rfl
      rotate_left
      · simp only [Act.put, List.setIfInBounds_toArray, List.set_cons_zero, List.set_cons_succ, i64_w, i32_w]
        rfl
      refine done_ (by kernel_rfl) ?_
      cases nw
      · go_wp2
        go_ret
        exact ⟨rfl, HV5.out, (HCH4.out.then_below HB5.out)⟩
      · go_wp2
        go_ret
        exact ⟨rfl, HV5.out.set _ _, (HCH4.out.then_below HB5.out).trans (chg_set2 _ _ _ _) (fun k hk => .inl hk)⟩
    · skip
      refine start_ (n := 20) (S := fun w' => w'.cell? ⟨g, 0, none⟩ = some (.int .i64 n) ∧ w'.cell? ⟨g, 1, none⟩ = some (.int .i64 f1) ∧ w'.cell? ⟨w3.heap.size, 0, none⟩ = some (.int .i64 n) ∧ w'.cell? ⟨w3.heap.size, 1, none⟩ = some (.int .i64 p) ∧ w'.cell? ⟨w.heap.size, 0, none⟩ = some (.int .i64 a) ∧ w'.cell? ⟨w.heap.size, 1, none⟩ = some (.int .i64 b) ∧ w'.cell? ⟨w.heap.size + 1, 0, none⟩ = some (.int .i64 c) ∧ w'.cell? ⟨w.heap.size + 1, 1, none⟩ = some (.int .i64 d)) (ds := []) #[false, false, false, false, false, false, false, false, false, false, false, false, false, false, false, false, false, false, false, false] (by kernel_rfl) rfl rfl ⟨t0, t1, t2, t3, t4, t5, t6, t7⟩ (fun hHeld => ?_)
      refine pure_ (i := 0) (N := some 39) (v := ?_) (a' := ?_) #[true, false, false, false, false, false, false, false, false, false, false, false, false, false, false, false, false, false, false, false] rfl rfl (by kernel_rfl) (fun _ _ _ h => h) (Or.inl ⟨by rfl, ?_⟩) ?_ ?_
      rotate_left
      · intro w'
        go_simp
        with_reducible rfl
      rotate_left
      · simp only [Act.put, List.setIfInBounds_toArray, List.set_cons_zero, List.set_cons_succ, i64_w, i32_w]
        rfl
      refine pure_ (i := 1) (N := some 40) (v := ?_) (a' := ?_) #[true, true, false, false, false, false, false, false, false, false, false, false, false, false, false, false, false, false, false, false] rfl rfl (by kernel_rfl) (fun _ _ _ h => h) (Or.inl ⟨by rfl, ?_⟩) ?_ ?_
      rotate_left
      · intro w'
        go_simp
        with_reducible rfl
      rotate_left
      · simp only [Act.put, List.setIfInBounds_toArray, List.set_cons_zero, List.set_cons_succ, i64_w, i32_w]
        rfl
      refine pure_ (i := 2) (N := some 41) (v := ?_) (a' := ?_) #[true, true, true, false, false, false, false, false, false, false, false, false, false, false, false, false, false, false, false, false] rfl rfl (by kernel_rfl) (fun _ _ _ h => h) (Or.inl ⟨by rfl, ?_⟩) ?_ ?_
      rotate_left
      · intro w'
        go_simp
        with_reducible rfl
      rotate_left
      · simp only [Act.put, List.setIfInBounds_toArray, List.set_cons_zero, List.set_cons_succ, i64_w, i32_w]
        rfl
      refine take_ (i := 3) (N := some 42) (v := ?_) (a' := ?_) #[true, true, true, true, false, false, false, false, false, false, false, false, false, false, false, false, false, false, false, false] rfl rfl (by kernel_rfl) (fun _ _ _ h => h) (Or.inl ⟨by rfl, ?_⟩) hHeld ?_ ?_
      rotate_left
      · rintro w' ⟨s0, s1, s2, s3, s4, s5, s6, s7⟩
        go_simp
        with_reducible rfl
      rotate_left
      · simp only [Act.put, List.setIfInBounds_toArray, List.set_cons_zero, List.set_cons_succ, i64_w, i32_w]
        rfl
      refine take_ (i := 4) (N := some 43) (v := ?_) (a' := ?_) #[true, true, true, true, true, false, false, false, false, false, false, false, false, false, false, false, false, false, false, false] rfl rfl (by kernel_rfl) (fun _ _ _ h => h) (Or.inl ⟨by rfl, ?_⟩) hHeld ?_ ?_
      rotate_left
      · rintro w' ⟨s0, s1, s2, s3, s4, s5, s6, s7⟩
        go_simp
        with_reducible rfl
      rotate_left
      · simp only [Act.put, List.setIfInBounds_toArray, List.set_cons_zero, List.set_cons_succ, i64_w, i32_w]
        rfl
      refine pure_ (i := 5) (N := some 44) (v := ?_) (a' := ?_) #[true, true, true, true, true, true, false, false, false, false, false, false, false, false, false, false, false, false, false, false] rfl rfl (by kernel_rfl) (fun _ _ _ h => h) (Or.inl ⟨by rfl, ?_⟩) ?_ ?_
      rotate_left
      · intro w'
        go_simp
        with_reducible rfl
      rotate_left
      · simp only [Act.put, List.setIfInBounds_toArray, List.set_cons_zero, List.set_cons_succ, i64_w, i32_w]
        rfl
      refine pure_ (i := 6) (N := some 45) (v := ?_) (a' := ?_) #[true, true, true, true, true, true, true, false, false, false, false, false, false, false, false, false, false, false, false, false] rfl rfl (by kernel_rfl) (fun _ _ _ h => h) (Or.inl ⟨by rfl, ?_⟩) ?_ ?_
      rotate_left
      · intro w'
        go_simp
        with_reducible rfl
      rotate_left
      · simp only [Act.put, List.setIfInBounds_toArray, List.set_cons_zero, List.set_cons_succ, i64_w, i32_w]
        rfl
      refine pure_ (i := 7) (N := some 46) (v := ?_) (a' := ?_) #[true, true, true, true, true, true, true, true, false, false, false, false, false, false, false, false, false, false, false, false] rfl rfl (by kernel_rfl) (fun _ _ _ h => h) (Or.inl ⟨by rfl, ?_⟩) ?_ ?_
      rotate_left
      · intro w'
        go_simp
        with_reducible rfl
      rotate_left
      · simp only [Act.put, List.setIfInBounds_toArray, List.set_cons_zero, List.set_cons_succ, i64_w, i32_w]
        rfl
      refine pure_ (i := 8) (N := some 47) (v := ?_) (a' := ?_) #[true, true, true, true, true, true, true, true, true, false, false, false, false, false, false, false, false, false, false, false] rfl rfl (by kernel_rfl) (fun _ _ _ h => h) (Or.inl ⟨by rfl, ?_⟩) ?_ ?_
      rotate_left
      · intro w'
        go_simp
        with_reducible rfl
      rotate_left
      · simp only [Act.put, List.setIfInBounds_toArray, List.set_cons_zero, List.set_cons_succ, i64_w, i32_w]
        rfl
      refine pure_ (i := 9) (N := some 48) (v := ?_) (a' := ?_) #[true, true, true, true, true, true, true, true, true, true, false, false, false, false, false, false, false, false, false, false] rfl rfl (by kernel_rfl) (fun _ _ _ h => h) (Or.inl ⟨by rfl, ?_⟩) ?_ ?_
      rotate_left
      · intro w'
        go_simp
        with_reducible rfl
      rotate_left
      · simp only [Act.put, List.setIfInBounds_toArray, List.set_cons_zero, List.set_cons_succ, i64_w, i32_w]
        rfl
      refine pure_ (i := 10) (N := some 49) (v := ?_) (a' := ?_) #[true, true, true, true, true, true, true, true, true, true, true, false, false, false, false, false, false, false, false, false] rfl rfl (by kernel_rfl) (fun _ _ _ h => h) (Or.inl ⟨by rfl, ?_⟩) ?_ ?_
      rotate_left
      · intro w'
        go_simp
        with_reducible rfl
      rotate_left
      · simp only [Act.put, List.setIfInBounds_toArray, List.set_cons_zero, List.set_cons_succ, i64_w, i32_w]
        rfl
      refine take_ (i := 11) (N := some 50) (v := ?_) (a' := ?_) #[true, true, true, true, true, true, true, true, true, true, true, true, false, false, false, false, false, false, false, false] rfl rfl (by kernel_rfl) (fun _ _ _ h => h) (Or.inl ⟨by rfl, ?_⟩) hHeld ?_ ?_
      rotate_left
      · rintro w' ⟨s0, s1, s2, s3, s4, s5, s6, s7⟩
        go_simp
        with_reducible rfl
      rotate_left
      · simp only [Act.put, List.setIfInBounds_toArray, List.set_cons_zero, List.set_cons_succ, i64_w, i32_w]
        rfl
      refine pure_ (i := 12) (N := some 51) (v := ?_) (a' := ?_) #[true, true, true, true, true, true, true, true, true, true, true, true, true, false, false, false, false, false, false, false] rfl rfl (by kernel_rfl) (fun _ _ _ h => h) (Or.inl ⟨by rfl, ?_⟩) ?_ ?_
      rotate_left
      · intro w'
        go_simp
        with_reducible rfl
      rotate_left
      · simp only [Act.put, List.setIfInBounds_toArray, List.set_cons_zero, List.set_cons_succ, i64_w, i32_w]
        rfl
      refine pure_ (i := 13) (N := some 52) (v := ?_) (a' := ?_) #[true, true, true, true, true, true, true, true, true, true, true, true, true, true, false, false, false, false, false, false] rfl rfl (by kernel_rfl) (fun _ _ _ h => h) (Or.inl ⟨by rfl, ?_⟩) ?_ ?_
      rotate_left
      · intro w'
        go_simp
        with_reducible rfl
      rotate_left
      · simp only [Act.put, List.setIfInBounds_toArray, List.set_cons_zero, List.set_cons_succ, i64_w, i32_w]
        rfl
      refine pure_ (i := 14) (N := some 53) (v := ?_) (a' := ?_) #[true, true, true, true, true, true, true, true, true, true, true, true, true, true, true, false, false, false, false, false] rfl rfl (by kernel_rfl) (fun _ _ _ h => h) (Or.inl ⟨by rfl, ?_⟩) ?_ ?_
      rotate_left
      · intro w'
        go_simp
        with_reducible rfl
      rotate_left
      · simp only [Act.put, List.setIfInBounds_toArray, List.set_cons_zero, List.set_cons_succ, i64_w, i32_w]
        rfl
      refine pure_ (i := 15) (N := some 54) (v := undef) (a' := ?_) #[true, true, true, true, true, true, true, true, true, true, true, true, true, true, true, true, false, false, false, false] rfl rfl (by kernel_rfl) (fun _ _ _ h => h) (Or.inr ⟨by rfl, rfl⟩) ?_ ?_
      rotate_left
      · simp only [Act.put, List.setIfInBounds_toArray, List.set_cons_zero, List.set_cons_succ, i64_w, i32_w]
        rfl
      refine pure_ (i := 16) (N := some 55) (v := undef) (a' := ?_) #[true, true, true, true, true, true, true, true, true, true, true, true, true, true, true, true, true, false, false, false] rfl rfl (by kernel_rfl) (fun _ _ _ h => h) (Or.inr ⟨by rfl, rfl⟩) ?_ ?_
      rotate_left
      · simp only [Act.put, List.setIfInBounds_toArray, List.set_cons_zero, List.set_cons_succ, i64_w, i32_w]
        rfl
      refine pure_ (i := 17) (N := some 56) (v := undef) (a' := ?_) #[true, true, true, true, true, true, true, true, true, true, true, true, true, true, true, true, true, true, false, false] rfl rfl (by kernel_rfl) (fun _ _ _ h => h) (Or.inr ⟨by rfl, rfl⟩) ?_ ?_
      rotate_left
      · simp only [Act.put, List.setIfInBounds_toArray, List.set_cons_zero, List.set_cons_succ, i64_w, i32_w]
        rfl
      refine pure_ (i := 18) (N := some 57) (v := undef) (a' := ?_) #[true, true, true, true, true, true, true, true, true, true, true, true, true, true, true, true, true, true, true, false] rfl rfl (by kernel_rfl) (fun _ _ _ h => h) (Or.inr ⟨by rfl, rfl⟩) ?_ ?_
      rotate_left
      · simp only [Act.put, List.setIfInBounds_toArray, List.set_cons_zero, List.set_cons_succ, i64_w, i32_w]
        rfl
      refine pure_ (i := 19) (N := some 58) (v := ?_) (a' := ?_) #[true, true, true, true, true, true, true, true, true, true, true, true, true, true, true, true, true, true, true, true] rfl rfl (by kernel_rfl) (fun _ _ _ h => h) (Or.inl ⟨by rfl, ?_⟩) ?_ ?_
      rotate_left
      · intro w'
        go_simp
        with_reducible rfl
      rotate_left
      · simp only [Act.put, List.setIfInBounds_toArray, List.set_cons_zero, List.set_cons_succ, i64_w, i32_w]
        rfl
      refine done_ (by kernel_rfl) ?_
      go_wp2
      go_ret
      exact ⟨rfl, HV4.out, HCH4.out.drew⟩
end Go.Proofs.Ytjbddcaamefgaaa.Vote
