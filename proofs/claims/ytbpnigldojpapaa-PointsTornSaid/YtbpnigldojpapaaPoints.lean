/- The contracts of package points: which checkpoints are right, their bytes. -/
import Derived.Test.YtbpnigldojpapaaCrcRef
import Derived.Test.YtbpnigldojpapaaRefRd
import Derived.Lib.SlBytesConst
namespace Go.Proofs.Ytbpnigldojpapaa.Points
open Go.RowKit Go.Proofs.YtbpnigldojpapaaW.PrintWords Go.Proofs.YtbpnigldojpapaaW.PrintLast Go.Proofs.YtbpnigldojpapaaW.PrintMore Go.Proofs.Ytbpnigldojpapaa.Wire Go.Proofs.Ytbpnigldojpapaa.Crc
open Go.Proofs.Ytbpnigldojpapaa.Back (AllB numB numB_small)
set_option linter.unusedVariables false
set_option linter.unusedSimpArgs false
/-- a right checkpoint -/
def okPt (n l r : Int) : Bool := decide (n ≥ 1) && decide (n ≤ 1099511627776) && decide (l ≥ 0) && decide (l ≤ 1099511627776) && decide (r ≥ 1) && decide (r ≤ l + 1)
theorem okPt_iff {n l r : Int} : okPt n l r = true ↔ 1 ≤ n ∧ n ≤ 1099511627776 ∧ 0 ≤ l ∧ l ≤ 1099511627776 ∧ 1 ≤ r ∧ r ≤ l + 1 := by
  simp [okPt, and_assoc]
theorem and6 (d1 d2 d3 d4 d5 d6 b : Bool) (h : (d1 && d2 && d3 && d4 && d5 && d6) = b) : (d1 = false ∧ b = false) ∨ (d1 = true ∧ d2 = false ∧ b = false) ∨ (d1 = true ∧ d2 = true ∧ d3 = false ∧ b = false) ∨ (d1 = true ∧ d2 = true ∧ d3 = true ∧ d4 = false ∧ b = false) ∨ (d1 = true ∧ d2 = true ∧ d3 = true ∧ d4 = true ∧ d5 = false ∧ b = false) ∨ (d1 = true ∧ d2 = true ∧ d3 = true ∧ d4 = true ∧ d5 = true ∧ d6 = b) := by
  cases d1 <;> cases d2 <;> cases d3 <;> cases d4 <;> cases d5 <;> cases d6 <;> cases b <;> simp_all
set_option maxHeartbeats 2000000 in
theorem right_ok (n l r : Int) (w : World) : Calls Try.prog 20 #[.agg #[.int .i64 n, .int .i64 l, .int .i64 r]] w fun e w' => e = .returned (.bool (okPt n l r)) ∧ Below w.heap.size w w' := by
  obtain ⟨b, hb⟩ : ∃ b, okPt n l r = b := ⟨_, rfl⟩
  have hd := and6 _ _ _ _ _ _ _ hb
  rw [hb]
  clear hb
  rcases hd with ⟨h1, rfl⟩ | ⟨h1, h2, rfl⟩ | ⟨h1, h2, h3, rfl⟩ | ⟨h1, h2, h3, h4, rfl⟩ | ⟨h1, h2, h3, h4, h5, rfl⟩ | ⟨h1, h2, h3, h4, h5, h6⟩
  iterate 5
    · go_enter Try.func20, Try.ntmps20
      go_wp2
      go_ret
      exact ⟨rfl, below_alloc (Below.refl _ _) _⟩
  · have hw : IntKind.i64.wrap (l + 1) = l + 1 := by
      have := of_decide_eq_true h3
      have := of_decide_eq_true h4
      rw [IntKind.wrap_i64]
      omega
    go_enter Try.func20, Try.ntmps20
    go_wp2
    go_ret
    exact ⟨rfl, below_alloc (Below.refl _ _) _⟩
set_option maxHeartbeats 2000000 in
theorem refright_ok (n l r : Int) (w : World) (hr : r < 9223372036854775808) : Calls Try.prog 25 #[.agg #[.int .i64 n, .int .i64 l, .int .i64 r]] w fun e w' => e = .returned (.bool (okPt n l r)) ∧ Below w.heap.size w w' := by
  obtain ⟨b, hb⟩ : ∃ b, okPt n l r = b := ⟨_, rfl⟩
  have hd := and6 _ _ _ _ _ _ _ hb
  rw [hb]
  clear hb
  rcases hd with ⟨h1, rfl⟩ | ⟨h1, h2, rfl⟩ | ⟨h1, h2, h3, rfl⟩ | ⟨h1, h2, h3, h4, rfl⟩ | ⟨h1, h2, h3, h4, h5, rfl⟩ | ⟨h1, h2, h3, h4, h5, h6⟩
  iterate 5
    · go_enter Try.func25, Try.ntmps25
      go_wp2
      go_ret
      exact ⟨rfl, below_alloc (Below.refl _ _) _⟩
  · have hw : IntKind.i64.wrap (r - 1) = r - 1 := by
      have := of_decide_eq_true h5
      rw [IntKind.wrap_i64]
      omega
    have h7 : decide (r - 1 ≤ l) = b := by
      rw [← h6]
      by_cases h : r ≤ l + 1
      · rw [decide_eq_true h, decide_eq_true (by omega)]
      · rw [decide_eq_false h, decide_eq_false (by omega)]
    clear hr h6
    go_enter Try.func25, Try.ntmps25
    go_wp2
    go_ret
    exact ⟨rfl, below_alloc (Below.refl _ _) _⟩
/-- A block of three numbers. -/
def PtAt (T : TypeId) (w : World) (g : Nat) (n l r : Int) : Prop := w.heap[g]? = some (.cells #[.int .i64 n, .int .i64 l, .int .i64 r] T (0, 0))
theorem PtAt.cells {T : TypeId} {w : World} {g : Nat} {n l r : Int} (h : PtAt T w g n l r) : w.cell? ⟨g, 0, none⟩ = some (.int .i64 n) ∧ w.cell? ⟨g, 1, none⟩ = some (.int .i64 l) ∧ w.cell? ⟨g, 2, none⟩ = some (.int .i64 r) ∧ w.frozen? ⟨g, 0, none⟩ = false ∧ w.frozen? ⟨g, 1, none⟩ = false ∧ w.frozen? ⟨g, 2, none⟩ = false := by
  unfold PtAt at h
  simp [World.cell?, World.frozen?, h]
theorem PtAt.below {T : TypeId} {w w1 : World} {g : Nat} {n l r : Int} (h : PtAt T w g n l r) (hc : Below w.heap.size w w1) : PtAt T w1 g n l r := (Chg.of_below hc (fun _ => False)).blk h (fun h => h)
/-- what is sealed -/
def encB (n l r : Int) : List Int := le n 8 ++ le l 8 ++ le r 8
/-- a checkpoint's bytes, or why not -/
def encF (n l r : Int) : List Int × Int := if okPt n l r = true then (encB n l r ++ le (sumOf (encB n l r) : Int) 4, 0) else ([], 1)
/-- what the rounds have written -/
def encN (n l r : Int) : Nat → List Int
  | 0 => []
  | 1 => le n 8
  | 2 => le n 8 ++ le l 8
  | _ => encB n l r
theorem le_AllB' : ∀ (k : Nat) (n : Int), AllB (le n k) := by
  intro k
  induction k with
  | zero => intro n z hz; simp [le] at hz
  | succ k ih =>
    intro n z hz
    rw [le, List.mem_cons] at hz
    rcases hz with rfl | hz
    · omega
    · exact ih _ z hz
theorem AllB_app {xs ys : List Int} (h : AllB xs) (k : AllB ys) : AllB (xs ++ ys) := fun x hx => (List.mem_append.1 hx).elim (h x) (k x)
theorem encB_AllB (n l r : Int) : AllB (encB n l r) := AllB_app (AllB_app (le_AllB' _ _) (le_AllB' _ _)) (le_AllB' _ _)
theorem encB_length (n l r : Int) : (encB n l r).length = 24 := by simp [encB, le_length]
theorem encN_length (n l r : Int) : ∀ i, (encN n l r i).length ≤ 24
  | 0 => by simp [encN]
  | 1 => by simp [encN, le_length]
  | 2 => by simp [encN, le_length]
  | k + 3 => by rw [encN, encB_length]; all_goals simp
theorem num8_ok {n : Int} (h : 0 ≤ n) (k : n < 9223372036854775808) : numOk n 8 = true := by
  unfold numOk
  rw [show numTop 8 = 9223372036854775808 from rfl, decide_eq_true h, decide_eq_true k]
  rfl
theorem ix0 (W : World) (a b c : Int) : (Instr.index 63 (.agg #[.int .i64 a, .int .i64 b, .int .i64 c]) (.int .i64 0)).run Try.prog W = .ok (.int .i64 a) W := by kernel_rfl
theorem ix1 (W : World) (a b c : Int) : (Instr.index 63 (.agg #[.int .i64 a, .int .i64 b, .int .i64 c]) (.int .i64 1)).run Try.prog W = .ok (.int .i64 b) W := by kernel_rfl
theorem ix2 (W : World) (a b c : Int) : (Instr.index 63 (.agg #[.int .i64 a, .int .i64 b, .int .i64 c]) (.int .i64 2)).run Try.prog W = .ok (.int .i64 c) W := by kernel_rfl
theorem below_le {w w1 : World} {b b' : Nat} (h : Below b w w1) (hb : b' ≤ b) : Below b' w w1 := ⟨h.os, h.tape, h.output, h.size, fun k hk => h.block k (by omega)⟩
def EncIn (w : World) (b g : Nat) (n l r : Int) (v : Value) (wr : World) : Prop :=
  ∃ i : Nat, i ≤ 3 ∧ v = .int .i64 i ∧ Aside0 (WrFrom b wr g (encN n l r i)) ∧ Aside0 (Below w.heap.size w wr) ∧ Aside0 (b ≤ wr.heap.size)
set_option maxRecDepth 100000 in
set_option maxHeartbeats 4000000 in
theorem encode_ok (n l r : Int) (w : World) : Calls Try.prog 10 #[.agg #[.int .i64 n, .int .i64 l, .int .i64 r]] w fun e w' => ∃ u, e = .returned (.tuple #[u, .int .i64 (encF n l r).2]) ∧ Kd.R (Kd.int .u8) 5 w' w.heap.size (fun _ => True) u (encF n l r).1 ∧ Below w.heap.size w w' := by
  have hrt := right_ok n l r
  have hx0 : PtAt 34 (w.alloc (.cells #[.int .i64 n, .int .i64 l, .int .i64 r] 34)) w.heap.size n l r := blk_new _ _
  have HX0 := Aside0.mk hx0
  have HB0 := Aside0.mk (below_alloc (Below.refl w.heap.size w) (.cells #[.int .i64 n, .int .i64 l, .int .i64 r] 34))
  clear hx0
  unfold encF
  rcases hok : okPt n l r
  · rw [if_neg (by simp)]
    rw [hok] at hrt
    go_enter Try.func10, Try.ntmps10
    go_wp2_with (go_at_call 20; refine (hrt _).mono ?_; rintro e w2 ⟨rfl, hB2⟩; (have HB2 := Aside0.mk (below_from HB0.out (Nat.le_refl _) hB2)); clear hB2)
    go_ret2
    exact ⟨_, rfl, Kd.R_nil _ _ _ _ _, HB2.out⟩
  · rw [if_pos rfl]
    rw [hok] at hrt
    have hk := okPt_iff.1 hok
    have HK := Aside0.mk hk
    clear hok hk
    go_enter Try.func10, Try.ntmps10
    go_wp2_with (first
      | (go_at_call 20; refine (hrt _).mono ?_; rintro e w2 ⟨rfl, hB2⟩; obtain ⟨b0, b1, b2, _, _, _⟩ := (HX0.out.below hB2).cells; (have HX2 := Aside0.mk (HX0.out.below hB2)); (have HB2 := Aside0.mk (below_from HB0.out (Nat.le_refl _) hB2)); (have hnew := new_from w2); clear hB2)
      | (go_at_call 21; refine hnew.mono ?_; rintro e w3 ⟨rfl, hw3, hB3⟩; obtain ⟨b0, b1, b2, _, _, _⟩ := (HX2.out.below hB3).cells; (have HW3 := Aside0.mk hw3); (have HB3 := Aside0.mk (below_from HB2.out (Nat.le_refl _) hB3)); (have HS3 := Aside0.mk hB3.size); clear hB3 hw3 hnew))
    clear b0 b1 b2
    go_loopw [18] (fun v18 wr => EncIn w w2.heap.size w2.heap.size n l r v18 wr) (fun v18 _ => 3 - (intOf v18).toNat)
    case atStart => exact ⟨0, by omega, rfl, HW3, HB3, HS3⟩
    case round =>
      obtain ⟨i, hi, rfl, HW, HB, HS⟩ := hrel
      have hk := HK.out
      have hcase : i = 0 ∨ i = 1 ∨ i = 2 ∨ i = 3 := by omega
      rcases hcase with rfl | rfl | rfl | rfl
      · have hi0 := ix0
        have hnum := num_from n 8 HW.out HS.out (by omega) (by have := encN_length n l r 0; omega)
        rw [num8_ok (by omega) (by omega), if_pos rfl, if_pos rfl] at hnum
        clear hk
        go_wp2_with (go_at_call 22; refine hnum.mono ?_; rintro e w5 ⟨rfl, hw5, hB5⟩; (have HW5 := Aside0.mk hw5); (have HB5 := Aside0.mk hB5); clear hw5 hB5 hnum)
        exact ⟨⟨1, by omega, rfl, ⟨(show WrFrom w2.heap.size w5 w2.heap.size (encN n l r 1) from HW5.out)⟩, ⟨HB.out.trans (below_le HB5.out HB2.out.size)⟩, ⟨Nat.le_trans HS.out HB5.out.size⟩⟩, by decide⟩
      · have hi0 := ix1
        have hnum := num_from l 8 HW.out HS.out (by omega) (by have := encN_length n l r 1; omega)
        rw [num8_ok (by omega) (by omega), if_pos rfl, if_pos rfl] at hnum
        clear hk
        go_wp2_with (go_at_call 22; refine hnum.mono ?_; rintro e w5 ⟨rfl, hw5, hB5⟩; (have HW5 := Aside0.mk hw5); (have HB5 := Aside0.mk hB5); clear hw5 hB5 hnum)
        exact ⟨⟨2, by omega, rfl, ⟨(show WrFrom w2.heap.size w5 w2.heap.size (encN n l r 2) from HW5.out)⟩, ⟨HB.out.trans (below_le HB5.out HB2.out.size)⟩, ⟨Nat.le_trans HS.out HB5.out.size⟩⟩, by decide⟩
      · have hi0 := ix2
        have hnum := num_from r 8 HW.out HS.out (by omega) (by have := encN_length n l r 2; omega)
        rw [num8_ok (by omega) (by omega), if_pos rfl, if_pos rfl] at hnum
        clear hk
        go_wp2_with (go_at_call 22; refine hnum.mono ?_; rintro e w5 ⟨rfl, hw5, hB5⟩; (have HW5 := Aside0.mk hw5); (have HB5 := Aside0.mk hB5); clear hw5 hB5 hnum)
        exact ⟨⟨3, by omega, rfl, ⟨(show WrFrom w2.heap.size w5 w2.heap.size (encN n l r 3) from HW5.out)⟩, ⟨HB.out.trans (below_le HB5.out HB2.out.size)⟩, ⟨Nat.le_trans HS.out HB5.out.size⟩⟩, by decide⟩
      · have hby := bytes_from HW.out (by have := encN_length n l r 3; omega)
        rw [show encN n l r 3 = encB n l r from rfl] at hby
        clear hk
        obtain ⟨ys, hys⟩ : ∃ ys, ys = encB n l r := ⟨_, rfl⟩
        have HYB := Aside0.mk (encB_AllB n l r)
        have HYL := Aside0.mk (encB_length n l r)
        rw [← hys] at hby HYB HYL
        have HYS := Aside0.mk hys
        clear hys
        go_wp2_with (first
          | (go_at_call 24; refine hby.mono ?_; rintro e w5 ⟨A5, c5, rfl, hc5, hC5, hB5, _⟩; (have HB5 := Aside0.mk (below_from HB.out (Nat.le_refl _) hB5)); (have hse := seal_ok A5 c5 ys w5 hC5 HYB.out (by have := HYL.out; omega)); clear hc5 hC5 hB5 hby)
          | (go_at_call 23; refine hse.mono ?_; rintro e w6 ⟨u6, rfl, hR6, hB6⟩; (have HR6 := Aside0.mk (Kd.R_lower hR6 HB5.out.size)); (have HB6 := Aside0.mk (below_from HB5.out (Nat.le_refl _) hB6)); clear hR6 hB6 hse))
        go_ret2
        exact ⟨_, rfl, by rw [← HYS.out]; exact HR6.out, HB6.out⟩
set_option maxRecDepth 100000 in
set_option maxHeartbeats 4000000 in
theorem refencode_ok (n l r : Int) (w : World) (hr : r < 9223372036854775808) : Calls Try.prog 11 #[.agg #[.int .i64 n, .int .i64 l, .int .i64 r]] w fun e w' => ∃ u, e = .returned (.tuple #[u, .int .i64 (encF n l r).2]) ∧ Kd.R (Kd.int .u8) 5 w' w.heap.size (fun _ => True) u (encF n l r).1 ∧ Below w.heap.size w w' := by
  have hrt := fun W => refright_ok n l r W hr
  have hx0 : PtAt 40 (w.alloc (.cells #[.int .i64 n, .int .i64 l, .int .i64 r] 40)) w.heap.size n l r := blk_new _ _
  have HX0 := Aside0.mk hx0
  have HB0 := Aside0.mk (below_alloc (Below.refl w.heap.size w) (.cells #[.int .i64 n, .int .i64 l, .int .i64 r] 40))
  clear hx0
  unfold encF
  rcases hok : okPt n l r
  · rw [if_neg (by simp)]
    rw [hok] at hrt
    clear hr
    go_enter Try.func11, Try.ntmps11
    go_wp2_with (go_at_call 25; refine (hrt _).mono ?_; rintro e w2 ⟨rfl, hB2⟩; (have HB2 := Aside0.mk (below_from HB0.out (Nat.le_refl _) hB2)); clear hB2)
    go_ret2
    exact ⟨_, rfl, Kd.R_nil _ _ _ _ _, HB2.out⟩
  · rw [if_pos rfl]
    rw [hok] at hrt
    have hk := okPt_iff.1 hok
    have hn1 := fun W => refnum_ok n 8 W (by omega) (by omega) (by omega)
    have hn2 := fun W => refnum_ok l 8 W (by omega) (by omega) (by omega)
    have hn3 := fun W => refnum_ok r 8 W (by omega) (by omega) (by omega)
    obtain ⟨y1, hy1⟩ : ∃ y, y = le n 8 := ⟨_, rfl⟩
    obtain ⟨y2, hy2⟩ : ∃ y, y = le l 8 := ⟨_, rfl⟩
    obtain ⟨y3, hy3⟩ : ∃ y, y = le r 8 := ⟨_, rfl⟩
    have H1 : Aside0 (y1.length = 8) := ⟨by rw [hy1]; exact le_length _ _⟩
    have H2 : Aside0 (y2.length = 8) := ⟨by rw [hy2]; exact le_length _ _⟩
    have H3 : Aside0 (y3.length = 8) := ⟨by rw [hy3]; exact le_length _ _⟩
    rw [← hy1] at hn1
    rw [← hy2] at hn2
    rw [← hy3] at hn3
    obtain ⟨z2, hz2⟩ : ∃ z, z = y1 ++ y2 := ⟨_, rfl⟩
    obtain ⟨z3, hz3⟩ : ∃ z, z = z2 ++ y3 := ⟨_, rfl⟩
    have hzz : encB n l r = z3 := by rw [hz3, hz2, hy1, hy2, hy3]; rfl
    have HZB : Aside0 (AllB z3) := ⟨by rw [← hzz]; exact encB_AllB n l r⟩
    have HZL2 : Aside0 (z2.length = 16) := ⟨by rw [hz2, List.length_append, H1.out, H2.out]⟩
    have HZL3 : Aside0 (z3.length = 24) := ⟨by rw [hz3, List.length_append, HZL2.out, H3.out]⟩
    rw [hzz]
    have HZ2 := Aside0.mk hz2
    have HZ3 := Aside0.mk hz3
    have HN1 := Aside0.mk hn1
    have HN2 := Aside0.mk hn2
    have HN3 := Aside0.mk hn3
    clear hok hk hr hy1 hy2 hy3 hz2 hz3 hzz hn1 hn2 hn3
    go_enter Try.func11, Try.ntmps11
    go_wp2_with (first
      | (go_at_call 25; refine (hrt _).mono ?_; rintro e w2 ⟨rfl, hB2⟩; obtain ⟨b0, b1, b2, _, _, _⟩ := (HX0.out.below hB2).cells; (have HX2 := Aside0.mk (HX0.out.below hB2)); (have HB2 := Aside0.mk (below_from HB0.out (Nat.le_refl _) hB2)); (have hn1 := HN1.out); clear hB2)
      | (go_at_call 26; refine (hn1 _).mono ?_; rintro e w3 ⟨u3, rfl, hR3, hB3⟩; obtain ⟨A3, c3, rfl, _, hC3⟩ := Kd.R_reads hR3; (have HC3 := Aside0.mk hC3); (have HX3 := Aside0.mk (HX2.out.below hB3)); (have HB3 := Aside0.mk (below_from HB2.out (Nat.le_refl _) hB3)); clear hR3 hC3 hB3 hn1 b0 b1 b2)
      | ((with_reducible refine gate_builtin (b := .append) (xs := #[.tmp 8, .tmp 11]) rfl ?_); at_builtin; refine Kd.R_append_row (Value.int .u8) (0 : Int) (h1 := fun _ => rfl) (w0 := w) w.heap.size rfl (.tmp 8) (.tmp 11) 35 5 (.int .u8 0) 1 rfl Try.underlying35 info8 rfl (by decide) (.slice none 0 0) [] y1 A3 y1.length c3 (fun k => k ≠ w.heap.size) rfl rfl ?aF (Kd.R_nil _ _ _ _ _) HC3.out HB3.out HB3.out.size ?aL ?_; (case aL => (have := H1.out; simp; omega)); (case aF => exact (fun k hk => by have := blk_lt HX3.out; omega)); intro v4 w4 ho hbel hg hat; rw [List.nil_append] at ho; obtain ⟨A4, c4, rfl⟩ := Kd.R_slice ho; (have HO4 := Aside0.mk ho); (have hX4 : PtAt 40 w4 w.heap.size n l r := (hg.block _ (blk_lt HX3.out) (by intro e; cases e)).trans HX3.out); obtain ⟨b0, b1, b2, _, _, _⟩ := hX4.cells; (have HX4 := Aside0.mk hX4); (have HB4 := Aside0.mk hbel); (have hn2 := HN2.out); clear ho hbel hg hat hX4)
      | (go_at_call 26; refine (hn2 _).mono ?_; rintro e w5 ⟨u5, rfl, hR5, hB5⟩; obtain ⟨A5, c5, rfl, _, hC5⟩ := Kd.R_reads hR5; (have HC5 := Aside0.mk hC5); (have HO5 := Aside0.mk (Kd.R_below HO4.out hB5)); (have HX5 := Aside0.mk (HX4.out.below hB5)); (have HB5 := Aside0.mk (below_from HB4.out (Nat.le_refl _) hB5)); clear hR5 hC5 hB5 hn2 b0 b1 b2)
      | ((with_reducible refine gate_builtin (b := .append) (xs := #[.tmp 13, .tmp 16]) rfl ?_); at_builtin; refine Kd.R_append_row (Value.int .u8) (0 : Int) (h1 := fun _ => rfl) (w0 := w) w.heap.size rfl (.tmp 13) (.tmp 16) 35 5 (.int .u8 0) 1 rfl Try.underlying35 info8 rfl (by decide) (.slice A4 y1.length c4) y1 y2 A5 y2.length c5 (fun k => k ≠ w.heap.size) rfl rfl ?aF HO5.out HC5.out HB5.out HB5.out.size ?aL ?_; (case aL => (have := H1.out; have := H2.out; omega)); (case aF => exact (fun k hk => by have := blk_lt HX5.out; omega)); intro v6 w6 ho hbel hg hat; (have hX6 : PtAt 40 w6 w.heap.size n l r := (hg.block _ (blk_lt HX5.out) (fun e => HO5.out.1 _ e.symm rfl)).trans HX5.out); rw [← HZ2.out] at ho; obtain ⟨A6, c6, rfl⟩ := Kd.R_slice ho; (have HO6 := Aside0.mk ho); obtain ⟨b0, b1, b2, _, _, _⟩ := hX6.cells; (have HX6 := Aside0.mk hX6); (have HB6 := Aside0.mk hbel); (have hn3 := HN3.out); clear ho hbel hg hat hX6)
      | (go_at_call 26; refine (hn3 _).mono ?_; rintro e w7 ⟨u7, rfl, hR7, hB7⟩; obtain ⟨A7, c7, rfl, _, hC7⟩ := Kd.R_reads hR7; (have HC7 := Aside0.mk hC7); (have HO7 := Aside0.mk (Kd.R_below HO6.out hB7)); (have HX7 := Aside0.mk (HX6.out.below hB7)); (have HB7 := Aside0.mk (below_from HB6.out (Nat.le_refl _) hB7)); clear hR7 hC7 hB7 hn3 b0 b1 b2)
      | ((with_reducible refine gate_builtin (b := .append) (xs := #[.tmp 18, .tmp 21]) rfl ?_); at_builtin; refine Kd.R_append_row (Value.int .u8) (0 : Int) (h1 := fun _ => rfl) (w0 := w) w.heap.size rfl (.tmp 18) (.tmp 21) 35 5 (.int .u8 0) 1 rfl Try.underlying35 info8 rfl (by decide) (.slice A6 z2.length c6) z2 y3 A7 y3.length c7 (fun k => k ≠ w.heap.size) rfl rfl ?aF HO7.out HC7.out HB7.out HB7.out.size ?aL ?_; (case aL => (have := HZL2.out; have := H3.out; omega)); (case aF => exact (fun k hk => by have := blk_lt HX7.out; omega)); intro v8 w8 ho hbel hg hat; rw [← HZ3.out] at ho; obtain ⟨A8, c8, rfl, _, hC8⟩ := Kd.R_reads ho; (have HB8 := Aside0.mk hbel); (have hse := refseal_ok A8 c8 z3 w8 hC8 HZB.out (by have := HZL3.out; omega)); clear ho hbel hg hat hC8)
      | (go_at_call 27; refine hse.mono ?_; rintro e w9 ⟨u9, rfl, hR9, hB9⟩; (have HR9 := Aside0.mk (Kd.R_lower hR9 HB8.out.size)); (have HB9 := Aside0.mk (below_from HB8.out (Nat.le_refl _) hB9)); clear hR9 hB9 hse))
    go_ret2
    exact ⟨_, rfl, HR9.out, HB9.out⟩
end Go.Proofs.Ytbpnigldojpapaa.Points
