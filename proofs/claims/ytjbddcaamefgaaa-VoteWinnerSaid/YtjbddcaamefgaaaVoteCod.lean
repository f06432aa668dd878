/- A promise's bytes, and which bytes are one. -/
import Derived.Test.YtjbddcaamefgaaaCrcRef
import Derived.Test.YtjbddcaamefgaaaRefRd
import Derived.Test.YtjbddcaamefgaaaVoteRef
import Derived.Lib.SlBytesConst
namespace Go.Proofs.Ytjbddcaamefgaaa.Vote
open Go.RowKit Go.Proofs.YtjbddcaamefgaaaW.PrintWords Go.Proofs.YtjbddcaamefgaaaW.PrintLast Go.Proofs.YtjbddcaamefgaaaW.PrintMore Go.Proofs.Ytjbddcaamefgaaa.Wire Go.Proofs.Ytjbddcaamefgaaa.Crc
open Go.Proofs.Ytjbddcaamefgaaa.Back (AllB numB numB_small)
set_option linter.unusedVariables false
set_option linter.unusedSimpArgs false
theorem below_le {w w1 : World} {b b' : Nat} (h : Below b w w1) (hb : b' ≤ b) : Below b' w w1 := ⟨h.os, h.tape, h.output, h.size, fun k hk => h.block k (by omega)⟩
theorem le_AllB' : ∀ (k : Nat) (n : Int), AllB (le n k) := by
  intro k
  induction k with
  | zero => intro n z hz; simp [le] at hz
  | succ k ih =>
    intro n z hz
    rw [le, List.mem_cons] at hz
    rcases hz with rfl | hz
    · omega
    · exact ih _ z hz
theorem AllB_app {xs ys : List Int} (h : AllB xs) (k : AllB ys) : AllB (xs ++ ys) := fun x hx => (List.mem_append.1 hx).elim (h x) (k x)
theorem rdNum_sub {xs : List Int} {wrong size : Int} {T : (Int × Int) × (List Int × Int)} (h : rdNum xs wrong size = T) : ∃ m, T.2.1 = xs.drop m := by
  subst h
  unfold rdNum
  split
  · exact ⟨0, rfl⟩
  · split
    · exact ⟨0, rfl⟩
    · split
      · exact ⟨0, rfl⟩
      · split
        · exact ⟨0, rfl⟩
        · exact ⟨_, rfl⟩
theorem rdNum_good {xs : List Int} {wrong : Int} (h : (rdNum xs wrong 8).2.2 = 0) : wrong = 0 ∧ (rdNum xs wrong 8).2.1 = xs.drop 8 := by
  unfold rdNum at h ⊢
  rw [if_neg (by decide)] at h ⊢
  split at h
  · rename_i hw
    exact absurd h hw
  · split at h
    · cases h
    · split at h
      · cases h
      · rename_i h1 h2 h3
        rw [if_neg h1, if_neg h2, if_neg h3]
        exact ⟨by simpa using h1, rfl⟩
theorem rdNum_lt {xs : List Int} {wrong : Int} (hb : AllB xs) : (rdNum xs wrong 8).1.1 < 9223372036854775808 := by
  unfold rdNum
  rw [if_neg (by decide)]
  split
  · show (0 : Int) < _
    omega
  · split
    · show (0 : Int) < _
      omega
    · split
      · show (0 : Int) < _
        omega
      · show numB (xs.take 8) < _
        have hbt : AllB (xs.take 8) := fun x hx => hb x (List.mem_of_mem_take hx)
        rw [Back.numB_wrap hbt (by rw [List.length_take]; omega), IntKind.wrap_i64]
        omega
/-- what is sealed -/
def encV (e f : Int) : List Int := le e 8 ++ le (f + 1) 1
/-- a promise's bytes, or why not -/
def encVF (e f : Int) : List Int × Int := if okP e f = true then (encV e f ++ le (sumOf (encV e f) : Int) 4, 0) else ([], 1)
theorem encV_AllB (e f : Int) : AllB (encV e f) := AllB_app (le_AllB' _ _) (le_AllB' _ _)
theorem encV_length (e f : Int) : (encV e f).length = 9 := by simp [encV, le_length]
theorem num8_ok {n : Int} (h : 0 ≤ n) (k : n < 9223372036854775808) : numOk n 8 = true := by
  unfold numOk
  rw [show numTop 8 = 9223372036854775808 from rfl, decide_eq_true h, decide_eq_true k]
  rfl
theorem num1_ok {n : Int} (h : 0 ≤ n) (k : n < 256) : numOk n 1 = true := by
  unfold numOk
  rw [show numTop 1 = 256 from rfl, decide_eq_true h, decide_eq_true k]
  rfl
theorem VotAt.low {T : TypeId} {w w1 : World} {b g : Nat} {n l : Int} (h : VotAt T w g n l) (hB : Below b w w1) (hg : g < b) : VotAt T w1 g n l := (hB.block g hg).trans h
def decVV (R : (Int × Int) × (List Int × Int)) (x : Int) : (Int × Int) × Int := if R.2.2 = 0 ∧ okP R.1.1 (x - 1) = true then ((R.1.1, x - 1), 0) else ((0, 0), 4)
/-- The promise that bytes are, or why none. -/
def decVF (xs : List Int) : (Int × Int) × Int :=
  if xs.length < 13 then ((0, 0), 10) else if (opOf (xs.take 13)).2 ≠ 0 then ((0, 0), 20) else decVV (rdNum (xs.take 9) 0 8) ((xs.take 9).getD 8 0)
theorem opv_two {xs : List Int} (h : 13 ≤ xs.length) : ((opOf (xs.take 13)).2 = 20 ∧ (opOf (xs.take 13)).1 = []) ∨ ((opOf (xs.take 13)).2 = 0 ∧ (opOf (xs.take 13)).1 = xs.take 9) := by
  have hl : (xs.take 13).length = 13 := by rw [List.length_take]; omega
  unfold opOf
  rw [hl, if_neg (by omega)]
  split
  · exact .inl ⟨rfl, rfl⟩
  · refine .inr ⟨rfl, ?_⟩
    show (xs.take 13).take (13 - 4) = _
    rw [List.take_take]
    rfl
theorem one_num {x : Int} (h : 0 ≤ x ∧ x < 256) : rdNum [x] 0 1 = ((x, 0), ([], 0)) := by
  have hb : AllB [x] := by
    intro y hy
    rw [List.mem_singleton] at hy
    subst hy
    exact h
  have hn : numB [x] = x := by
    rw [numB_small hb (by simp)]
    simp [Back.hor]
    omega
  unfold rdNum
  rw [if_neg (by decide), if_neg (by simp), if_neg (by simp)]
  rw [show (1 : Int).toNat = 1 from rfl, show [x].take 1 = [x] from rfl, show [x].drop 1 = [] from rfl, hn, if_neg (by omega)]
theorem decv_facts {ys : List Int} (hl : ys.length = 9) (hb : AllB ys) : ∃ R1 R2 x, R1 = rdNum ys 0 8 ∧ R2 = rdNum R1.2.1 R1.2.2 1 ∧ ys.getD 8 0 = x ∧ 0 ≤ x ∧ x < 256 ∧ R1.2.1.length ≤ 9 ∧ AllB R1.2.1 ∧ R1.1.1 < 9223372036854775808 ∧ ((R1.2.2 = 0 ∧ R2.1.1 = x ∧ rdEnd R2.2.1 R2.2.2 = 0) ∨ (R1.2.2 ≠ 0 ∧ R2.1.1 = 0 ∧ rdEnd R2.2.1 R2.2.2 = R1.2.2)) := by
  obtain ⟨m1, h1⟩ := rdNum_sub (xs := ys) (wrong := 0) (size := 8) rfl
  obtain ⟨R1, hR1⟩ : ∃ R, R = rdNum ys 0 8 := ⟨_, rfl⟩
  rw [← hR1] at h1
  obtain ⟨R2, hR2⟩ : ∃ R, R = rdNum R1.2.1 R1.2.2 1 := ⟨_, rfl⟩
  have hb1 : AllB R1.2.1 := by rw [h1]; exact fun x hx => hb x (List.mem_of_mem_drop hx)
  have hx : 0 ≤ ys.getD 8 0 ∧ ys.getD 8 0 < 256 := by
    rw [List.getD_eq_getElem?_getD, List.getElem?_eq_getElem (by omega)]
    have := hb ys[8] (List.getElem_mem _)
    simp only [Option.getD_some]
    omega
  refine ⟨R1, R2, _, hR1, hR2, rfl, hx.1, hx.2, by rw [h1, List.length_drop]; omega, hb1, by rw [hR1]; exact rdNum_lt hb, ?_⟩
  by_cases hw : R1.2.2 = 0
  · refine .inl ⟨hw, ?_⟩
    have hz := hw
    rw [hR1] at hz
    obtain ⟨_, e2⟩ := rdNum_good hz
    rw [← hR1] at e2
    have hd : ys.drop 8 = [ys.getD 8 0] := by
      rw [List.drop_eq_getElem_cons (by omega), List.drop_of_length_le (by omega), List.getD_eq_getElem?_getD, List.getElem?_eq_getElem (by omega)]
      rfl
    rw [e2, hw, hd, one_num hx] at hR2
    rw [hR2]
    exact ⟨rfl, rfl⟩
  · refine .inr ⟨hw, ?_⟩
    have : R2 = ((0, R1.2.2), (R1.2.1, R1.2.2)) := by
      rw [hR2]
      unfold rdNum
      rw [if_neg (by decide), if_pos hw]
    rw [this]
    refine ⟨rfl, ?_⟩
    unfold rdEnd
    rw [if_pos hw]
theorem VotAt.set2 {T : TypeId} {w : World} {g : Nat} {n l : Int} (h : VotAt T w g n l) (a b : Int) : VotAt T ((w.setCell ⟨g, 0, none⟩ (.int .i64 a)).setCell ⟨g, 1, none⟩ (.int .i64 b)) g a b := by
  unfold VotAt at *
  exact blk_put (blk_put h 0 _ rfl) 1 _ rfl
theorem below_set2 {w W : World} {g : Nat} {a b : Value} (h : Below w.heap.size w W) (hg : w.heap.size ≤ g) : Below w.heap.size w ((W.setCell ⟨g, 0, none⟩ a).setCell ⟨g, 1, none⟩ b) := below_set (below_set h hg) hg
set_option maxRecDepth 100000 in
set_option maxHeartbeats 4000000 in
theorem vencode_ok (e f : Int) (w : World) : Calls Try.prog 22 #[.agg #[.int .i64 e, .int .i64 f]] w fun r w' => ∃ u, r = .returned (.tuple #[u, .int .i64 (encVF e f).2]) ∧ Kd.R (Kd.int .u8) 5 w' w.heap.size (fun _ => True) u (encVF e f).1 ∧ Below w.heap.size w w' := by
  have hrt := right_ok e f
  have HX0 : Aside0 (VotAt 23 (w.alloc (.cells #[.int .i64 e, .int .i64 f] 23)) w.heap.size e f) := ⟨blk_new _ _⟩
  have HB0 := Aside0.mk (below_alloc (Below.refl w.heap.size w) (.cells #[.int .i64 e, .int .i64 f] 23))
  unfold encVF
  rcases hok : okP e f
  · rw [if_neg (by simp)]
    rw [hok] at hrt
    go_enter Try.func22, Try.ntmps22
    go_wp2_with (go_at_call 28; refine (hrt _).mono ?_; rintro r w2 ⟨rfl, hB2⟩; (have HB2 := Aside0.mk (below_from HB0.out (Nat.le_refl _) hB2)); clear hB2)
    go_ret2
    exact ⟨_, rfl, Kd.R_nil _ _ _ _ _, HB2.out⟩
  · rw [if_pos rfl]
    rw [hok] at hrt
    have hk := okP_iff.1 hok
    have hw1 : IntKind.i64.wrap (f + 1) = f + 1 := by
      rw [IntKind.wrap_i64]
      omega
    have HK := Aside0.mk hk
    have hnum1 := fun (b g : Nat) (W : World) (h : WrFrom b W g []) (hb : b ≤ W.heap.size) => num_from e 8 h hb (by omega) (by simp)
    rw [num8_ok (by omega) (by omega)] at hnum1
    have hnum2 := fun (b g : Nat) (W : World) (h : WrFrom b W g ([] ++ le e 8)) (hb : b ≤ W.heap.size) => num_from (f + 1) 1 h hb (by omega) (by rw [List.nil_append, le_length]; omega)
    rw [num1_ok (by omega) (by omega)] at hnum2
    simp only [if_true] at hnum1 hnum2
    have HN1 := Aside0.mk hnum1
    have HN2 := Aside0.mk hnum2
    have hl9 := encV_length e f
    have hb9 := encV_AllB e f
    have hby := fun (b g : Nat) (W : World) (h : WrFrom b W g (encV e f)) => bytes_from h (by omega)
    have hse := fun (A : Option Addr) (c : Nat) (W : World) (h : Kd.C (Kd.int .u8) W A (encV e f).length (encV e f)) => seal_ok A c (encV e f) W h hb9 (by omega)
    have HBY := Aside0.mk hby
    have HSE := Aside0.mk hse
    have hll : ([] ++ le e 8) ++ le (f + 1) 1 = encV e f := rfl
    generalize hys : encV e f = ys at HBY HSE hll
    have HLL := Aside0.mk hll
    clear hok hk hnum1 hnum2 hl9 hb9 hby hse hll hys
    go_enter Try.func22, Try.ntmps22
    go_wp2_with (first
      | (go_at_call 28; refine (hrt _).mono ?_; rintro r w2 ⟨rfl, hB2⟩; (have HX2 := Aside0.mk (HX0.out.below hB2)); (have HB2 := Aside0.mk (below_from HB0.out (Nat.le_refl _) hB2)); (have hnew := new_from w2); clear hB2 hrt)
      | (go_at_call 33; refine hnew.mono ?_; rintro r w3 ⟨rfl, hw3, hB3⟩; obtain ⟨b0, b1, _, _⟩ := (HX2.out.below hB3).cells; (have HX3 := Aside0.mk (HX2.out.below hB3)); (have HG3 := Aside0.mk (blk_lt HX2.out)); (have HB3 := Aside0.mk (below_from HB2.out (Nat.le_refl _) hB3)); (have HS3 := Aside0.mk hB3.size); (have hn1 := HN1.out _ _ _ hw3 hB3.size); clear hB3 hw3 hnew)
      | (go_at_call 34; refine hn1.mono ?_; rintro r w4 ⟨rfl, hw4, hB4⟩; clear b0 b1; obtain ⟨b0, b1, _, _⟩ := (HX3.out.low hB4 HG3.out).cells; (have HB4 := Aside0.mk (HB3.out.trans (below_le hB4 HB2.out.size))); (have HS4 := Aside0.mk (Nat.le_trans HS3.out hB4.size)); (have hn2 := HN2.out _ _ _ hw4 HS4.out); clear hB4 hw4 hn1)
      | (go_at_call 34; refine hn2.mono ?_; rintro r w5 ⟨rfl, hw5, hB5⟩; (have HB5 := Aside0.mk (HB4.out.trans (below_le hB5 HB2.out.size))); (have hby := HBY.out _ _ w5 (by rw [← HLL.out]; exact hw5)); clear hB5 hw5 hn2 b0 b1)
      | (go_at_call 36; refine hby.mono ?_; rintro r w6 ⟨A6, c6, rfl, hc6, hC6, hB6, _⟩; (have HB6 := Aside0.mk (below_from HB5.out (Nat.le_refl _) hB6)); (have hse := HSE.out A6 c6 w6 hC6); clear hc6 hC6 hB6 hby)
      | (go_at_call 35; refine hse.mono ?_; rintro r w7 ⟨u7, rfl, hR7, hB7⟩; (have HR7 := Aside0.mk (Kd.R_lower hR7 HB6.out.size)); (have HB7 := Aside0.mk (below_from HB6.out (Nat.le_refl _) hB7)); clear hR7 hB7 hse))
    go_ret2
    exact ⟨_, rfl, HR7.out, HB7.out⟩
set_option maxRecDepth 100000 in
set_option maxHeartbeats 4000000 in
theorem refvencode_ok (e f : Int) (w : World) : Calls Try.prog 23 #[.agg #[.int .i64 e, .int .i64 f]] w fun r w' => ∃ u, r = .returned (.tuple #[u, .int .i64 (encVF e f).2]) ∧ Kd.R (Kd.int .u8) 5 w' w.heap.size (fun _ => True) u (encVF e f).1 ∧ Below w.heap.size w w' := by
  have hrt := refright_ok e f
  have HX0 : Aside0 (VotAt 30 (w.alloc (.cells #[.int .i64 e, .int .i64 f] 30)) w.heap.size e f) := ⟨blk_new _ _⟩
  have HB0 := Aside0.mk (below_alloc (Below.refl w.heap.size w) (.cells #[.int .i64 e, .int .i64 f] 30))
  unfold encVF
  rcases hok : okP e f
  · rw [if_neg (by simp)]
    rw [hok] at hrt
    go_enter Try.func23, Try.ntmps23
    go_wp2_with (go_at_call 9; refine (hrt _).mono ?_; rintro r w2 ⟨rfl, hB2⟩; (have HB2 := Aside0.mk (below_from HB0.out (Nat.le_refl _) hB2)); clear hB2)
    go_ret2
    exact ⟨_, rfl, Kd.R_nil _ _ _ _ _, HB2.out⟩
  · rw [if_pos rfl]
    rw [hok] at hrt
    have hk := okP_iff.1 hok
    have hw1 : IntKind.i64.wrap (f + 1) = f + 1 := by
      rw [IntKind.wrap_i64]
      omega
    have hw2 : IntKind.u8.wrap (f + 1) = f + 1 := by
      show (f + 1) % 256 = f + 1
      omega
    have hf0 : (0 : Int) ≤ f + 1 := by omega
    have hf1 : f + 1 < 256 := by omega
    have hn1 := fun W => refnum_ok e 8 W (by omega) (by omega) (by omega)
    obtain ⟨y1, hy1⟩ : ∃ y, y = le e 8 := ⟨_, rfl⟩
    have H1 : Aside0 (y1.length = 8) := ⟨by rw [hy1]; exact le_length _ _⟩
    rw [← hy1] at hn1
    have hz : encV e f = y1 ++ [f + 1] := by
      rw [hy1]
      unfold encV
      show _ ++ [(f + 1) % 256] = _
      rw [show (f + 1) % 256 = f + 1 by omega]
    obtain ⟨z2, hz2⟩ : ∃ z, z = y1 ++ [f + 1] := ⟨_, rfl⟩
    rw [← hz2] at hz
    have HZB : Aside0 (AllB z2) := ⟨by rw [← hz]; exact encV_AllB e f⟩
    have HZL : Aside0 (z2.length = 9) := ⟨by rw [← hz]; exact encV_length e f⟩
    rw [hz]
    have HZ2 := Aside0.mk hz2
    have HN1 := Aside0.mk hn1
    have HK := Aside0.mk hk
    clear hok hk hy1 hz2 hz hn1
    go_enter Try.func23, Try.ntmps23
    go_wp2_with (first
      | (go_at_call 9; refine (hrt _).mono ?_; rintro r w2 ⟨rfl, hB2⟩; obtain ⟨b0, b1, _, _⟩ := (HX0.out.below hB2).cells; (have HX2 := Aside0.mk (HX0.out.below hB2)); (have HB2 := Aside0.mk (below_from HB0.out (Nat.le_refl _) hB2)); (have hn1 := HN1.out); clear hB2 hrt)
      | (go_at_call 37; refine (hn1 _).mono ?_; rintro r w3 ⟨u3, rfl, hR3, hB3⟩; obtain ⟨A3, c3, rfl, _, hC3⟩ := Kd.R_reads hR3; (have HC3 := Aside0.mk hC3); (have HX3 := Aside0.mk (HX2.out.below hB3)); (have HB3 := Aside0.mk (below_from HB2.out (Nat.le_refl _) hB3)); clear hR3 hC3 hB3 hn1 b0 b1)
      | ((with_reducible refine gate_builtin (b := .append) (xs := #[.tmp 8, .tmp 11]) rfl ?_); at_builtin; refine Kd.R_append_row (Value.int .u8) (0 : Int) (h1 := fun _ => rfl) (w0 := w) w.heap.size rfl (.tmp 8) (.tmp 11) 63 5 (.int .u8 0) 1 rfl Try.underlying63 info8 rfl (by decide) (.slice none 0 0) [] y1 A3 y1.length c3 (fun k => k ≠ w.heap.size) rfl rfl ?aF (Kd.R_nil _ _ _ _ _) HC3.out HB3.out HB3.out.size ?aL ?_; (case aL => (have := H1.out; simp; omega)); (case aF => exact (fun k hk => by have := blk_lt HX3.out; omega)); intro v4 w4 ho hbel hg hat; rw [List.nil_append] at ho; obtain ⟨A4, c4, rfl⟩ := Kd.R_slice ho; (have HO4 := Aside0.mk ho); (have hX4 : VotAt 30 w4 w.heap.size e f := (hg.block _ (blk_lt HX3.out) (by intro e; cases e)).trans HX3.out); obtain ⟨b0, b1, _, _⟩ := hX4.cells; (have HB4 := Aside0.mk hbel); clear ho hbel hg hat hX4)
      | ((with_reducible refine gate_builtin (b := .append) (xs := #[.tmp 13, .tmp 18]) rfl ?_); at_builtin; refine Kd.R_append (Kd.int .u8) (w0 := w) w.heap.size rfl (.tmp 13) (.tmp 18) 63 5 (.int .u8 0) 1 rfl Try.underlying63 info8 rfl (by decide) (by omega) (.slice A4 y1.length c4) y1 (f + 1) [.int .u8 (f + 1)] (fun _ => True) (fun _ => False) rfl rfl ?aP (fun _ hk => hk.elim) ?aF ?aO ?aB ?aS ?aL ?_; (case aP => exact rfl); (case aF => exact (fun _ _ => trivial)); (case aO => exact Kd.R_mono HO4.out (fun _ _ => trivial)); (case aB => exact HB4.out); (case aS => exact HB4.out.size); (case aL => (have := H1.out; omega)); intro v6 w6 ho hbel hg hat; rw [← HZ2.out] at ho; obtain ⟨A6, c6, rfl, _, hC6⟩ := Kd.R_reads ho; (have HB6 := Aside0.mk hbel); (have hse := refseal_ok A6 c6 z2 w6 hC6 HZB.out (by have := HZL.out; omega)); clear ho hbel hg hat hC6)
      | (go_at_call 38; refine hse.mono ?_; rintro r w9 ⟨u9, rfl, hR9, hB9⟩; (have HR9 := Aside0.mk (Kd.R_lower hR9 HB6.out.size)); (have HB9 := Aside0.mk (below_from HB6.out (Nat.le_refl _) hB9)); clear hR9 hB9 hse))
    go_ret2
    exact ⟨_, rfl, HR9.out, HB9.out⟩
set_option maxRecDepth 100000 in
set_option maxHeartbeats 8000000 in
theorem vdecode_ok (A : Option Addr) (c : Nat) (xs : List Int) (w : World) (hr : Kd.C (Kd.int .u8) w A xs.length xs) (hc : xs.length ≤ c) (hb : AllB xs) (hl : xs.length ≤ 140737488355328) :
    Calls Try.prog 24 #[.slice A xs.length c] w fun e w' => e = .returned (.tuple #[.agg #[.int .i64 (decVF xs).1.1, .int .i64 (decVF xs).1.2], .int .i64 (decVF xs).2]) ∧ Below w.heap.size w w' := by
  have HP0 : Aside0 (VotAt 23 (w.alloc (.cells #[.int .i64 0, .int .i64 0] 23)) w.heap.size 0 0) := ⟨blk_new _ _⟩
  have HB0 := Aside0.mk (below_alloc (Below.refl w.heap.size w) (.cells #[.int .i64 0, .int .i64 0] 23))
  unfold decVF
  by_cases h28 : xs.length < 13
  · rw [if_pos h28]
    have d0 : decide ((xs.length : Int) < 13) = true := decide_eq_true (by omega)
    have hlen : xs.length ≤ 9223372036854775807 := hr.2.1
    clear hr hb hl hc
    go_enter Try.func24, Try.ntmps24
    go_wp2
    refine bodyPost_ret (results_ct rfl _ _ w.heap.size 23 #[.int .i64 0, .int .i64 0] (0, 0) _ rfl (blk_new _ _) Try.underlying23 rfl (by kernel_rfl)) rfl ?_
    exact ⟨rfl, HB0.out⟩
  · rw [if_neg h28]
    have d0 : decide ((xs.length : Int) < 13) = false := decide_eq_false (by omega)
    have hml : 13 ≤ xs.length := by omega
    have hCt := Kd.C_take hr hml
    have htl : (xs.take 13).length = 13 := by rw [List.length_take]; omega
    have htb : AllB (xs.take 13) := fun x hx => hb x (List.mem_of_mem_take hx)
    have hcut : ∀ W : World, (Instr.slice 63 (.slice A xs.length c) none (some (.int .i64 13)) none).run Try.prog W = .ok (.slice A 13 c) W := by
      intro W
      exact cut_to (P := Try.prog) 63 5 .i64 Try.underlying63 (info_parts info8).choose_spec.1 A xs.length c 13 (by omega) (by omega) hc W
    have hop := open_ok A c (xs.take 13) (w.alloc (.cells #[.int .i64 0, .int .i64 0] 23)) (Kd.C_below hCt (below_alloc (Below.refl _ _) _)) (by omega) htb (by omega)
    rw [htl] at hop
    rcases opv_two hml with ⟨h1, h2⟩ | ⟨h1, h2⟩
    · rw [if_pos (by rw [h1]; decide)]
      rw [h1, h2] at hop
      clear hr hb hl hc hCt htl htb h1 h2 h28
      go_enter Try.func24, Try.ntmps24
      go_wp2_with (go_at_call 39; refine hop.mono ?_; rintro e w2 ⟨u2, rfl, hR2, hB2⟩; obtain ⟨A2, c2, rfl, _, _⟩ := Kd.R_reads hR2; obtain ⟨p0, p1, q0, q1⟩ := (HP0.out.below hB2).cells; (have HP2 := Aside0.mk (HP0.out.below hB2)); (have HB2 := Aside0.mk (below_from HB0.out (Nat.le_refl _) hB2)); clear hR2 hB2 hop)
      refine bodyPost_ret (results_ct rfl _ _ w.heap.size 23 #[.int .i64 0, .int .i64 0] (0, 0) _ rfl (HP2.out.set2 0 0) Try.underlying23 rfl (by kernel_rfl)) rfl ?_
      exact ⟨rfl, below_set2 HB2.out (Nat.le_refl _)⟩
    · rw [if_neg (by rw [h1]; decide)]
      rw [h1, h2] at hop
      have hyl : (xs.take 9).length = 9 := by rw [List.length_take]; omega
      have hyb : AllB (xs.take 9) := fun x hx => hb x (List.mem_of_mem_take hx)
      obtain ⟨R1, R2, x, e1, e2, ex, hx0, hx1, hl1, hb1, hk1, hend⟩ := decv_facts hyl hyb
      rw [← e1, ex]
      generalize xs.take 9 = ys at hop hyl e1 hyb ex
      have hnum1 := fun (b g : Nat) (W : World) (h : RdFrom b W g ys 0) (hb : b ≤ W.heap.size) => rdnum_from 8 h hb (by omega)
      rw [← e1] at hnum1
      have hnum2 := fun (b g : Nat) (W : World) (h : RdFrom b W g R1.2.1 R1.2.2) (hb : b ≤ W.heap.size) => rdnum_from 1 h hb (by omega)
      rw [← e2] at hnum2
      have hen := fun (b g : Nat) (W : World) (h : RdFrom b W g R2.2.1 R2.2.2) => end_from h
      obtain ⟨v, E, hv, hE, hr21, hrE⟩ : ∃ v E : Int, R2.1.1 = v ∧ rdEnd R2.2.1 R2.2.2 = E ∧ ((E = 0 ∧ R1.2.2 = 0 ∧ v = x) ∨ (E ≠ 0 ∧ R1.2.2 ≠ 0 ∧ v = 0)) ∧ True := by
        rcases hend with ⟨a1, a2, a3⟩ | ⟨a1, a2, a3⟩
        · exact ⟨_, _, rfl, rfl, .inl ⟨a3, a1, a2⟩, trivial⟩
        · exact ⟨_, _, rfl, rfl, .inr ⟨by rw [a3]; exact a1, a1, a2⟩, trivial⟩
      rw [hE] at hen
      rw [hv] at hnum2
      have hval : decVV R1 x = if E = 0 ∧ okP R1.1.1 (x - 1) = true then ((R1.1.1, x - 1), 0) else ((0, 0), 4) := by
        unfold decVV
        rcases hr21 with ⟨a1, a2, _⟩ | ⟨a1, a2, _⟩
        · rw [a1, a2]
        · rw [if_neg (fun h => a2 h.1), if_neg (fun h => a1 h.1)]
      rw [hval]
      have hrt := right_ok R1.1.1 (x - 1)
      have hr22 : (E = 0 ∧ v = x) ∨ (E ≠ 0 ∧ v = 0) := by
        rcases hr21 with ⟨a1, a2, a3⟩ | ⟨a1, a2, a3⟩
        · exact .inl ⟨a1, a3⟩
        · exact .inr ⟨a1, a3⟩
      generalize R1.1.1 = q1 at *
      generalize R1.1.2 = q2 at *
      generalize R2.1.2 = q3 at *
      have HN1 := Aside0.mk hnum1
      have HN2 := Aside0.mk hnum2
      have HEN := Aside0.mk hen
      have HYL := Aside0.mk hyl
      clear hr hb hl hc hCt htl htb h1 h2 h28 hyl hyb e1 e2 ex hl1 hb1 hk1 hend hnum1 hnum2 hen hv hE hr21 hrE hval
      have hwv : IntKind.i64.wrap (v - 1) = v - 1 := by
        rw [IntKind.wrap_i64]
        omega
      have core : ∀ (T : (Int × Int) × Int), (((E == 0) = false ∧ T = ((0, 0), 4)) ∨ ((E == 0) = true ∧ ((okP q1 (v - 1) = false ∧ T = ((0, 0), 4)) ∨ (okP q1 (v - 1) = true ∧ T = ((q1, v - 1), 0))))) → (∀ W, Calls Try.prog 28 #[.agg #[.int .i64 q1, .int .i64 (v - 1)]] W fun r w' => r = .returned (.bool (okP q1 (v - 1))) ∧ Below W.heap.size W w') →
          Calls Try.prog 24 #[.slice A xs.length c] w fun e w' => e = .returned (.tuple #[.agg #[.int .i64 T.1.1, .int .i64 T.1.2], .int .i64 T.2]) ∧ Below w.heap.size w w' := by
        intro T hT hrt
        clear hx0 hx1 hr22
        have HT := Aside0.mk hT
        have HRT := Aside0.mk hrt
        clear hT hrt
        go_enter Try.func24, Try.ntmps24
        go_upto_region 10 with (first
          | (go_at_call 39; refine hop.mono ?_; rintro e w2 ⟨u2, rfl, hR2, hB2⟩; obtain ⟨A2, c2, rfl, _, hC2⟩ := Kd.R_reads hR2; (have HP2 := Aside0.mk (HP0.out.below hB2)); (have HB2 := Aside0.mk (below_from HB0.out (Nat.le_refl _) hB2)); (have hof := of_from (c := c2) hC2 (by have := HYL.out; omega)); clear hR2 hB2 hop hC2)
          | (go_at_call 40; refine hof.mono ?_; rintro e w3 ⟨g3, rfl, hr3, hB3⟩; (have HP3 := Aside0.mk (HP2.out.below hB3)); (have HB3 := Aside0.mk (below_from HB2.out (Nat.le_refl _) hB3)); (have HG3 := Aside0.mk (blk_lt HP2.out)); (have HS3 := Aside0.mk hB3.size); (have hn1 := HN1.out _ _ _ hr3 hB3.size); clear hr3 hB3 hof)
          | (go_at_call 41; refine hn1.mono ?_; rintro e w4 ⟨rfl, hr4, hB4⟩; (have HP4 := Aside0.mk (HP3.out.low hB4 HG3.out)); (have HB4 := Aside0.mk (HB3.out.trans (below_le hB4 HB2.out.size))); (have HS4 := Aside0.mk (Nat.le_trans HS3.out hB4.size)); (have hn2 := HN2.out _ _ _ hr4 HS4.out); clear hr4 hB4 hn1)
          | (go_at_call 41; refine hn2.mono ?_; rintro e w5 ⟨rfl, hr5, hB5⟩; (have HP5 := Aside0.mk (HP4.out.low hB5 HG3.out)); (have HB5 := Aside0.mk (HB4.out.trans (below_le hB5 HB2.out.size))); (have HS5 := Aside0.mk (Nat.le_trans HS4.out hB5.size)); (have HR5 := Aside0.mk hr5); clear hr5 hB5 hn2))
        have hen := HEN.out _ _ _ (HR5.out.below (below_alloc (Below.refl _ _) (.cells #[.int .i64 q1, .int .i64 (v - 1)] 23)))
        have HPP : Aside0 (VotAt 23 (w5.alloc (.cells #[.int .i64 q1, .int .i64 (v - 1)] 23)) w5.heap.size q1 (v - 1)) := ⟨blk_new _ _⟩
        have HPR9 := Aside0.mk (HP5.out.below (below_alloc (Below.refl _ _) (.cells #[.int .i64 q1, .int .i64 (v - 1)] 23)))
        have HB9 := Aside0.mk (HB5.out.alloc HB5.out.size (.cells #[.int .i64 q1, .int .i64 (v - 1)] 23))
        obtain ⟨r0, r1, f0, f1⟩ := HP5.out.cells
        have l5 := blk_lt HP5.out
        rcases HT.out with ⟨d1, rfl⟩ | ⟨d1, ⟨d2, rfl⟩ | ⟨d2, rfl⟩⟩
        · go_wp2_with (go_at_call 42; refine hen.mono ?_; rintro e w6 ⟨rfl, ⟨nd, rfl⟩⟩)
          refine bodyPost_ret (results_ct rfl _ _ w.heap.size 23 #[.int .i64 0, .int .i64 0] (0, 0) _ rfl ((show VotAt 23 ((w5.alloc (.cells #[.int .i64 q1, .int .i64 (v - 1)] 23)).drewN nd) w.heap.size 0 0 from HPR9.out).set2 0 0) Try.underlying23 rfl (by kernel_rfl)) rfl ?_
          exact ⟨rfl, below_set2 (pw_below_drewN HB9.out nd) (Nat.le_refl _)⟩
        · have hrt := HRT.out
          rw [d2] at hrt
          clear d2
          go_wp2_with (first
            | (go_at_call 42; refine hen.mono ?_; rintro e w6 ⟨rfl, ⟨nd, rfl⟩⟩)
            | (go_at_call 28; refine (hrt _).mono ?_; rintro e w7 ⟨rfl, hB7⟩; (have hp7 : VotAt 23 w7 w.heap.size 0 0 := (hB7.block _ (blk_lt HPR9.out)).trans HPR9.out); (have HPR7 := Aside0.mk hp7); clear hp7; obtain ⟨p0, p1, k0, k1⟩ := HPR7.out.cells; (have HB7 := Aside0.mk (below_from (pw_below_drewN HB9.out nd) (Nat.le_refl _) hB7)); clear hB7))
          refine bodyPost_ret (results_ct rfl _ _ w.heap.size 23 #[.int .i64 0, .int .i64 0] (0, 0) _ rfl (HPR7.out.set2 0 0) Try.underlying23 rfl (by kernel_rfl)) rfl ?_
          exact ⟨rfl, below_set2 HB7.out (Nat.le_refl _)⟩
        · have hrt := HRT.out
          rw [d2] at hrt
          clear d2
          go_wp2_with (first
            | (go_at_call 42; refine hen.mono ?_; rintro e w6 ⟨rfl, ⟨nd, rfl⟩⟩)
            | (go_at_call 28; refine (hrt _).mono ?_; rintro e w7 ⟨rfl, hB7⟩; (have hp7 : VotAt 23 w7 w.heap.size 0 0 := (hB7.block _ (blk_lt HPR9.out)).trans HPR9.out); (have HPR7 := Aside0.mk hp7); clear hp7; obtain ⟨p0, p1, k0, k1⟩ := HPR7.out.cells; (have hy7 : VotAt 23 w7 w5.heap.size q1 (v - 1) := (hB7.block _ (blk_lt HPP.out)).trans HPP.out); obtain ⟨y0, y1, _, _⟩ := hy7.cells; clear hy7; (have HB7 := Aside0.mk (below_from (pw_below_drewN HB9.out nd) (Nat.le_refl _) hB7)); clear hB7))
          refine bodyPost_ret (results_ct rfl _ _ w.heap.size 23 #[.int .i64 q1, .int .i64 (v - 1)] (0, 0) _ rfl (HPR7.out.set2 q1 (v - 1)) Try.underlying23 rfl (by kernel_rfl)) rfl ?_
          exact ⟨rfl, below_set2 HB7.out (Nat.le_refl _)⟩
      rcases hr22 with ⟨rfl, rfl⟩ | ⟨hE, rfl⟩
      · refine core _ (.inr ⟨rfl, ?_⟩) hrt
        cases hq : okP q1 (v - 1)
        · exact .inl ⟨rfl, by rw [if_neg (by simp)]⟩
        · exact .inr ⟨rfl, by rw [if_pos (by simp)]⟩
      · refine core _ (.inl ⟨beq_eq_false_iff_ne.mpr hE, by rw [if_neg (fun h => hE h.1)]⟩) (fun W => right_ok q1 (0 - 1) W)
theorem rf_new {w w2 : World} {A : Option Addr} {c : Nat} {ys : List Int} (hC : Kd.C (Kd.int .u8) w A ys.length ys) (hc : ys.length ≤ c) (hB : Below w.heap.size w w2) (hold : ∀ ad, A = some ad → ad.block < w.heap.size) :
    RfAt (w2.alloc (.cells #[.slice A ys.length c, .int .i64 0] 97)) w2.heap.size ys 0 (fun k => k = w2.heap.size ∨ ∃ ad, A = some ad ∧ k = ad.block) := by
  have hs := hB.size
  refine ⟨A, c, blk_new _ _, hc, Kd.C_below hC (hB.alloc hs _), fun ad e _ => ⟨.inr ⟨ad, e, rfl⟩, by have := hold ad e; omega⟩, .inl rfl, fun k hk => ?_⟩
  have hz : (w2.alloc (.cells #[.slice A ys.length c, .int .i64 0] 97)).heap.size = w2.heap.size + 1 := by
    show (w2.heap.push _).size = _
    simp
  rcases hk with rfl | ⟨ad, e, rfl⟩
  · omega
  · have := hold ad e
    omega
theorem rdNum_err {xs : List Int} : (rdNum xs 0 8).1.2 = (rdNum xs 0 8).2.2 := by
  unfold rdNum
  rw [if_neg (by decide), if_neg (by simp)]
  split
  · rfl
  · split <;> rfl
set_option maxRecDepth 100000 in
set_option maxHeartbeats 8000000 in
theorem refvdecode_ok (A : Option Addr) (c : Nat) (xs : List Int) (w : World) (hr : Kd.C (Kd.int .u8) w A xs.length xs) (hc : xs.length ≤ c) (hb : AllB xs) (hl : xs.length ≤ 140737488355328) :
    Calls Try.prog 25 #[.slice A xs.length c] w fun e w' => e = .returned (.tuple #[.agg #[.int .i64 (decVF xs).1.1, .int .i64 (decVF xs).1.2], .int .i64 (decVF xs).2]) ∧ Below w.heap.size w w' := by
  have HP0 : Aside0 (VotAt 30 (w.alloc (.cells #[.int .i64 0, .int .i64 0] 30)) w.heap.size 0 0) := ⟨blk_new _ _⟩
  have HB0 := Aside0.mk (below_alloc (Below.refl w.heap.size w) (.cells #[.int .i64 0, .int .i64 0] 30))
  unfold decVF
  by_cases h28 : xs.length < 13
  · rw [if_pos h28]
    have d0 : decide ((xs.length : Int) < 13) = true := decide_eq_true (by omega)
    have hlen : xs.length ≤ 9223372036854775807 := hr.2.1
    clear hr hb hl hc
    go_enter Try.func25, Try.ntmps25
    go_wp2
    refine bodyPost_ret (results_ct rfl _ _ w.heap.size 30 #[.int .i64 0, .int .i64 0] (0, 0) _ rfl (blk_new _ _) Try.underlying30 rfl (by kernel_rfl)) rfl ?_
    exact ⟨rfl, HB0.out⟩
  · rw [if_neg h28]
    have d0 : decide ((xs.length : Int) < 13) = false := decide_eq_false (by omega)
    have hml : 13 ≤ xs.length := by omega
    have hCt := Kd.C_take hr hml
    have htl : (xs.take 13).length = 13 := by rw [List.length_take]; omega
    have htb : AllB (xs.take 13) := fun x hx => hb x (List.mem_of_mem_take hx)
    have hcut : ∀ W : World, (Instr.slice 63 (.slice A xs.length c) none (some (.int .i64 13)) none).run Try.prog W = .ok (.slice A 13 c) W := by
      intro W
      exact cut_to (P := Try.prog) 63 5 .i64 Try.underlying63 (info_parts info8).choose_spec.1 A xs.length c 13 (by omega) (by omega) hc W
    have hcut2 : ∀ W : World, (Instr.slice 63 (.slice A xs.length c) none (some (.int .i64 9)) none).run Try.prog W = .ok (.slice A 9 c) W := by
      intro W
      exact cut_to (P := Try.prog) 63 5 .i64 Try.underlying63 (info_parts info8).choose_spec.1 A xs.length c 9 (by omega) (by omega) hc W
    have hop := refopen_ok A c (xs.take 13) (w.alloc (.cells #[.int .i64 0, .int .i64 0] 30)) (Kd.C_below hCt (below_alloc (Below.refl _ _) _)) (by omega) htb (by omega)
    rw [htl] at hop
    rcases opv_two hml with ⟨h1, h2⟩ | ⟨h1, h2⟩
    · rw [if_pos (by rw [h1]; decide)]
      rw [h1, h2] at hop
      clear hr hb hl hc hCt htl htb h1 h2 h28
      go_enter Try.func25, Try.ntmps25
      go_wp2_with (go_at_call 43; refine hop.mono ?_; rintro e w2 ⟨A2, c2, rfl, _, _, hB2⟩; obtain ⟨p0, p1, q0, q1⟩ := (HP0.out.below hB2).cells; (have HP2 := Aside0.mk (HP0.out.below hB2)); (have HB2 := Aside0.mk (below_from HB0.out (Nat.le_refl _) hB2)); clear hB2 hop)
      refine bodyPost_ret (results_ct rfl _ _ w.heap.size 30 #[.int .i64 0, .int .i64 0] (0, 0) _ rfl (HP2.out.set2 0 0) Try.underlying30 rfl (by kernel_rfl)) rfl ?_
      exact ⟨rfl, below_set2 HB2.out (Nat.le_refl _)⟩
    · rw [if_neg (by rw [h1]; decide)]
      rw [h1, h2] at hop
      have hyl : (xs.take 9).length = 9 := by rw [List.length_take]; omega
      have hyb : AllB (xs.take 9) := fun x hx => hb x (List.mem_of_mem_take hx)
      have hCy := Kd.C_take hr (show 9 ≤ xs.length by omega)
      have hold : ∀ ad, A = some ad → ad.block < w.heap.size := by
        intro ad e
        obtain ⟨ad', e', hcc⟩ := C_cells hr (by omega)
        rw [e] at e'
        obtain rfl := Option.some.inj e'
        have := hcc 0 (.int .u8 (xs[0]'(by omega))) (by simp [nums])
        rw [Addr.add_zero'] at this
        exact World.block_lt_of_cell? w _ this
      have hx8 : (xs.take 9).getD 8 0 = rd xs 8 := by
        unfold rd
        rw [List.getD_eq_getElem?_getD, List.getD_eq_getElem?_getD, List.getElem?_take, if_pos (by decide)]
        rfl
      have hat : ∀ W, Below w.heap.size w W → ∃ ad, A = some ad ∧ W.cell? (ad.add 8) = some (.int .u8 (rd xs 8)) := by
        intro W hB
        exact Kd.at_int (Kd.C_below hr hB) 8 (by decide) (by omega)
      obtain ⟨R1, R2, x, e1, e2, ex, hx0, hx1, hl1, hb1, hk1, hend⟩ := decv_facts hyl hyb
      rw [hx8] at ex
      rw [← e1, hx8, ex]
      rw [ex] at hat
      generalize xs.take 9 = ys at hop hyl e1 hyb hCy
      rw [hyl] at hop
      have HN1 := Aside0.mk (fun g F W (h : RfAt W g ys 0 F) => rfnum_ok g ys 0 8 F W h (by omega) hyb)
      have he12 : R1.1.2 = R1.2.2 := by rw [e1]; exact rdNum_err
      rw [← e1] at HN1
      have hval : decVV R1 x = if R1.1.2 = 0 ∧ okP R1.1.1 (x - 1) = true then ((R1.1.1, x - 1), 0) else ((0, 0), 4) := by
        unfold decVV
        rw [he12]
      rw [hval]
      have hrt := refright_ok R1.1.1 (x - 1)
      generalize R1.1.1 = q1 at *
      generalize R1.1.2 = q2 at *
      have HCY := Aside0.mk hCy
      have HOLD := Aside0.mk hold
      have HYL := Aside0.mk hyl
      have HC := Aside0.mk (show 9 ≤ c by omega)
      have HAT := Aside0.mk hat
      have hxl : (8 : Int) < (xs.length : Int) := by omega
      have hxn : 8 < xs.length := by omega
      have hwx : IntKind.i64.wrap (x - 1) = x - 1 := by
        rw [IntKind.wrap_i64]
        omega
      have hwx2 : IntKind.i64.wrap x = x := by
        rw [IntKind.wrap_i64]
        omega
      have hna : xs.length ≤ 9223372036854775807 := hr.2.1
      have hT : ∃ T : (Int × Int) × Int, (if q2 = 0 ∧ okP q1 (x - 1) = true then ((q1, x - 1), 0) else ((0, 0), 4)) = T ∧ (((q2 != 0) = true ∧ T = ((0, 0), 4)) ∨ ((q2 != 0) = false ∧ ((okP q1 (x - 1) = false ∧ T = ((0, 0), 4)) ∨ (okP q1 (x - 1) = true ∧ T = ((q1, x - 1), 0))))) := by
        refine ⟨_, rfl, ?_⟩
        by_cases hq : q2 = 0
        · refine .inr ⟨by simp [hq], ?_⟩
          cases ho : okP q1 (x - 1)
          · exact .inl ⟨rfl, by rw [if_neg (by simp)]⟩
          · exact .inr ⟨rfl, by rw [if_pos (by simp [hq])]⟩
        · exact .inl ⟨by simp [hq], by rw [if_neg (fun h => hq h.1)]⟩
      obtain ⟨T, hTe, hT⟩ := hT
      rw [hTe]
      have HT := Aside0.mk hT
      clear hr hb hl hc hCt htl htb h1 h2 h28 hyl hyb e1 e2 ex hl1 hb1 hk1 hend hCy hold hx8 hat he12 hval hT hTe
      have HRT := Aside0.mk hrt
      clear hrt
      go_enter Try.func25, Try.ntmps25
      go_upto_region 8 with (first
        | (go_at_call 43; refine hop.mono ?_; rintro e w2 ⟨A2, c2, rfl, _, _, hB2⟩; (have HP2 := Aside0.mk ((HP0.out.below hB2).below (below_alloc (Below.refl _ _) (.cells #[.slice A 9 c, .int .i64 0] 97)))); (have HPRA := Aside0.mk (blk_lt (HP0.out.below hB2))); (have HB2 := Aside0.mk (below_from HB0.out (Nat.le_refl _) hB2)); (have hrf := rf_new (ys := ys) (c := c) HCY.out (by rw [HYL.out]; exact HC.out) HB2.out HOLD.out); rw [HYL.out] at hrf; (have hn1 := HN1.out _ _ _ hrf); clear hB2 hop hrf)
        | (go_at_call 44; refine hn1.mono ?_; rintro e w5 ⟨rfl, hr5, hC5⟩; (have hp5 := HP2.out.chg hC5 (fun e => by have e : w.heap.size = w2.heap.size := e; have := HPRA.out; omega)); obtain ⟨p0, p1, f0, f1⟩ := hp5.cells; (have HP5 := Aside0.mk hp5); (have HB5 := Aside0.mk ((HB2.out.alloc HB2.out.size (.cells #[.slice A 9 c, .int .i64 0] 97)).trans (hC5.below (HB2.out.alloc HB2.out.size _).size (fun k hk => by rw [show k = w2.heap.size from hk]; exact HB2.out.size)))); (have l2 := blk_lt hp5); clear hr5 hC5 hn1 hp5))
      obtain ⟨ad, rfl, hx9⟩ := HAT.out w5 HB5.out
      have hx : w5.cell? ⟨ad.block, ad.off + 8, none⟩ = some (.int .u8 x) := hx9
      clear hx9
      have HPP : Aside0 (VotAt 30 (w5.alloc (.cells #[.int .i64 q1, .int .i64 (x - 1)] 30)) w5.heap.size q1 (x - 1)) := ⟨blk_new _ _⟩
      have HPR9 := Aside0.mk (HP5.out.below (below_alloc (Below.refl _ _) (.cells #[.int .i64 q1, .int .i64 (x - 1)] 30)))
      have HB9 := Aside0.mk (HB5.out.alloc HB5.out.size (.cells #[.int .i64 q1, .int .i64 (x - 1)] 30))
      rcases HT.out with ⟨d1, rfl⟩ | ⟨d1, ⟨d2, rfl⟩ | ⟨d2, rfl⟩⟩
      · go_wp2
        refine bodyPost_ret (results_ct rfl _ _ w.heap.size 30 #[.int .i64 0, .int .i64 0] (0, 0) _ rfl (VotAt.below (HP5.out.set2 0 0) (below_alloc (Below.refl _ _) _)) Try.underlying30 rfl (by kernel_rfl)) rfl ?_
        exact ⟨rfl, (below_set2 HB5.out (Nat.le_refl _)).alloc (below_set2 (g := w.heap.size) HB5.out (Nat.le_refl _)).size _⟩
      · have hrt := HRT.out
        rw [d2] at hrt
        clear d2
        go_wp2_with (go_at_call 9; refine (hrt _).mono ?_; rintro e w7 ⟨rfl, hB7⟩; (have HPR7 := Aside0.mk (HPR9.out.below hB7)); obtain ⟨z0, z1, k0, k1⟩ := HPR7.out.cells; obtain ⟨y0, y1, _, _⟩ := (HPP.out.below hB7).cells; (have HB7 := Aside0.mk (below_from HB9.out (Nat.le_refl _) hB7)); clear hB7)
        refine bodyPost_ret (results_ct rfl _ _ w.heap.size 30 #[.int .i64 0, .int .i64 0] (0, 0) _ rfl (HPR7.out.set2 0 0) Try.underlying30 rfl (by kernel_rfl)) rfl ?_
        exact ⟨rfl, below_set2 HB7.out (Nat.le_refl _)⟩
      · have hrt := HRT.out
        rw [d2] at hrt
        clear d2
        go_wp2_with (go_at_call 9; refine (hrt _).mono ?_; rintro e w7 ⟨rfl, hB7⟩; (have HPR7 := Aside0.mk (HPR9.out.below hB7)); obtain ⟨z0, z1, k0, k1⟩ := HPR7.out.cells; obtain ⟨y0, y1, _, _⟩ := (HPP.out.below hB7).cells; (have HB7 := Aside0.mk (below_from HB9.out (Nat.le_refl _) hB7)); clear hB7)
        refine bodyPost_ret (results_ct rfl _ _ w.heap.size 30 #[.int .i64 q1, .int .i64 (x - 1)] (0, 0) _ rfl (HPR7.out.set2 q1 (x - 1)) Try.underlying30 rfl (by kernel_rfl)) rfl ?_
        exact ⟨rfl, below_set2 HB7.out (Nat.le_refl _)⟩
end Go.Proofs.Ytjbddcaamefgaaa.Vote
