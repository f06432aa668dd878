/- The laws of layer 15: from where the log is replayed, the bytes, which slot counts. -/
import Derived.Test.YtbpnigldojpapaaPointsNext
import Derived.Test.YtbpnigldojpapaaPrx0
namespace Go.Proofs.Ytbpnigldojpapaa.Points
open Go.RowKit Go.Proofs.YtbpnigldojpapaaW.PrintWords Go.Proofs.YtbpnigldojpapaaW.PrintLast Go.Proofs.YtbpnigldojpapaaW.PrintMore Go.Proofs.Ytbpnigldojpapaa.Wire Go.Proofs.Ytbpnigldojpapaa.Crc Go.Proofs.Ytbpnigldojpapaa.Pr
open Go.Proofs.Ytbpnigldojpapaa.Back (AllB numB numB_small)
attribute [local go_sem] min2_int min_two
set_option linter.unusedVariables false
set_option linter.unusedSimpArgs false
def redoL (last : Int) : Int → List Int → Int × Int
  | m, [] => (m, 0)
  | m, f :: fs => if 1 ≤ f ∧ f ≤ last then redoL last (if f < m then f else m) fs else (0, 1)
/-- From where the log must be replayed, or why not. -/
def redoF (last : Int) (fs : List Int) : Int × Int := if 0 ≤ last ∧ last < 1099511627776 then redoL last (last + 1) fs else (0, 1)
def RedoIn (w : World) (last : Int) (fs : List Int) (v6 v19 : Value) (wr : World) : Prop :=
  ∃ (k : Nat) (m : Int), k ≤ fs.length ∧ v19 = .int .i64 k ∧ v6 = .int .i64 m ∧ Aside0 (redoL last m (fs.drop k) = redoL last (last + 1) fs) ∧ Aside0 (Below w.heap.size w wr)
set_option maxRecDepth 100000 in
set_option maxHeartbeats 4000000 in
theorem redo_ok (A : Option Addr) (c : Nat) (l : List S25) (last : Int) (w : World) (hr : Kd.C k25 w A l.length l) (hl : l.length ≤ 8796093022208) :
    Calls Try.prog 7 #[.slice A l.length c, .int .i64 last] w fun e w' => e = .returned (.tuple #[.int .i64 (redoF last (l.map (·.f1))).1, .int .i64 (redoF last (l.map (·.f1))).2]) ∧ Below w.heap.size w w' := by
  unfold redoF
  by_cases hla : 0 ≤ last ∧ last < 1099511627776
  · rw [if_pos hla]
    have d1 : decide (last < 0) = false := decide_eq_false (by omega)
    have d2 : decide (last ≥ 1099511627776) = false := decide_eq_false (by omega)
    have hw1 : IntKind.i64.wrap (last + 1) = last + 1 := by rw [IntKind.wrap_i64]; omega
    have HR := Aside0.mk hr
    have HL := Aside0.mk hl
    have HLA := Aside0.mk hla
    clear hr hl hla
    go_enter Try.func7, Try.ntmps7
    go_wp2
    go_loopw [6, 19] (fun v6 v19 wr => RedoIn w last (l.map (·.f1)) v6 v19 wr) (fun _ v19 _ => l.length - (intOf v19).toNat)
    case atStart => exact ⟨0, last + 1, by omega, rfl, rfl, ⟨rfl⟩, ⟨Below.refl _ _⟩⟩
    case round =>
      obtain ⟨k, m, hk, rfl, rfl, HT, HB⟩ := hrel
      rw [List.length_map] at hk
      by_cases hlt : k < l.length
      · have hltI : (k : Int) < (l.length : Int) := by omega
        have hk0 : (0 : Int) ≤ (k : Int) := by omega
        have hkm : (k : Int) < 140737488355328 := by have := HL.out; omega
        obtain ⟨ad, rfl, hx0, hx1⟩ := at_T25 (Kd.C_below HR.out HB.out) (k : Int) hk0 hltI
        have hdr : (l.map (·.f1)).drop k = (rd_T25 l (k : Int)).f1 :: (l.map (·.f1)).drop (k + 1) := by
          rw [List.drop_eq_getElem_cons (by rw [List.length_map]; exact hlt)]
          simp [rd_T25, List.getD_eq_getElem?_getD, hlt]
        rw [Int.toNat_natCast] at hx0 hx1
        generalize rd_T25 l (k : Int) = x at hx0 hx1 hdr
        obtain ⟨x0, x1⟩ := x
        dsimp only at hx0 hx1 hdr
        have ht := HT.out
        rw [hdr, redoL] at ht
        clear hdr
        by_cases hf : 1 ≤ x1 ∧ x1 ≤ last
        · rw [if_pos hf] at ht
          have HT2 := Aside0.mk ht
          have e1 : decide (x1 < 1) = false := decide_eq_false (by omega)
          have e2 : decide (x1 > last) = false := decide_eq_false (by omega)
          clear ht hf
          go_wp2
          exact ⟨⟨k + 1, _, by rw [List.length_map]; omega, by simp, rfl, HT2, ⟨HB.out.alloc HB.out.size _⟩⟩, by simp [intOf]; omega⟩
        · rw [if_neg hf] at ht
          have HT2 := Aside0.mk ht
          by_cases hf1 : x1 < 1
          · have e1 : decide (x1 < 1) = true := decide_eq_true hf1
            clear ht hf hf1
            go_wp2
            go_ret2
            rw [← HT2.out]
            exact ⟨rfl, HB.out.alloc HB.out.size _⟩
          · have e1 : decide (x1 < 1) = false := decide_eq_false hf1
            have e2 : decide (x1 > last) = true := decide_eq_true (by omega)
            clear ht hf hf1
            go_wp2
            go_ret2
            rw [← HT2.out]
            exact ⟨rfl, HB.out.alloc HB.out.size _⟩
      · have hnlt : ¬ (k : Int) < (l.length : Int) := by omega
        have ht := HT.out
        rw [List.drop_eq_nil_of_le (by rw [List.length_map]; omega), redoL] at ht
        have HT2 := Aside0.mk ht
        clear ht
        go_wp2
        go_ret2
        rw [← HT2.out]
        exact ⟨rfl, HB.out⟩
  · rw [if_neg hla]
    by_cases h1 : last < 0
    · have d1 : decide (last < 0) = true := decide_eq_true h1
      clear hr hl hla h1
      go_enter Try.func7, Try.ntmps7
      go_wp2
      go_ret2
      exact ⟨rfl, Below.refl _ _⟩
    · have d1 : decide (last < 0) = false := decide_eq_false h1
      have d2 : decide (last ≥ 1099511627776) = true := decide_eq_true (by omega)
      clear hr hl hla h1
      go_enter Try.func7, Try.ntmps7
      go_wp2
      go_ret2
      exact ⟨rfl, Below.refl _ _⟩
set_option maxRecDepth 100000 in
set_option maxHeartbeats 4000000 in
theorem refredo_ok (A : Option Addr) (c : Nat) (l : List Int) (last : Int) (w : World) (hr : Kd.C (Kd.int .i64) w A l.length l) (hl : l.length ≤ 8796093022208) :
    Calls Try.prog 8 #[.slice A l.length c, .int .i64 last] w fun e w' => e = .returned (.tuple #[.int .i64 (redoF last l).1, .int .i64 (redoF last l).2]) ∧ Below w.heap.size w w' := by
  unfold redoF
  by_cases hla : 0 ≤ last ∧ last < 1099511627776
  · rw [if_pos hla]
    have d1 : decide (last < 0) = false := decide_eq_false (by omega)
    have d2 : decide (last ≥ 1099511627776) = false := decide_eq_false (by omega)
    have hw1 : IntKind.i64.wrap (last + 1) = last + 1 := by rw [IntKind.wrap_i64]; omega
    have HR := Aside0.mk hr
    have HL := Aside0.mk hl
    have HLA := Aside0.mk hla
    clear hr hl hla
    go_enter Try.func8, Try.ntmps8
    go_wp2
    go_loopw [6, 19] (fun v6 v19 wr => RedoIn w last l v6 v19 wr) (fun _ v19 _ => l.length - (intOf v19).toNat)
    case atStart => exact ⟨0, last + 1, by omega, rfl, rfl, ⟨rfl⟩, ⟨Below.refl _ _⟩⟩
    case round =>
      obtain ⟨k, m, hk, rfl, rfl, HT, HB⟩ := hrel
      skip
      by_cases hlt : k < l.length
      · have hltI : (k : Int) < (l.length : Int) := by omega
        have hk0 : (0 : Int) ≤ (k : Int) := by omega
        have hkm : (k : Int) < 140737488355328 := by have := HL.out; omega
        obtain ⟨ad, rfl, hx1⟩ := Kd.at_int (Kd.C_below HR.out HB.out) (k : Int) hk0 hltI
        have hdr : l.drop k = (rd l (k : Int)) :: l.drop (k + 1) := by
          rw [List.drop_eq_getElem_cons (hlt)]
          simp [rd, List.getD_eq_getElem?_getD, hlt]
        rw [Int.toNat_natCast] at hx1
        generalize rd l (k : Int) = x1 at hx1 hdr
        have ht := HT.out
        rw [hdr, redoL] at ht
        clear hdr
        by_cases hf : 1 ≤ x1 ∧ x1 ≤ last
        · rw [if_pos hf] at ht
          have e1 : decide (x1 < 1) = false := decide_eq_false (by omega)
          have e2 : decide (x1 > last) = false := decide_eq_false (by omega)
          by_cases h3 : x1 < m
          · rw [if_pos h3] at ht
            have HT2 := Aside0.mk ht
            have e3 : decide (x1 < m) = true := decide_eq_true h3
            clear ht hf h3
            go_wp2
            exact ⟨⟨k + 1, _, by omega, by simp, rfl, HT2, HB⟩, by simp [intOf]; omega⟩
          · rw [if_neg h3] at ht
            have HT2 := Aside0.mk ht
            have e3 : decide (x1 < m) = false := decide_eq_false h3
            clear ht hf h3
            go_wp2
            exact ⟨⟨k + 1, _, by omega, by simp, rfl, HT2, HB⟩, by simp [intOf]; omega⟩
        · rw [if_neg hf] at ht
          have HT2 := Aside0.mk ht
          by_cases hf1 : x1 < 1
          · have e1 : decide (x1 < 1) = true := decide_eq_true hf1
            clear ht hf hf1
            go_wp2
            go_ret2
            rw [← HT2.out]
            exact ⟨rfl, HB.out⟩
          · have e1 : decide (x1 < 1) = false := decide_eq_false hf1
            have e2 : decide (x1 > last) = true := decide_eq_true (by omega)
            clear ht hf hf1
            go_wp2
            go_ret2
            rw [← HT2.out]
            exact ⟨rfl, HB.out⟩
      · have hnlt : ¬ (k : Int) < (l.length : Int) := by omega
        have ht := HT.out
        rw [List.drop_eq_nil_of_le (by omega), redoL] at ht
        have HT2 := Aside0.mk ht
        clear ht
        go_wp2
        go_ret2
        rw [← HT2.out]
        exact ⟨rfl, HB.out⟩
  · rw [if_neg hla]
    by_cases h1 : last < 0
    · have d1 : decide (last < 0) = true := decide_eq_true h1
      clear hr hl hla h1
      go_enter Try.func8, Try.ntmps8
      go_wp2
      go_ret2
      exact ⟨rfl, Below.refl _ _⟩
    · have d1 : decide (last < 0) = false := decide_eq_false h1
      have d2 : decide (last ≥ 1099511627776) = true := decide_eq_true (by omega)
      clear hr hl hla h1
      go_enter Try.func8, Try.ntmps8
      go_wp2
      go_ret2
      exact ⟨rfl, Below.refl _ _⟩
theorem same_ok (x y z x' y' z' : Int) (w : World) : Calls Try.prog 15 #[.agg #[.int .i64 x, .int .i64 y, .int .i64 z], .agg #[.int .i64 x', .int .i64 y', .int .i64 z']] w fun e w' => e = .returned (.bool (x == x' && y == y' && z == z')) ∧ Below w.heap.size w w' := by
  have hd : (x == x') = false ∨ ((x == x') = true ∧ (y == y') = false) ∨ ((x == x') = true ∧ (y == y') = true) := by
    rcases (x == x') <;> rcases (y == y') <;> simp
  rcases hd with d1 | ⟨d1, d2⟩ | ⟨d1, d2⟩
  · rw [d1]
    go_enter Try.func15, Try.ntmps15
    go_wp2
    go_ret
    exact ⟨rfl, below_alloc (below_alloc (Below.refl _ _) _) _⟩
  · rw [d1, d2]
    go_enter Try.func15, Try.ntmps15
    go_wp2
    go_ret
    exact ⟨rfl, below_alloc (below_alloc (Below.refl _ _) _) _⟩
  · rw [d1, d2]
    go_enter Try.func15, Try.ntmps15
    go_wp2
    go_ret
    exact ⟨rfl, below_alloc (below_alloc (Below.refl _ _) _) _⟩
theorem lawref_ok (x y z : Int) (w : World) : Calls Try.prog 12 #[.agg #[.int .i64 x, .int .i64 y, .int .i64 z]] w fun e w' => e = .returned (.agg #[.int .i64 x, .int .i64 y, .int .i64 z]) ∧ Below w.heap.size w w' := by
  have hsz : (w.alloc (.cells #[.int .i64 x, .int .i64 y, .int .i64 z] 34)).heap.size = w.heap.size + 1 := by
    show (w.heap.push _).size = _
    simp
  have hq : PtAt 40 ((w.alloc (.cells #[.int .i64 x, .int .i64 y, .int .i64 z] 34)).alloc (.cells #[.int .i64 x, .int .i64 y, .int .i64 z] 40)) (w.heap.size + 1) x y z := by rw [← hsz]; exact blk_new _ _
  have HQ := Aside0.mk hq
  clear hq hsz
  go_enter Try.func12, Try.ntmps12
  go_wp2
  refine bodyPost_ret (results_cell_row rfl _ _ (w.heap.size + 1) 40 #[.int .i64 x, .int .i64 y, .int .i64 z] (0, 0) _ rfl HQ.out Try.underlying40 rfl (by kernel_rfl)) rfl ?_
  exact ⟨rfl, below_alloc (below_alloc (Below.refl _ _) _) _⟩
def bs1 : List Int := encB 1 9 4 ++ le (sumOf (encB 1 9 4) : Int) 4
def bs2 : List Int := encB 2 9 10 ++ le (sumOf (encB 2 9 10) : Int) 4
theorem bs1_AllB : AllB bs1 := AllB_app (encB_AllB _ _ _) (le_AllB' _ _)
theorem bs2_AllB : AllB bs2 := AllB_app (encB_AllB _ _ _) (le_AllB' _ _)
theorem bs1_len : bs1.length = 28 := by decide +kernel
theorem bs2_len : bs2.length = 28 := by decide +kernel
theorem next1 : nextF (decF []) (decF []) 9 4 = ((1, 9, 4), 0, bs1, 0) := by decide +kernel
theorem next2 : nextF (decF bs1) (decF []) 9 10 = ((2, 9, 10), 1, bs2, 0) := by decide +kernel
theorem choose2 : chooseD (decF bs1) (decF bs2) = ((2, 9, 10), 1, 0) := by decide +kernel
theorem redo1 : redoF 9 ([(⟨1, 7⟩ : S25), ⟨2, 4⟩].map (·.f1)) = (4, 0) := by decide +kernel
theorem dirty_lit (w : World) : Kd.C k25 (w.alloc (.cells #[.int .i64 1, .int .i64 7, .int .i64 2, .int .i64 4] 25)) (some ⟨w.heap.size, 0, none⟩) 2 [(⟨1, 7⟩ : S25), ⟨2, 4⟩] := by
  refine ⟨rfl, by decide, fun _ => ⟨_, rfl, fun j p hj => ?_⟩⟩
  have hc : ∀ i, (w.alloc (.cells #[.int .i64 1, .int .i64 7, .int .i64 2, .int .i64 4] 25)).cell? ⟨w.heap.size, i, none⟩ = (#[Value.int .i64 1, .int .i64 7, .int .i64 2, .int .i64 4] : Array Value)[i]? := fun i => World.cell?_alloc_mark _ _ _ _ _
  match j, hj with
  | 0, hj =>
    obtain rfl : (⟨1, 7⟩ : S25) = p := by simpa using hj
    refine ⟨_, rfl, k25_mk _ _, fun i u hu => ?_⟩
    match i, hu with
    | 0, hu => rw [← hu]; exact hc 0
    | 1, hu => rw [← hu]; exact hc 1
  | 1, hj =>
    obtain rfl : (⟨2, 4⟩ : S25) = p := by simpa using hj
    refine ⟨_, rfl, k25_mk _ _, fun i u hu => ?_⟩
    match i, hu with
    | 0, hu => rw [← hu]; exact hc 2
    | 1, hu => rw [← hu]; exact hc 3
set_option maxRecDepth 100000 in
set_option maxHeartbeats 8000000 in
theorem speaks_ok (w : World) : Calls Try.prog 9 #[] w fun e w' => e = .returned (.bool true) ∧ Below w.heap.size w w' := by
  have hnil : ∀ W : World, Kd.C (Kd.int .u8) W none ([] : List Int).length [] := fun W => Kd.C_nil _ _
  have hred := redo_ok (some ⟨w.heap.size, 0, none⟩) 2 [(⟨1, 7⟩ : S25), ⟨2, 4⟩] 9 (w.alloc (.cells #[.int .i64 1, .int .i64 7, .int .i64 2, .int .i64 4] 25)) (dirty_lit w) (by decide)
  rw [redo1] at hred
  have hn1 := fun W => next_ok none 0 [] none 0 [] 0 9 4 W (hnil W) (Nat.le_refl _) (fun x hx => by simp at hx) (by decide) (hnil W) (Nat.le_refl _) (fun x hx => by simp at hx) (by decide)
  rw [next1] at hn1
  have hn2 := fun (A : Option Addr) (c : Nat) (W : World) (h : Kd.C (Kd.int .u8) W A bs1.length bs1) (hc : bs1.length ≤ c) => next_ok A c bs1 none 0 [] 0 9 10 W h hc bs1_AllB (by rw [bs1_len]; decide) (hnil W) (Nat.le_refl _) (fun x hx => by simp at hx) (by decide)
  rw [next2] at hn2
  have hch := fun (A : Option Addr) (c : Nat) (B : Option Addr) (d : Nat) (W : World) (h : Kd.C (Kd.int .u8) W A bs1.length bs1) (hc : bs1.length ≤ c) (h' : Kd.C (Kd.int .u8) W B bs2.length bs2) (hd : bs2.length ≤ d) => choose_ok A c bs1 B d bs2 W h hc bs1_AllB (by rw [bs1_len]; decide) h' hd bs2_AllB (by rw [bs2_len]; decide)
  rw [choose2] at hch
  generalize bs1 = b1 at hn1 hn2 hch
  generalize bs2 = b2 at hn2 hch
  have HN1 := Aside0.mk hn1
  have HN2 := Aside0.mk hn2
  have HCH := Aside0.mk hch
  have HB0 := Aside0.mk (below_alloc (Below.refl w.heap.size w) (.cells #[.int .i64 1, .int .i64 7, .int .i64 2, .int .i64 4] 25))
  clear hn1 hn2 hch hnil
  go_enter Try.func9, Try.ntmps9
  go_wp2_with (first
    | (go_at_call 7; refine hred.mono ?_; rintro e w1 ⟨rfl, hB1⟩; (have HB1 := Aside0.mk (below_from HB0.out (Nat.le_refl _) hB1)); (have hn1 := HN1.out w1); clear hB1 hred)
    | (go_at_call 18; refine hn1.mono ?_; rintro e w2 ⟨u2, rfl, hR2, hB2⟩; obtain ⟨A2, c2, rfl, hc2, hC2⟩ := Kd.R_reads hR2; (have HP2 := Aside0.mk (show PtAt 34 (w2.alloc (.cells #[.int .i64 1, .int .i64 9, .int .i64 4] 34)) w2.heap.size 1 9 4 from blk_new _ _)); (have HB2 := Aside0.mk ((below_from HB1.out (Nat.le_refl _) hB2).alloc (below_from HB1.out (Nat.le_refl _) hB2).size (.cells #[.int .i64 1, .int .i64 9, .int .i64 4] 34))); (have HC2 := Aside0.mk (Kd.C_below hC2 (below_alloc (Below.refl _ _) (.cells #[.int .i64 1, .int .i64 9, .int .i64 4] 34)))); (have HL2 := Aside0.mk hc2); (have hn2 := HN2.out A2 c2 _ HC2.out hc2); clear hB2 hR2 hC2 hc2 hn1)
    | (go_at_call 18; refine hn2.mono ?_; rintro e w3 ⟨u3, rfl, hR3, hB3⟩; obtain ⟨A3, c3, rfl, hc3, hC3⟩ := Kd.R_reads hR3; (have HP3 := Aside0.mk ((HP2.out.below hB3).below (below_alloc (Below.refl _ _) (.cells #[.int .i64 2, .int .i64 9, .int .i64 10] 34)))); (have HQ3 := Aside0.mk (show PtAt 34 (w3.alloc (.cells #[.int .i64 2, .int .i64 9, .int .i64 10] 34)) w3.heap.size 2 9 10 from blk_new _ _)); (have HB3 := Aside0.mk ((below_from HB2.out (Nat.le_refl _) hB3).alloc (below_from HB2.out (Nat.le_refl _) hB3).size (.cells #[.int .i64 2, .int .i64 9, .int .i64 10] 34))); (have HC23 := Aside0.mk (Kd.C_below (Kd.C_below HC2.out hB3) (below_alloc (Below.refl _ _) (.cells #[.int .i64 2, .int .i64 9, .int .i64 10] 34)))); (have HC33 := Aside0.mk (Kd.C_below hC3 (below_alloc (Below.refl _ _) (.cells #[.int .i64 2, .int .i64 9, .int .i64 10] 34)))); (have hch := HCH.out A2 c2 A3 c3 _ HC23.out HL2.out HC33.out hc3); clear hB3 hR3 hC3 hc3 hn2)
    | (go_at_call 16; refine hch.mono ?_; rintro e w4 ⟨rfl, hB4⟩; (have HP4 := Aside0.mk (HP3.out.below hB4)); (have HQ4 := Aside0.mk (HQ3.out.below hB4)); obtain ⟨p0, p1, p2, _, _, _⟩ := HP4.out.cells; obtain ⟨q0, q1, q2, _, _, _⟩ := HQ4.out.cells; (have l1 := blk_lt HP4.out); (have l2 := blk_lt HQ4.out); (have HB4 := Aside0.mk (below_from HB3.out (Nat.le_refl _) hB4)); clear hB4 hch))
  go_ret
  exact ⟨rfl, HB4.out.alloc HB4.out.size _⟩
set_option maxRecDepth 100000 in
set_option maxHeartbeats 8000000 in
theorem codes_ok (x y z : Int) (A : Option Addr) (c : Nat) (xs : List Int) (w : World) (hr : Kd.C (Kd.int .u8) w A xs.length xs) (hc : xs.length ≤ c) (hb : AllB xs) (hl : xs.length ≤ 140737488351232) (hz : z < 9223372036854775808) :
    Calls Try.prog 4 #[.agg #[.int .i64 x, .int .i64 y, .int .i64 z], .slice A xs.length c] w fun e w' => e = .returned (.bool true) ∧ Below w.heap.size w w' := by
  have hen := encode_ok x y z
  have hrn := fun W => refencode_ok x y z W hz
  have hde := fun W (hB : Below w.heap.size w W) => decode_ok A c xs W (Kd.C_below hr hB) hc hb (by omega)
  have hrd := fun W (hB : Below w.heap.size w W) => refdecode_ok A c xs W (Kd.C_below hr hB) hc hb (by omega)
  generalize encF x y z = E at hen hrn
  generalize decF xs = D at hde hrd
  obtain ⟨ys, ee⟩ := E
  obtain ⟨⟨q0, q1, q2⟩, de⟩ := D
  dsimp only at hen hrn hde hrd
  have hna : xs.length ≤ 9223372036854775807 := hr.2.1
  obtain ⟨sy, hsy⟩ : ∃ s, s = strOfNums ys := ⟨_, rfl⟩
  have hcvy : ∀ (A : Option Addr) (c : Nat) (W : World), Kd.C (Kd.int .u8) W A ys.length ys → (convert 35 9 (.slice A ys.length c)).run Try.prog W = .ok (.string sy) W := by
    intro A c W h
    rw [hsy]
    exact Kd.C_string Try.underlying35 Try.underlying5 Try.underlying9 h
  have HX0 : Aside0 (PtAt 34 (w.alloc (.cells #[.int .i64 x, .int .i64 y, .int .i64 z] 34)) w.heap.size x y z) := ⟨blk_new _ _⟩
  have HB0 := Aside0.mk (below_alloc (Below.refl w.heap.size w) (.cells #[.int .i64 x, .int .i64 y, .int .i64 z] 34))
  have HRN := Aside0.mk hrn
  have HDE := Aside0.mk hde
  have HRD := Aside0.mk hrd
  have HCVY := Aside0.mk hcvy
  clear hrn hde hrd hcvy hsy hr hc hb hl hz
  go_enter Try.func4, Try.ntmps4
  go_wp2_with (first
    | (go_at_call 10; refine (hen _).mono ?_; rintro e w2 ⟨u2, rfl, hR2, hB2⟩; obtain ⟨A2, c2, rfl, hc2, hC2⟩ := Kd.R_reads hR2; (have HC2 := Aside0.mk hC2); (have HX2 := Aside0.mk (HX0.out.below hB2)); obtain ⟨b0, b1, b2, _, _, _⟩ := HX2.out.cells; (have HB2 := Aside0.mk (below_from HB0.out (Nat.le_refl _) hB2)); clear hB2 hR2 hC2 hc2 hen)
    | (go_at_call 12; refine (lawref_ok x y z _).mono ?_; rintro e w3 ⟨rfl, hB3⟩; (have HC3 := Aside0.mk (Kd.C_below HC2.out hB3)); (have HB3 := Aside0.mk (below_from HB2.out (Nat.le_refl _) hB3)); (have hrn := HRN.out w3); clear hB3 b0 b1 b2)
    | (go_at_call 11; refine hrn.mono ?_; rintro e w4 ⟨u4, rfl, hR4, hB4⟩; obtain ⟨A4, c4, rfl, hc4, hC4⟩ := Kd.R_reads hR4; (have HC24 := Aside0.mk (Kd.C_below HC3.out hB4)); (have HC4 := Aside0.mk hC4); (have HB4 := Aside0.mk (below_from HB3.out (Nat.le_refl _) hB4)); (have hde := HDE.out w4 HB4.out); clear hB4 hR4 hC4 hc4 hrn)
    | (go_at_call 13; refine hde.mono ?_; rintro e w5 ⟨rfl, hB5⟩; (have HP5 := Aside0.mk (show PtAt 34 (w5.alloc (.cells #[.int .i64 q0, .int .i64 q1, .int .i64 q2] 34)) w5.heap.size q0 q1 q2 from blk_new _ _)); (have HC25 := Aside0.mk (Kd.C_below (Kd.C_below HC24.out hB5) (below_alloc (Below.refl _ _) (.cells #[.int .i64 q0, .int .i64 q1, .int .i64 q2] 34)))); (have HC45 := Aside0.mk (Kd.C_below (Kd.C_below HC4.out hB5) (below_alloc (Below.refl _ _) (.cells #[.int .i64 q0, .int .i64 q1, .int .i64 q2] 34)))); (have HB5 := Aside0.mk ((below_from HB4.out (Nat.le_refl _) hB5).alloc (below_from HB4.out (Nat.le_refl _) hB5).size (.cells #[.int .i64 q0, .int .i64 q1, .int .i64 q2] 34))); (have hrd := HRD.out _ HB5.out); clear hB5 hde)
    | (go_at_call 14; refine hrd.mono ?_; rintro e w6 ⟨rfl, hB6⟩; (have HP6 := Aside0.mk ((HP5.out.below hB6).below (below_alloc (Below.refl _ _) (.cells #[.int .i64 q0, .int .i64 q1, .int .i64 q2] 40)))); (have hq2 := HCVY.out A2 c2 _ (Kd.C_below (Kd.C_below HC25.out hB6) (below_alloc (Below.refl _ _) (.cells #[.int .i64 q0, .int .i64 q1, .int .i64 q2] 40)))); (have hq4 := HCVY.out A4 c4 _ (Kd.C_below (Kd.C_below HC45.out hB6) (below_alloc (Below.refl _ _) (.cells #[.int .i64 q0, .int .i64 q1, .int .i64 q2] 40)))); obtain ⟨p0, p1, p2, _, _, _⟩ := HP6.out.cells; (have l1 := blk_lt (HP5.out.below hB6)); (have HB6 := Aside0.mk ((below_from HB5.out (Nat.le_refl _) hB6).alloc (below_from HB5.out (Nat.le_refl _) hB6).size (.cells #[.int .i64 q0, .int .i64 q1, .int .i64 q2] 40))); clear hB6 hrd)
    | (go_at_call 15; refine (same_ok q0 q1 q2 q0 q1 q2 _).mono ?_; rintro e w7 ⟨rfl, hB7⟩; (have HB7 := Aside0.mk (below_from HB6.out (Nat.le_refl _) hB7)); simp only [beq_self_eq_true, Bool.and_true]; clear hB7 hq2 hq4)
    | (go_at_call 9; refine (speaks_ok _).mono ?_; rintro e w8 ⟨rfl, hB8⟩; (have HB8 := Aside0.mk (below_from HB7.out (Nat.le_refl _) hB8)); clear hB8))
  go_ret
  exact ⟨rfl, HB8.out⟩
end Go.Proofs.Ytbpnigldojpapaa.Points
