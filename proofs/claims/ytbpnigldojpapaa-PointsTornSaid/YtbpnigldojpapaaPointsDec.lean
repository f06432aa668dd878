/- Which bytes hold a checkpoint: package points' answer and the document's. -/
import Derived.Test.YtbpnigldojpapaaPoints
namespace Go.Proofs.Ytbpnigldojpapaa.Points
open Go.RowKit Go.Proofs.YtbpnigldojpapaaW.PrintWords Go.Proofs.YtbpnigldojpapaaW.PrintLast Go.Proofs.YtbpnigldojpapaaW.PrintMore Go.Proofs.Ytbpnigldojpapaa.Wire Go.Proofs.Ytbpnigldojpapaa.Crc
open Go.Proofs.Ytbpnigldojpapaa.Back (AllB numB numB_small)
set_option linter.unusedVariables false
set_option linter.unusedSimpArgs false
theorem rdNum_sub {xs : List Int} {wrong size : Int} {T : (Int × Int) × (List Int × Int)} (h : rdNum xs wrong size = T) : ∃ m, T.2.1 = xs.drop m := by
  subst h
  unfold rdNum
  split
  · exact ⟨0, rfl⟩
  · split
    · exact ⟨0, rfl⟩
    · split
      · exact ⟨0, rfl⟩
      · split
        · exact ⟨0, rfl⟩
        · exact ⟨_, rfl⟩
theorem rdNum_good {xs : List Int} {wrong : Int} (h : (rdNum xs wrong 8).2.2 = 0) : wrong = 0 ∧ (rdNum xs wrong 8).2.1 = xs.drop 8 := by
  unfold rdNum at h ⊢
  rw [if_neg (by decide)] at h ⊢
  split at h
  · rename_i hw
    exact absurd h hw
  · split at h
    · cases h
    · split at h
      · cases h
      · rename_i h1 h2 h3
        rw [if_neg h1, if_neg h2, if_neg h3]
        exact ⟨by simpa using h1, rfl⟩
theorem rdNum_lt {xs : List Int} {wrong : Int} (hb : AllB xs) : (rdNum xs wrong 8).1.1 < 9223372036854775808 := by
  unfold rdNum
  rw [if_neg (by decide)]
  split
  · show (0 : Int) < _
    omega
  · split
    · show (0 : Int) < _
      omega
    · split
      · show (0 : Int) < _
        omega
      · show numB (xs.take 8) < _
        have hbt : AllB (xs.take 8) := fun x hx => hb x (List.mem_of_mem_take hx)
        rw [Back.numB_wrap hbt (by rw [List.length_take]; omega), IntKind.wrap_i64]
        omega
/-- The three numbers of a checkpoint's 24 bytes. -/
def decV (R1 R2 R3 : (Int × Int) × (List Int × Int)) : (Int × Int × Int) × Int :=
  if R3.2.2 = 0 ∧ okPt R1.1.1 R2.1.1 R3.1.1 = true then ((R1.1.1, R2.1.1, R3.1.1), 0) else ((0, 0, 0), 4)
def decY (ys : List Int) : (Int × Int × Int) × Int :=
  decV (rdNum ys 0 8) (rdNum (rdNum ys 0 8).2.1 (rdNum ys 0 8).2.2 8) (rdNum (rdNum (rdNum ys 0 8).2.1 (rdNum ys 0 8).2.2 8).2.1 (rdNum (rdNum ys 0 8).2.1 (rdNum ys 0 8).2.2 8).2.2 8)
/-- The checkpoint that bytes are, or why none. -/
def decF (xs : List Int) : (Int × Int × Int) × Int :=
  if xs.length < 28 then ((0, 0, 0), 10) else if (opOf (xs.take 28)).2 ≠ 0 then ((0, 0, 0), 20) else decY (xs.take 24)
theorem op_two {xs : List Int} (h : 28 ≤ xs.length) : ((opOf (xs.take 28)).2 = 20 ∧ (opOf (xs.take 28)).1 = []) ∨ ((opOf (xs.take 28)).2 = 0 ∧ (opOf (xs.take 28)).1 = xs.take 24) := by
  have hl : (xs.take 28).length = 28 := by rw [List.length_take]; omega
  unfold opOf
  rw [hl, if_neg (by omega)]
  split
  · exact .inl ⟨rfl, rfl⟩
  · refine .inr ⟨rfl, ?_⟩
    show (xs.take 28).take (28 - 4) = _
    rw [List.take_take]
    rfl
theorem dec_facts {ys : List Int} (hl : ys.length = 24) (hb : AllB ys) : ∃ R1 R2 R3, R1 = rdNum ys 0 8 ∧ R2 = rdNum R1.2.1 R1.2.2 8 ∧ R3 = rdNum R2.2.1 R2.2.2 8 ∧ decY ys = decV R1 R2 R3 ∧ R1.2.1.length ≤ 24 ∧ R2.2.1.length ≤ 24 ∧ AllB R1.2.1 ∧ AllB R2.2.1 ∧ R1.1.1 < 9223372036854775808 ∧ R2.1.1 < 9223372036854775808 ∧ R3.1.1 < 9223372036854775808 ∧ rdEnd R3.2.1 R3.2.2 = R3.2.2 := by
  obtain ⟨m1, h1⟩ := rdNum_sub (xs := ys) (wrong := 0) (size := 8) rfl
  obtain ⟨R1, hR1⟩ : ∃ R, R = rdNum ys 0 8 := ⟨_, rfl⟩
  rw [← hR1] at h1
  obtain ⟨m2, h2⟩ := rdNum_sub (xs := R1.2.1) (wrong := R1.2.2) (size := 8) rfl
  obtain ⟨R2, hR2⟩ : ∃ R, R = rdNum R1.2.1 R1.2.2 8 := ⟨_, rfl⟩
  rw [← hR2] at h2
  obtain ⟨R3, hR3⟩ : ∃ R, R = rdNum R2.2.1 R2.2.2 8 := ⟨_, rfl⟩
  have hb1 : AllB R1.2.1 := by rw [h1]; exact fun x hx => hb x (List.mem_of_mem_drop hx)
  have hb2 : AllB R2.2.1 := by rw [h2]; exact fun x hx => hb1 x (List.mem_of_mem_drop hx)
  have hl1 : R1.2.1.length ≤ 24 := by rw [h1, List.length_drop]; omega
  have hl2 : R2.2.1.length ≤ 24 := by rw [h2, List.length_drop]; omega
  refine ⟨R1, R2, R3, hR1, hR2, hR3, ?_, hl1, hl2, hb1, hb2, ?_, ?_, ?_, ?_⟩
  · unfold decY
    rw [← hR1, ← hR2, ← hR3]
  · rw [hR1]; exact rdNum_lt hb
  · rw [hR2]; exact rdNum_lt hb1
  · rw [hR3]; exact rdNum_lt hb2
  · unfold rdEnd
    by_cases hw : R3.2.2 = 0
    · have hz := hw
      rw [hR3] at hz
      obtain ⟨e1, e2⟩ := rdNum_good hz
      rw [hR2] at e1
      obtain ⟨e3, e4⟩ := rdNum_good e1
      rw [← hR3] at e2
      rw [← hR2] at e4
      rw [hR1] at e3
      obtain ⟨e5, e6⟩ := rdNum_good e3
      rw [← hR1] at e6
      rw [if_neg (by simp [hw]), if_pos, hw]
      rw [e2, e4, e6, List.drop_drop, List.drop_drop]
      exact List.drop_of_length_le (by omega)
    · rw [if_pos hw]
def DecIn (w : World) (b g ga : Nat) (ys : List Int) (R1 R2 R3 : (Int × Int) × (List Int × Int)) (v : Value) (wr : World) : Prop :=
  ∃ (i : Nat) (x y z : Int) (xs : List Int) (wg : Int), i ≤ 3 ∧ v = .int .i64 i ∧ Aside0 (PtAt 63 wr ga x y z) ∧ Aside0 (RdFrom b wr g xs wg) ∧ Aside0 (Below w.heap.size w wr) ∧ Aside0 (b ≤ wr.heap.size) ∧ Aside0 (PtAt 34 wr w.heap.size 0 0 0) ∧
    ((i = 0 ∧ x = 0 ∧ y = 0 ∧ z = 0 ∧ xs = ys ∧ wg = 0) ∨ (i = 1 ∧ x = R1.1.1 ∧ y = 0 ∧ z = 0 ∧ xs = R1.2.1 ∧ wg = R1.2.2) ∨ (i = 2 ∧ x = R1.1.1 ∧ y = R2.1.1 ∧ z = 0 ∧ xs = R2.2.1 ∧ wg = R2.2.2) ∨ (i = 3 ∧ x = R1.1.1 ∧ y = R2.1.1 ∧ z = R3.1.1 ∧ xs = R3.2.1 ∧ wg = R3.2.2))
theorem PtAt.set {T : TypeId} {w : World} {g : Nat} {n l r : Int} (h : PtAt T w g n l r) (a : Int) : PtAt T (w.setCell ⟨g, 0, none⟩ (.int .i64 a)) g a l r ∧ PtAt T (w.setCell ⟨g, 1, none⟩ (.int .i64 a)) g n a r ∧ PtAt T (w.setCell ⟨g, 2, none⟩ (.int .i64 a)) g n l a := by
  unfold PtAt at *
  exact ⟨blk_put h 0 _ rfl, blk_put h 1 _ rfl, blk_put h 2 _ rfl⟩
theorem PtAt.far {T : TypeId} {w : World} {g : Nat} {n l r : Int} (h : PtAt T w g n l r) {p : Addr} (hp : g ≠ p.block) (u : Value) : PtAt T (w.setCell p u) g n l r := blk_far h hp u
theorem PtAt.set3 {T : TypeId} {w : World} {g : Nat} {n l r : Int} (h : PtAt T w g n l r) (a b c : Int) : PtAt T (((w.setCell ⟨g, 0, none⟩ (.int .i64 a)).setCell ⟨g, 1, none⟩ (.int .i64 b)).setCell ⟨g, 2, none⟩ (.int .i64 c)) g a b c := by
  unfold PtAt at *
  exact blk_put (blk_put (blk_put h 0 _ rfl) 1 _ rfl) 2 _ rfl
theorem PtAt.low {T : TypeId} {w w1 : World} {b g : Nat} {n l r : Int} (h : PtAt T w g n l r) (hB : Below b w w1) (hg : g < b) : PtAt T w1 g n l r := (hB.block g hg).trans h
theorem below_set3 {w W : World} {g : Nat} {a b c : Value} (h : Below w.heap.size w W) (hg : w.heap.size ≤ g) : Below w.heap.size w (((W.setCell ⟨g, 0, none⟩ a).setCell ⟨g, 1, none⟩ b).setCell ⟨g, 2, none⟩ c) := below_set (below_set (below_set h hg) hg) hg
theorem rdfrom_far {b : Nat} {w : World} {g : Nat} {xs : List Int} {wg : Int} (h : RdFrom b w g xs wg) {p : Addr} (hp : p.block < b) (u : Value) : RdFrom b (w.setCell p u) g xs wg := by
  obtain ⟨F, h1, h2⟩ := h
  exact ⟨F, h1.chg (Chg.setCell w p u) (fun k hk e => by have := h2 k hk; have e : k = p.block := e; omega), h2⟩
set_option maxRecDepth 100000 in
set_option maxHeartbeats 8000000 in
theorem decode_ok (A : Option Addr) (c : Nat) (xs : List Int) (w : World) (hr : Kd.C (Kd.int .u8) w A xs.length xs) (hc : xs.length ≤ c) (hb : AllB xs) (hl : xs.length ≤ 140737488355328) :
    Calls Try.prog 13 #[.slice A xs.length c] w fun e w' => e = .returned (.tuple #[.agg #[.int .i64 (decF xs).1.1, .int .i64 (decF xs).1.2.1, .int .i64 (decF xs).1.2.2], .int .i64 (decF xs).2]) ∧ Below w.heap.size w w' := by
  have hp0 : PtAt 34 (w.alloc (.cells #[.int .i64 0, .int .i64 0, .int .i64 0] 34)) w.heap.size 0 0 0 := blk_new _ _
  have HP0 := Aside0.mk hp0
  have HB0 := Aside0.mk (below_alloc (Below.refl w.heap.size w) (.cells #[.int .i64 0, .int .i64 0, .int .i64 0] 34))
  unfold decF
  by_cases h28 : xs.length < 28
  · rw [if_pos h28]
    have d0 : decide ((xs.length : Int) < 28) = true := decide_eq_true (by omega)
    have hlen : xs.length ≤ 9223372036854775807 := hr.2.1
    clear hr hb hp0 hl hc
    go_enter Try.func13, Try.ntmps13
    go_wp2
    refine bodyPost_ret (results_ct rfl _ _ w.heap.size 34 #[.int .i64 0, .int .i64 0, .int .i64 0] (0, 0) _ rfl (blk_new _ _) Try.underlying34 rfl (by kernel_rfl)) rfl ?_
    exact ⟨rfl, HB0.out⟩
  · rw [if_neg h28]
    have d0 : decide ((xs.length : Int) < 28) = false := decide_eq_false (by omega)
    have hml : 28 ≤ xs.length := by omega
    have hCt := Kd.C_take hr hml
    have htl : (xs.take 28).length = 28 := by rw [List.length_take]; omega
    have htb : AllB (xs.take 28) := fun x hx => hb x (List.mem_of_mem_take hx)
    have hcut : ∀ W : World, (Instr.slice 35 (.slice A xs.length c) none (some (.int .i64 28)) none).run Try.prog W = .ok (.slice A 28 c) W := by
      intro W
      exact cut_to (P := Try.prog) 35 5 .i64 Try.underlying35 (info_parts info8).choose_spec.1 A xs.length c 28 (by omega) (by omega) hc W
    have hop := open_ok A c (xs.take 28) (w.alloc (.cells #[.int .i64 0, .int .i64 0, .int .i64 0] 34)) (Kd.C_below hCt (below_alloc (Below.refl _ _) _)) (by omega) htb (by omega)
    rw [htl] at hop
    rcases op_two hml with ⟨h1, h2⟩ | ⟨h1, h2⟩
    · rw [if_pos (by rw [h1]; decide)]
      rw [h1, h2] at hop
      clear hr hb hp0 hl hc hCt htl htb h1 h2 h28
      go_enter Try.func13, Try.ntmps13
      go_wp2_with (go_at_call 28; refine hop.mono ?_; rintro e w2 ⟨u2, rfl, hR2, hB2⟩; obtain ⟨A2, c2, rfl, _, _⟩ := Kd.R_reads hR2; obtain ⟨p0, p1, p2, q0, q1, q2⟩ := (HP0.out.below hB2).cells; (have HP2 := Aside0.mk (HP0.out.below hB2)); (have HB2 := Aside0.mk (below_from HB0.out (Nat.le_refl _) hB2)); clear hR2 hB2 hop)
      refine bodyPost_ret (results_ct rfl _ _ w.heap.size 34 #[.int .i64 0, .int .i64 0, .int .i64 0] (0, 0) _ rfl (HP2.out.set3 0 0 0) Try.underlying34 rfl (by kernel_rfl)) rfl ?_
      exact ⟨rfl, below_set3 HB2.out (Nat.le_refl _)⟩
    · rw [if_neg (by rw [h1]; decide)]
      rw [h1, h2] at hop
      have hyl : (xs.take 24).length = 24 := by rw [List.length_take]; omega
      have hyb : AllB (xs.take 24) := fun x hx => hb x (List.mem_of_mem_take hx)
      obtain ⟨R1, R2, R3, e1, e2, e3, hdec, hl1, hl2, hb1, hb2, hk1, hk2, hk3, hend⟩ := dec_facts hyl hyb
      rw [hdec]
      generalize xs.take 24 = ys at hop hyl e1 hyb
      have HYL := Aside0.mk hyl
      have HE1 := Aside0.mk e1
      have HE2 := Aside0.mk e2
      have HE3 := Aside0.mk e3
      have HL1 := Aside0.mk hl1
      have HL2 := Aside0.mk hl2
      have HEND := Aside0.mk hend
      have hrt := right_ok R1.1.1 R2.1.1 R3.1.1
      clear hr hb hp0 hl hc hCt htl htb h1 h2 h28 hyl hyb hdec e1 e2 e3 hl1 hl2 hb1 hb2 hk1 hk2 hk3 hend
      go_enter Try.func13, Try.ntmps13
      go_wp2_with (first
        | (go_at_call 28; refine hop.mono ?_; rintro e w2 ⟨u2, rfl, hR2, hB2⟩; obtain ⟨A2, c2, rfl, _, hC2⟩ := Kd.R_reads hR2; (have HP2 := Aside0.mk ((HP0.out.below hB2).below (below_alloc (Below.refl _ _) (.cells #[.int .i64 0, .int .i64 0, .int .i64 0] 63)))); (have HPRA := Aside0.mk (blk_lt (HP0.out.below hB2))); (have HB2 := Aside0.mk (below_from HB0.out (Nat.le_refl _) hB2)); (have hof := of_from (c := c2) (Kd.C_below hC2 (below_alloc (Below.refl _ _) (.cells #[.int .i64 0, .int .i64 0, .int .i64 0] 63))) (by have := HYL.out; omega)); clear hR2 hB2 hop hC2)
        | (go_at_call 29; refine hof.mono ?_; rintro e w3 ⟨g3, rfl, hr3, hB3⟩; (have hsz : (w2.alloc (.cells #[.int .i64 0, .int .i64 0, .int .i64 0] 63)).heap.size = w2.heap.size + 1 := by (show (w2.heap.push _).size = _; simp)); (have HPA3 := Aside0.mk (PtAt.below (T := 63) (n := 0) (l := 0) (r := 0) (blk_new w2 _) hB3)); (have HPR3 := Aside0.mk (HP2.out.below hB3)); (have HB3 := Aside0.mk (below_from (HB2.out.alloc HB2.out.size _) (Nat.le_refl _) hB3)); (have HS3 := Aside0.mk hB3.size); rw [hsz] at hr3 HS3; (have HR3 := Aside0.mk hr3); clear hr3 hB3 hof hsz))
      have HGAB : Aside0 (w2.heap.size < w2.heap.size + 1) := ⟨by omega⟩
      have HPRB : Aside0 (w.heap.size < w2.heap.size + 1) := ⟨by have := HPRA.out; omega⟩
      have HGA : Aside0 (w.heap.size ≤ w2.heap.size) := ⟨HB2.out.size⟩
      go_loopw [26] (fun v26 wr => DecIn w (w2.heap.size + 1) g3 w2.heap.size ys R1 R2 R3 v26 wr) (fun v26 _ => 3 - (intOf v26).toNat)
      case atStart => exact ⟨0, _, _, _, _, _, by omega, rfl, HPA3, HR3, HB3, HS3, HPR3, .inl ⟨rfl, rfl, rfl, rfl, rfl, rfl⟩⟩
      case round =>
      obtain ⟨i, x, y, z, xs', wg, hi, rfl, HPA, HRD, HB, HS, HPR, hst⟩ := hrel
      rcases hst with ⟨rfl, rfl, rfl, rfl, rfl, rfl⟩ | ⟨rfl, rfl, rfl, rfl, rfl, rfl⟩ | ⟨rfl, rfl, rfl, rfl, rfl, rfl⟩ | ⟨rfl, rfl, rfl, rfl, rfl, rfl⟩
      · have hnum := rdnum_from 8 HRD.out HS.out (by have := HYL.out; omega)
        rw [← HE1.out] at hnum
        have hpg := HPA.out
        go_wp2_with (go_at_call 30; refine hnum.mono ?_; rintro e w5 ⟨rfl, hr5, hB5⟩; obtain ⟨a0, a1, a2, f0, f1, f2⟩ := (HPA.out.low hB5 HGAB.out).cells; (have HPA5 := Aside0.mk (HPA.out.low hB5 HGAB.out)); (have HPR5 := Aside0.mk (HPR.out.low hB5 HPRB.out)); (have HR5 := Aside0.mk hr5); (have HB5 := Aside0.mk (HB.out.trans (below_le hB5 (Nat.le_of_lt HPRB.out)))); (have HS5 := Aside0.mk (Nat.le_trans HS.out hB5.size)); clear hr5 hB5 hnum)
        refine ⟨⟨1, _, _, _, _, _, by omega, rfl, ⟨(HPA5.out.set _).1⟩, ⟨rdfrom_far HR5.out HGAB.out _⟩, ⟨below_set HB5.out HGA.out⟩, ⟨Nat.le_trans HS5.out (Chg.setCell _ _ _).size⟩, ⟨HPR5.out.far (fun e => by have e : w.heap.size = w2.heap.size := e; have := HPRA.out; omega) _⟩, .inr (.inl ⟨rfl, rfl, rfl, rfl, rfl, rfl⟩)⟩, by decide⟩
      · have hnum := rdnum_from 8 HRD.out HS.out (by have := HL1.out; omega)
        rw [← HE2.out] at hnum
        have hpg := HPA.out
        go_wp2_with (go_at_call 30; refine hnum.mono ?_; rintro e w5 ⟨rfl, hr5, hB5⟩; obtain ⟨a0, a1, a2, f0, f1, f2⟩ := (HPA.out.low hB5 HGAB.out).cells; (have HPA5 := Aside0.mk (HPA.out.low hB5 HGAB.out)); (have HPR5 := Aside0.mk (HPR.out.low hB5 HPRB.out)); (have HR5 := Aside0.mk hr5); (have HB5 := Aside0.mk (HB.out.trans (below_le hB5 (Nat.le_of_lt HPRB.out)))); (have HS5 := Aside0.mk (Nat.le_trans HS.out hB5.size)); clear hr5 hB5 hnum)
        refine ⟨⟨2, _, _, _, _, _, by omega, rfl, ⟨(HPA5.out.set _).2.1⟩, ⟨rdfrom_far HR5.out HGAB.out _⟩, ⟨below_set HB5.out HGA.out⟩, ⟨Nat.le_trans HS5.out (Chg.setCell _ _ _).size⟩, ⟨HPR5.out.far (fun e => by have e : w.heap.size = w2.heap.size := e; have := HPRA.out; omega) _⟩, .inr (.inr (.inl ⟨rfl, rfl, rfl, rfl, rfl, rfl⟩))⟩, by decide⟩
      · have hnum := rdnum_from 8 HRD.out HS.out (by have := HL2.out; omega)
        rw [← HE3.out] at hnum
        have hpg := HPA.out
        go_wp2_with (go_at_call 30; refine hnum.mono ?_; rintro e w5 ⟨rfl, hr5, hB5⟩; obtain ⟨a0, a1, a2, f0, f1, f2⟩ := (HPA.out.low hB5 HGAB.out).cells; (have HPA5 := Aside0.mk (HPA.out.low hB5 HGAB.out)); (have HPR5 := Aside0.mk (HPR.out.low hB5 HPRB.out)); (have HR5 := Aside0.mk hr5); (have HB5 := Aside0.mk (HB.out.trans (below_le hB5 (Nat.le_of_lt HPRB.out)))); (have HS5 := Aside0.mk (Nat.le_trans HS.out hB5.size)); clear hr5 hB5 hnum)
        refine ⟨⟨3, _, _, _, _, _, by omega, rfl, ⟨(HPA5.out.set _).2.2⟩, ⟨rdfrom_far HR5.out HGAB.out _⟩, ⟨below_set HB5.out HGA.out⟩, ⟨Nat.le_trans HS5.out (Chg.setCell _ _ _).size⟩, ⟨HPR5.out.far (fun e => by have e : w.heap.size = w2.heap.size := e; have := HPRA.out; omega) _⟩, .inr (.inr (.inr ⟨rfl, rfl, rfl, rfl, rfl, rfl⟩))⟩, by decide⟩
      · have hsz : w.heap.size < wr.heap.size := by have := HPRB.out; have := HS.out; omega
        have hend := end_from HRD.out
        have hst0 : ∃ b : Bool, (R3.2.2 == 0) = b := ⟨_, rfl⟩
        obtain ⟨b, hb⟩ := hst0
        obtain ⟨ok, hok⟩ : ∃ b : Bool, okPt R1.1.1 R2.1.1 R3.1.1 = b := ⟨_, rfl⟩
        have hval : decV R1 R2 R3 = if b = true ∧ ok = true then ((R1.1.1, R2.1.1, R3.1.1), 0) else ((0, 0, 0), 4) := by
          unfold decV
          rw [hok]
          have : R3.2.2 = 0 ↔ b = true := by rw [← hb]; simp
          simp [this]
        rw [hok] at hrt
        have HVAL := Aside0.mk hval
        rw [HEND.out] at hend
        obtain ⟨r0, r1, r2, f0, f1, f2⟩ := HPR.out.cells
        obtain ⟨a0, a1, a2, _, _, _⟩ := HPA.out.cells
        have hend2 := fun W (h : RdFrom (w2.heap.size + 1) W g3 R3.2.1 R3.2.2) => end_from (b := w2.heap.size + 1) h
        have hHRD9 : RdFrom (w2.heap.size + 1) (wr.alloc (.cells #[.int .i64 R1.1.1, .int .i64 R2.1.1, .int .i64 R3.1.1] 34)) g3 R3.2.1 R3.2.2 := HRD.out.below (below_alloc (Below.refl _ _) _)
        have hend9 := end_from hHRD9
        rw [HEND.out] at hend9
        have HPP : Aside0 (PtAt 34 (wr.alloc (.cells #[.int .i64 R1.1.1, .int .i64 R2.1.1, .int .i64 R3.1.1] 34)) wr.heap.size R1.1.1 R2.1.1 R3.1.1) := ⟨blk_new _ _⟩
        have HPR9 := Aside0.mk (HPR.out.below (below_alloc (Below.refl _ _) (.cells #[.int .i64 R1.1.1, .int .i64 R2.1.1, .int .i64 R3.1.1] 34)))
        have HB9 := Aside0.mk (HB.out.alloc HB.out.size (.cells #[.int .i64 R1.1.1, .int .i64 R2.1.1, .int .i64 R3.1.1] 34))
        clear hend hend2 hHRD9 hok hval
        generalize R1.1.1 = q1 at *
        generalize R2.1.1 = q2 at *
        generalize R3.1.1 = q3 at *
        generalize R3.2.2 = q4 at *
        rcases b
        · rw [if_neg (by simp)] at HVAL
          go_wp2_with (go_at_call 31; refine hend9.mono ?_; rintro e w6 ⟨rfl, ⟨nd, rfl⟩⟩)
          refine bodyPost_ret (results_ct rfl _ _ w.heap.size 34 #[.int .i64 0, .int .i64 0, .int .i64 0] (0, 0) _ rfl ((show PtAt 34 ((wr.alloc (.cells #[.int .i64 q1, .int .i64 q2, .int .i64 q3] 34)).drewN nd) w.heap.size 0 0 0 from HPR9.out).set3 0 0 0) Try.underlying34 rfl (by kernel_rfl)) rfl ?_
          rw [HVAL.out]
          exact ⟨rfl, below_set3 (pw_below_drewN HB9.out nd) (Nat.le_refl _)⟩
        · cases ok
          · rw [if_neg (by simp)] at HVAL
            go_wp2_with (first
              | (go_at_call 31; refine hend9.mono ?_; rintro e w6 ⟨rfl, ⟨nd, rfl⟩⟩)
              | (go_at_call 20; refine (hrt _).mono ?_; rintro e w7 ⟨rfl, hB7⟩; (have hp7 : PtAt 34 w7 w.heap.size 0 0 0 := (hB7.block _ (blk_lt HPR9.out)).trans HPR9.out); (have HPR7 := Aside0.mk hp7); clear hp7; obtain ⟨p0, p1, p2, k0, k1, k2⟩ := HPR7.out.cells; (have HB7 := Aside0.mk (below_from (pw_below_drewN HB9.out nd) (Nat.le_refl _) hB7)); clear hB7))
            refine bodyPost_ret (results_ct rfl _ _ w.heap.size 34 #[.int .i64 0, .int .i64 0, .int .i64 0] (0, 0) _ rfl (HPR7.out.set3 0 0 0) Try.underlying34 rfl (by kernel_rfl)) rfl ?_
            rw [HVAL.out]
            exact ⟨rfl, below_set3 HB7.out (Nat.le_refl _)⟩
          · rw [if_pos (by simp)] at HVAL
            go_wp2_with (first
              | (go_at_call 31; refine hend9.mono ?_; rintro e w6 ⟨rfl, ⟨nd, rfl⟩⟩)
              | (go_at_call 20; refine (hrt _).mono ?_; rintro e w7 ⟨rfl, hB7⟩; (have hp7 : PtAt 34 w7 w.heap.size 0 0 0 := (hB7.block _ (blk_lt HPR9.out)).trans HPR9.out); (have HPR7 := Aside0.mk hp7); clear hp7; obtain ⟨p0, p1, p2, k0, k1, k2⟩ := HPR7.out.cells; (have hy7 : PtAt 34 w7 wr.heap.size q1 q2 q3 := (hB7.block _ (blk_lt HPP.out)).trans HPP.out); obtain ⟨y0, y1, y2, _, _, _⟩ := hy7.cells; clear hy7; (have HB7 := Aside0.mk (below_from (pw_below_drewN HB9.out nd) (Nat.le_refl _) hB7)); clear hB7))
            refine bodyPost_ret (results_ct rfl _ _ w.heap.size 34 #[.int .i64 q1, .int .i64 q2, .int .i64 q3] (0, 0) _ rfl (HPR7.out.set3 q1 q2 q3) Try.underlying34 rfl (by kernel_rfl)) rfl ?_
            rw [HVAL.out]
            exact ⟨rfl, below_set3 HB7.out (Nat.le_refl _)⟩
end Go.Proofs.Ytbpnigldojpapaa.Points
