/- The law PointsTorn, walked. -/
import Derived.Test.YtbpnigldojpapaaPointsTornP
namespace Go.Proofs.Ytbpnigldojpapaa.Points
open Go.RowKit Go.Proofs.YtbpnigldojpapaaW.PrintWords Go.Proofs.YtbpnigldojpapaaW.PrintLast Go.Proofs.YtbpnigldojpapaaW.PrintMore Go.Proofs.Ytbpnigldojpapaa.Wire Go.Proofs.Ytbpnigldojpapaa.Crc Go.Proofs.Ytbpnigldojpapaa.Pr
open Go.Proofs.Ytbpnigldojpapaa.Back (AllB numB numB_small)
set_option linter.unusedVariables false
set_option linter.unusedSimpArgs false
/-- Block g holds two slots. -/
def SlAt (w : World) (g : Nat) (u v : Value) : Prop := w.heap[g]? = some (.cells #[u, v] 58 (0, 0))
theorem SlAt.below {w w1 : World} {g : Nat} {u v : Value} (h : SlAt w g u v) (hc : Below w.heap.size w w1) : SlAt w1 g u v := (Chg.of_below hc (fun _ => False)).blk h (fun h => h)
theorem SlAt.far {w : World} {g : Nat} {u v : Value} (h : SlAt w g u v) {p : Addr} (hp : g ≠ p.block) (x : Value) : SlAt (w.setCell p x) g u v := blk_far h hp x
theorem SlAt.low {w w1 : World} {b g : Nat} {u v : Value} (h : SlAt w g u v) (hB : Below b w w1) (hg : g < b) : SlAt w1 g u v := (hB.block g hg).trans h
theorem SlAt.cells {w : World} {g : Nat} {u v : Value} (h : SlAt w g u v) : w.cell? ⟨g, 0, none⟩ = some u ∧ w.cell? ⟨g, 1, none⟩ = some v ∧ w.frozen? ⟨g, 0, none⟩ = false ∧ w.frozen? ⟨g, 1, none⟩ = false := two_cells h
abbrev RB (w : World) (b : Nat) (v : Value) (xs : List Int) : Prop := Kd.R (Kd.int .u8) 5 w b (fun _ => True) v xs
theorem RB_far {w : World} {b : Nat} {v : Value} {xs : List Int} (h : RB w b v xs) {p : Addr} (hp : p.block < b) (u : Value) : RB (w.setCell p u) b v xs :=
  Kd.R_mono (Kd.R_far (Kd.R_bound h) (fun k hk => by have := hk.2.1; omega) u) (fun _ _ => trivial)
/-- What the slots hold: nothing, or the checkpoint that counts. -/
def SlOk (s0 s1 : List Int) (n l r : Int) : Prop := AllB s0 ∧ s0.length ≤ 28 ∧ AllB s1 ∧ s1.length ≤ 28 ∧ Held (decF s0) (decF s1) (n, l, r)
def TornIn (w : World) (L : Nat) (v24 : Value) (wr : World) : Prop :=
  ∃ (k : Nat) (A0 A1 : Option Addr) (c0 c1 : Nat) (s0 s1 : List Int) (n l r : Int), k ≤ L ∧ v24 = .int .i64 k ∧ Aside0 (SlAt wr w.heap.size (.slice A0 s0.length c0) (.slice A1 s1.length c1)) ∧ Aside0 (PtAt 34 wr (w.heap.size + 1) n l r) ∧ Aside0 (RB wr (w.heap.size + 2) (.slice A0 s0.length c0) s0) ∧ Aside0 (RB wr (w.heap.size + 2) (.slice A1 s1.length c1) s1) ∧ Aside0 (SlOk s0 s1 n l r) ∧ Aside0 (Below w.heap.size w wr) ∧ Aside0 (w.heap.size + 2 ≤ wr.heap.size)
theorem decF_nil : decF [] = ((0, 0, 0), 10) := by decide +kernel
theorem SlOk.start : SlOk [] [] 0 0 0 := ⟨fun x hx => by simp at hx, by simp, fun x hx => by simp at hx, by simp, .inl ⟨rfl, by rw [decF_nil]; decide, by rw [decF_nil]; decide⟩⟩
def lenV : Value → Nat
  | .slice _ n _ => n
  | _ => 0
theorem R_form {w : World} {base e : Nat} {ok : Nat → Prop} {v : Value} {xs : List Int} (h : Kd.R (Kd.int .u8) e w base ok v xs) (hp : 0 < xs.length) : ∃ g cap, v = .slice (some ⟨g, 0, none⟩) xs.length cap ∧ xs.length ≤ cap ∧ base ≤ g := by
  obtain ⟨A, c, hv, hc, hC⟩ := Kd.R_reads h
  obtain ⟨inner, ho⟩ := Kd.R_own h
  rcases ho.2 with ⟨_, h0⟩ | ⟨g, cap, cur, hv2, hg, _⟩
  · omega
  · rw [hv] at hv2
    injection hv2 with h1 h2 h3
    subst h1
    exact ⟨g, c, hv, hc, hg⟩
/-- The bytes that are written, before any is. -/
def LpIn (W1 : World) (m : Int) (v13 : Value) (wr : World) : Prop :=
  ∃ (A : Option Addr) (c : Nat) (ys : List Int), v13 = .slice A ys.length c ∧ Aside0 (RB wr W1.heap.size (.slice A ys.length c) ys) ∧ Aside0 (Below W1.heap.size W1 wr) ∧ Aside0 (AllB ys) ∧ ys.length ≤ 28
def Lp3In (W1 : World) (m : Int) (A : Option Addr) (c L : Nat) (b : List Int) (v15 : Value) (wr : World) : Prop :=
  ∃ (i : Nat) (zs : List Int), (i : Int) ≤ m ∧ v15 = .int .i64 i ∧ zs.length = L ∧ Aside0 (RB wr W1.heap.size (.slice A L c) zs) ∧ Aside0 (Below W1.heap.size W1 wr) ∧ Aside0 (AllB zs) ∧ Aside0 (zs.take i = b.take i)
set_option maxRecDepth 100000 in
set_option maxHeartbeats 8000000 in
theorem torn_ok (A : Option Addr) (c : Nat) (l : List S34) (cut : Int) (w : World) (hr : Kd.C k34 w A l.length l) (hl : l.length ≤ 8796093022208) :
    Calls Try.prog 6 #[.slice A l.length c, .int .i64 cut] w fun e w' => e = .returned (.bool true) ∧ Below w.heap.size w w' := by
  have HR := Aside0.mk hr
  have HL := Aside0.mk hl
  have hna : l.length ≤ 9223372036854775807 := hr.2.1
  have hsz : (w.alloc (.cells #[.slice none 0 0, .slice none 0 0] 58)).heap.size = w.heap.size + 1 := by
    show (w.heap.push _).size = _
    simp
  have HSL : Aside0 (SlAt ((w.alloc (.cells #[.slice none 0 0, .slice none 0 0] 58)).alloc (.cells #[.int .i64 0, .int .i64 0, .int .i64 0] 34)) w.heap.size (.slice none 0 0) (.slice none 0 0)) := ⟨SlAt.below (blk_new _ _) (below_alloc (Below.refl _ _) _)⟩
  have HWS : Aside0 (PtAt 34 ((w.alloc (.cells #[.slice none 0 0, .slice none 0 0] 58)).alloc (.cells #[.int .i64 0, .int .i64 0, .int .i64 0] 34)) (w.heap.size + 1) 0 0 0) := ⟨by rw [← hsz]; exact blk_new _ _⟩
  have HB0 : Aside0 (Below w.heap.size w ((w.alloc (.cells #[.slice none 0 0, .slice none 0 0] 58)).alloc (.cells #[.int .i64 0, .int .i64 0, .int .i64 0] 34))) := ⟨below_alloc (below_alloc (Below.refl _ _) _) _⟩
  have HZ0 : Aside0 (w.heap.size + 2 ≤ ((w.alloc (.cells #[.slice none 0 0, .slice none 0 0] 58)).alloc (.cells #[.int .i64 0, .int .i64 0, .int .i64 0] 34)).heap.size) := ⟨by show _ ≤ ((w.heap.push _).push _).size; simp⟩
  clear hr hl hsz
  go_enter Try.func6, Try.ntmps6
  go_wp2
  go_loopw [24] (fun v24 wr => TornIn w l.length v24 wr) (fun v24 _ => l.length - (intOf v24).toNat)
  case atStart => exact ⟨0, none, none, 0, 0, [], [], 0, 0, 0, by omega, rfl, HSL, HWS, ⟨Kd.R_nil _ _ _ _ _⟩, ⟨Kd.R_nil _ _ _ _ _⟩, ⟨SlOk.start⟩, HB0, HZ0⟩
  case round =>
    clear HSL HWS HB0 HZ0
    obtain ⟨k, A0, A1, c0, c1, s0, s1, n, p1, p2, hk, rfl, HSL, HWS, HR0, HR1, HOK, HB, HZ⟩ := hrel
    by_cases hlt : k < l.length
    · have hltI : (k : Int) < (l.length : Int) := by omega
      have hk0 : (0 : Int) ≤ (k : Int) := by omega
      have hkm : (k : Int) < 140737488355328 := by have := HL.out; omega
      obtain ⟨ad, rfl, hx0, hx1, hx2⟩ := at_T34 (Kd.C_below HR.out HB.out) (k : Int) hk0 hltI
      rw [Int.toNat_natCast] at hx0 hx1 hx2
      generalize rd_T34 l (k : Int) = x at hx0 hx1 hx2
      obtain ⟨x0, x1, x2⟩ := x
      dsimp only at hx0 hx1 hx2
      obtain ⟨hb0, hl0, hb1, hl1, hheld⟩ := HOK.out
      obtain ⟨hch, hslot⟩ := held_next hheld
      have hC0 := (Kd.R_reads' HR0.out)
      have hC1 := (Kd.R_reads' HR1.out)
      have hB1 := below_alloc (Below.refl wr.heap.size wr) (.cells #[.int .i64 x0, .int .i64 x1, .int .i64 x2] 34)
      have hnx := next_ok A0 c0 s0 A1 c1 s1 x0 x1 x2 (wr.alloc (.cells #[.int .i64 x0, .int .i64 x1, .int .i64 x2] 34)) (Kd.C_below hC0.2.2 hB1) hC0.2.1 hb0 (by omega) (Kd.C_below hC1.2.2 hB1) hC1.2.1 hb1 (by omega)
      have hslo : (if (chooseD (decF s0) (decF s1)).2.2 = 0 then 1 - (chooseD (decF s0) (decF s1)).2.1 else 0) = slotOf (decF s0) (decF s1) := rfl
      unfold nextF at hnx
      rw [hch, hslo] at hnx
      obtain ⟨g0, g1, _, _⟩ := HSL.out.cells
      have l5 : w.heap.size < wr.heap.size := by have := HZ.out; omega
      have hz0 : s0.length ≤ 9223372036854775807 := by omega
      have hz1 : s1.length ≤ 9223372036854775807 := by omega
      dsimp only at hnx hslot
      rcases hok : okPt (n + 1) x1 x2
      · rw [hok] at hnx
        simp only [Bool.false_eq_true, if_false] at hnx
        clear hb0 hl0 hb1 hl1 hheld hch hslot hC0 hC1 hB1 hslo hok
        go_wp2_with (go_at_call 18; refine hnx.mono ?_; rintro e w2 ⟨u2, rfl, hR2, hB2⟩; (have HB2 := Aside0.mk (below_from (below_alloc (Below.refl wr.heap.size wr) (.cells #[.int .i64 x0, .int .i64 x1, .int .i64 x2] 34)) (Nat.le_refl _) hB2)); clear hB2 hR2 hnx)
        exact ⟨⟨k + 1, A0, A1, c0, c1, s0, s1, n, p1, p2, by omega, by simp, ⟨(HSL.out.below HB2.out).below (below_alloc (Below.refl _ _) _)⟩, ⟨(HWS.out.below HB2.out).below (below_alloc (Below.refl _ _) _)⟩, ⟨Kd.R_below (Kd.R_below HR0.out HB2.out) (below_alloc (Below.refl _ _) _)⟩, ⟨Kd.R_below (Kd.R_below HR1.out HB2.out) (below_alloc (Below.refl _ _) _)⟩, HOK, ⟨(below_from HB.out (Nat.le_refl _) HB2.out).alloc (below_from HB.out (Nat.le_refl _) HB2.out).size _⟩, ⟨Nat.le_trans HZ.out (HB2.out.alloc HB2.out.size _).size⟩⟩, by simp [intOf]; omega⟩
      · rw [hok] at hnx
        simp only [if_true] at hnx
        have hbl : (encB (n + 1) x1 x2 ++ le (sumOf (encB (n + 1) x1 x2) : Int) 4).length = 28 := by rw [List.length_append, encB_length, le_length]
        have hbb : AllB (encB (n + 1) x1 x2 ++ le (sumOf (encB (n + 1) x1 x2) : Int) 4) := AllB_app (encB_AllB _ _ _) (le_AllB' _ _)
        have hbd := dec_enc hok
        have hon := okPt_iff.1 hok
        generalize encB (n + 1) x1 x2 ++ le (sumOf (encB (n + 1) x1 x2) : Int) 4 = b at hnx hbl hbb hbd
        have hw1 : IntKind.i64.wrap (n + 1) = n + 1 := by
          rw [IntKind.wrap_i64]
          omega
        have hw2 : IntKind.i64.wrap ((l.length : Int) - 1) = (l.length : Int) - 1 := by
          rw [IntKind.wrap_i64]
          omega
        have hcb : ∃ (m : Int) (b78 : Bool), 0 ≤ m ∧ m ≤ 28 ∧ ((b78 = true ∧ m = cut) ∨ (b78 = false ∧ m = 28)) ∧ ((((k : Int) == (l.length : Int) - 1) = false ∧ b78 = false) ∨ (((k : Int) == (l.length : Int) - 1) = true ∧ decide (cut ≥ 0) = false ∧ b78 = false) ∨ (((k : Int) == (l.length : Int) - 1) = true ∧ decide (cut ≥ 0) = true ∧ decide (cut < 28) = b78)) := by
          rcases h1 : ((k : Int) == (l.length : Int) - 1)
          · exact ⟨28, false, by omega, by omega, .inr ⟨rfl, rfl⟩, .inl ⟨rfl, rfl⟩⟩
          · by_cases h2 : cut ≥ 0
            · by_cases h3 : cut < 28
              · exact ⟨cut, true, by omega, by omega, .inl ⟨rfl, rfl⟩, .inr (.inr ⟨rfl, decide_eq_true h2, decide_eq_true h3⟩)⟩
              · exact ⟨28, false, by omega, by omega, .inr ⟨rfl, rfl⟩, .inr (.inr ⟨rfl, decide_eq_true h2, decide_eq_false h3⟩)⟩
            · exact ⟨28, false, by omega, by omega, .inr ⟨rfl, rfl⟩, .inr (.inl ⟨rfl, decide_eq_false h2, rfl⟩)⟩
        obtain ⟨m, b78, hm0, hm28, hmc, hcb⟩ := hcb
        have HBL := Aside0.mk hbl
        have HBB := Aside0.mk hbb
        have HBD := Aside0.mk hbd
        have HON := Aside0.mk hon
        have HM0 := Aside0.mk hm0
        have HM28 := Aside0.mk hm28
        have HMC := Aside0.mk hmc
        have HCB := Aside0.mk hcb
        have HKM := Aside0.mk hkm
        clear hb0 hl0 hb1 hl1 hheld hch hC0 hC1 hB1 hslo hok hbl hbb hbd hon hm0 hm28 hmc hcb
        rcases hslot with ⟨hs, hcase⟩ | ⟨hs, hcase⟩
        all_goals
          rw [hs] at hnx
          have HCASE := Aside0.mk hcase
          clear hs hcase
        · go_upto_region 8 with (go_at_call 18; refine hnx.mono ?_; rintro e w2 ⟨u2, rfl, hR2, hB2⟩; obtain ⟨A2, c2, rfl, hc2, hC2⟩ := Kd.R_reads hR2; rw [HBL.out]; (have HBw := Aside0.mk (below_from (below_alloc (Below.refl wr.heap.size wr) (.cells #[.int .i64 x0, .int .i64 x1, .int .i64 x2] 34)) (Nat.le_refl _) hB2)); (have HB1 := Aside0.mk ((below_from HB.out (Nat.le_refl _) HBw.out).alloc (below_from HB.out (Nat.le_refl _) HBw.out).size (.cells #[.int .i64 (n + 1), .int .i64 x1, .int .i64 x2] 34))); (have HSL1 := Aside0.mk ((HSL.out.below HBw.out).below (below_alloc (Below.refl _ _) (.cells #[.int .i64 (n + 1), .int .i64 x1, .int .i64 x2] 34)))); (have HWS1 := Aside0.mk ((HWS.out.below HBw.out).below (below_alloc (Below.refl _ _) (.cells #[.int .i64 (n + 1), .int .i64 x1, .int .i64 x2] 34)))); (have HR01 : Aside0 (RB (w2.alloc (.cells #[.int .i64 (n + 1), .int .i64 x1, .int .i64 x2] 34)) (w.heap.size + 2) (.slice A0 s0.length c0) s0) := ⟨Kd.R_below (Kd.R_below HR0.out HBw.out) (below_alloc (Below.refl _ _) _)⟩); (have HR11 : Aside0 (RB (w2.alloc (.cells #[.int .i64 (n + 1), .int .i64 x1, .int .i64 x2] 34)) (w.heap.size + 2) (.slice A1 s1.length c1) s1) := ⟨Kd.R_below (Kd.R_below HR1.out HBw.out) (below_alloc (Below.refl _ _) _)⟩); (have HCb := Aside0.mk (Kd.C_below hC2 (below_alloc (Below.refl _ _) (.cells #[.int .i64 (n + 1), .int .i64 x1, .int .i64 x2] 34)))); (have HQ1 : Aside0 (PtAt 34 (w2.alloc (.cells #[.int .i64 (n + 1), .int .i64 x1, .int .i64 x2] 34)) w2.heap.size (n + 1) x1 x2) := ⟨blk_new _ _⟩); (have HZ1 : Aside0 (w.heap.size + 2 ≤ w2.heap.size) := ⟨Nat.le_trans HZ.out HBw.out.size⟩); clear hB2 hC2 hR2 hc2 hnx)
          generalize w2.heap.size = g9 at HQ1 HZ1 ⊢
          generalize w2.alloc (.cells #[.int .i64 (n + 1), .int .i64 x1, .int .i64 x2] 34) = W1 at HB1 HSL1 HWS1 HR01 HR11 HCb HQ1 ⊢
          clear g0 g1 l5 hz0 hz1 hx0 hx1 hx2
          obtain ⟨q0, q1, q2, _, _, _⟩ := HQ1.out.cells
          obtain ⟨u0, u1, u2, _, _, _⟩ := HWS1.out.cells
          obtain ⟨g0, g1, _, _⟩ := HSL1.out.cells
          have hs28 : s0.length ≤ 28 := by have := HOK.out; unfold SlOk at this; omega
          have hsb : AllB s0 := by have := HOK.out; unfold SlOk at this; exact this.1
          have HSB := Aside0.mk hsb
          have HS28 := Aside0.mk hs28
          clear hsb hs28
          go_upto_region 13 with ((with_reducible refine gate_builtin (b := .append) (xs := #[.tmp 61, .tmp 64]) rfl ?_); at_builtin; refine Kd.R_append_row (Value.int .u8) (0 : Int) (h1 := fun _ => rfl) (w0 := W1) W1.heap.size rfl (.tmp 61) (.tmp 64) 35 5 (.int .u8 0) 1 rfl Try.underlying35 info8 rfl (by decide) (.slice none 0 0) [] s0 A0 s0.length c0 (fun _ => True) rfl rfl (fun _ _ => trivial) (Kd.R_nil _ _ _ _ _) (Kd.R_reads' HR01.out).2.2 (Below.refl _ _) (Nat.le_refl _) ?aL ?_; (case aL => (have := HS28.out; simp; omega)); intro v3 w3 ho hbel hg hat; rw [List.nil_append] at ho; obtain ⟨A3, c3, rfl⟩ := Kd.R_slice ho; (have HT3 : Aside0 (RB w3 W1.heap.size (.slice A3 s0.length c3) s0) := ⟨ho⟩); (have HB3 := Aside0.mk hbel); clear ho hbel hg hat)
          clear q0 q1 q2 u0 u1 u2 g0 g1
          go_cut [78] from 66 to 78 (fun v78 wx => v78 = .bool b78 ∧ w3 = wx)
          case first =>
            rcases HCB.out with ⟨d1, rfl⟩ | ⟨d1, d2, rfl⟩ | ⟨d1, d2, d3⟩
            all_goals
              go_wp2
              go_meet
              exact ⟨rfl, rfl⟩
          case rest =>
          obtain ⟨rfl, rfl⟩ := hcut
          go_upto_if 78 with (fail)
          go_cut [14] (fun v14 wx => v14 = .int .i64 m ∧ w3 = wx)
          case first =>
            rcases HMC.out with ⟨rfl, hm⟩ | ⟨rfl, hm⟩
            · go_wp2
              go_meet
              case rel => exact ⟨by rw [hm], rfl⟩
            · go_wp2
              go_meet
              case rel => exact ⟨by rw [hm], rfl⟩
          case rest =>
          obtain ⟨rfl, rfl⟩ := hcut
          clear hw2 HMC HCB
          go_wp2
          go_loopw [13] (fun v13 wr2 => LpIn W1 m v13 wr2) (fun v13 _ => m.toNat - lenV v13)
          case atStart => exact ⟨A3, c3, s0, rfl, HT3, HB3, HSB, HS28.out⟩
          case round =>
          clear HT3 HB3
          obtain ⟨A4, c4, ys, rfl, HT4, HB4, HYB, hy28⟩ := hrel
          have hyn : ys.length ≤ 9223372036854775807 := by omega
          by_cases hym : (ys.length : Int) < m
          · have HY28 := Aside0.mk hy28
            have HYM := Aside0.mk hym
            go_wp2_with ((with_reducible refine gate_builtin (b := .append) (xs := #[.tmp 84, .tmp 85]) rfl ?_); at_builtin; refine Kd.R_append (Kd.int .u8) (w0 := W1) W1.heap.size rfl (.tmp 84) (.tmp 85) 35 5 (.int .u8 0) 1 rfl Try.underlying35 info8 rfl (by decide) (by omega) (.slice A4 ys.length c4) ys 0 [.int .u8 0] (fun _ => True) (fun _ => False) rfl rfl ?aP (fun _ hk => hk.elim) ?aF ?aO ?aB ?aS ?aL ?_; (case aP => exact rfl); (case aF => exact (fun _ _ => trivial)); (case aO => exact HT4.out); (case aB => exact HB4.out); (case aS => exact HB4.out.size); (case aL => (have := HY28.out; omega)); intro v5 w5 ho hbel hg hat; obtain ⟨A5, c5, rfl⟩ := Kd.R_slice ho; (have HO := Aside0.mk ho); (have HB5 := Aside0.mk hbel); clear ho hbel hg hat)
            refine ⟨⟨A5, c5, ys ++ [0], by simp, HO, HB5, ⟨AllB_app HYB.out (fun x hx => by rw [List.mem_singleton] at hx; subst hx; decide)⟩, by rw [List.length_append]; have := HYM.out; have := HM28.out; simp; omega⟩, ?_⟩
            have := HYM.out
            simp [lenV]
            omega
          · have hmy : m ≤ (ys.length : Int) := by omega
            have HMY := Aside0.mk hmy
            clear hmy
            go_wp2
            go_loopw [15] (fun v15 wr3 => Lp3In W1 m A4 c4 ys.length b v15 wr3) (fun v15 _ => (m - intOf v15).toNat)
            case atStart => exact ⟨0, ys, by simpa using HM0.out, rfl, rfl, HT4, HB4, HYB, ⟨by simp⟩⟩
            case round =>
            clear HT4 HB4 HYB
            obtain ⟨i, zs, him, rfl, hzl, HT, HBt, HZB, HZT⟩ := hrel
            by_cases hlt3 : (i : Int) < m
            · have hi0 : (0 : Int) ≤ (i : Int) := by omega
              have hi28 : (i : Int) < 28 := by have := HM28.out; omega
              have hiL : (i : Int) < (ys.length : Int) := by have := HMY.out; omega
              obtain ⟨ad2, rfl, hbc⟩ := Kd.at_int (Kd.C_below HCb.out HBt.out) (i : Int) hi0 (by rw [HBL.out]; omega)
              obtain ⟨g, cap, he, hcap, hg⟩ := R_form HT.out (by omega)
              injection he with he1 he2 he3
              subst he1 he3
              obtain ⟨hcell, hfree⟩ := Kd.R_celln (0 : Int) HT.out (i : Int) hi0 hiL
              have hput := Kd.R_putg HT.out (i : Int) (rd b (i : Int))
              rw [Int.toNat_natCast] at hcell hfree hbc hput
              have hzb : AllB (zs.set i (rd b (i : Int))) := by
                intro x hx
                rcases List.mem_or_eq_of_mem_set hx with hx | rfl
                · exact HZB.out x hx
                · unfold rd
                  rw [Int.toNat_natCast, List.getD_eq_getElem?_getD, List.getElem?_eq_getElem (by have := HBL.out; omega)]
                  exact HBB.out _ (List.getElem_mem _)
              have hzt : (zs.set i (rd b (i : Int))).take (i + 1) = b.take (i + 1) := by
                have hil : i < zs.length := by omega
                have hib : i < b.length := by have := HBL.out; omega
                have hz := HZT.out
                rw [List.take_add_one, List.take_add_one, List.take_set_of_le (Nat.le_refl i), hz, List.getElem?_set_self hil, List.getElem?_eq_getElem hib]
                unfold rd
                rw [Int.toNat_natCast, List.getD_eq_getElem?_getD, List.getElem?_eq_getElem hib]
                rfl
              generalize rd b (i : Int) = z at hbc hput hzb hzt
              generalize rdOf (0 : Int) zs (i : Int) = z0 at hcell
              have HPUT := Aside0.mk hput
              have HZB2 := Aside0.mk hzb
              have HZT2 := Aside0.mk hzt
              have HG := Aside0.mk hg
              have HZL := Aside0.mk hzl
              clear hput hzb hzt hg he2 hcap hzl
              go_wp2
              refine ⟨⟨i + 1, zs.set i z, by omega, by simp, by rw [List.length_set]; exact HZL.out, ⟨HPUT.out.1⟩, ⟨pw_below_grown HBt.out _ HBt.out.size HPUT.out.2 (fun k e => by injection e with e; rw [← e]; exact HG.out)⟩, HZB2, HZT2⟩, ?_⟩
              simp [intOf]
              omega
            · have him2 : (i : Int) = m := by omega
              have hzsb : m = 28 → zs = b := by
                intro h
                have hi28 : i = 28 := by omega
                have hz := HZT.out
                rw [hi28, List.take_of_length_le (by omega), List.take_of_length_le (by have := HBL.out; omega)] at hz
                exact hz
              have hrr := Kd.R_reads' HT.out
              have hrd := refdecode_ok A4 c4 zs wr hrr.2.2 (by omega) HZB.out (by omega)
              rw [hzl] at hrd
              obtain ⟨X, hX⟩ : ∃ X, X = decF zs := ⟨_, rfl⟩
              have hgd : Good X := by rw [hX]; exact decF_good zs
              have hX28 : m = 28 → X = ((n + 1, x1, x2), 0) := fun h => by rw [hX, hzsb h]; exact HBD.out
              rw [← hX] at hrd
              obtain ⟨⟨y0, y1, y2⟩, ye⟩ := X
              dsimp only at hrd
              have hb121 : ∃ b121 : Bool, (b121 = false → ye ≠ 0 ∨ (y0, y1, y2) = (n + 1, x1, x2) ∨ (y0, y1, y2) = (n, p1, p2)) ∧ (((ye == 0) = false ∧ b121 = false) ∨ ((ye == 0) = true ∧ (n + 1 == y0 && x1 == y1 && x2 == y2) = true ∧ b121 = false) ∨ ((ye == 0) = true ∧ (n + 1 == y0 && x1 == y1 && x2 == y2) = false ∧ (n == y0 && p1 == y1 && p2 == y2) = true ∧ b121 = false) ∨ ((ye == 0) = true ∧ (n + 1 == y0 && x1 == y1 && x2 == y2) = false ∧ (n == y0 && p1 == y1 && p2 == y2) = false ∧ decide (m < 28) = true ∧ b121 = true)) := by
                by_cases he : ye = 0
                · have he2 : (ye == 0) = true := by simp [he]
                  rcases hq : (n + 1 == y0 && x1 == y1 && x2 == y2)
                  · have hm : m < 28 := by
                      have h28 := HM28.out
                      by_cases h : m = 28
                      · have hx := hX28 h
                        simp only [Prod.mk.injEq] at hx
                        simp [hx] at hq
                      · omega
                    rcases hw : (n == y0 && p1 == y1 && p2 == y2)
                    · exact ⟨true, fun h => (by cases h), .inr (.inr (.inr ⟨he2, rfl, rfl, decide_eq_true hm, rfl⟩))⟩
                    · refine ⟨false, fun _ => .inr (.inr ?_), .inr (.inr (.inl ⟨he2, rfl, rfl, rfl⟩))⟩
                      simp only [Bool.and_eq_true, beq_iff_eq] at hw
                      rw [← hw.1.1, ← hw.1.2, ← hw.2]
                  · refine ⟨false, fun _ => .inr (.inl ?_), .inr (.inl ⟨he2, rfl, rfl⟩)⟩
                    simp only [Bool.and_eq_true, beq_iff_eq] at hq
                    rw [← hq.1.1, ← hq.1.2, ← hq.2]
                · exact ⟨false, fun _ => .inl he, .inl ⟨by simp [he], rfl⟩⟩
              obtain ⟨b121, hbf, hb121⟩ := hb121
              have HBF := Aside0.mk hbf
              have HB121 := Aside0.mk hb121
              have HX := Aside0.mk hX
              have HX28 := Aside0.mk hX28
              have HGD := Aside0.mk hgd
              have HZL := Aside0.mk hzl
              have HY28 := Aside0.mk hy28
              clear hbf hb121 hX hX28 hgd hzsb hrr him2 hzl hy28
              go_upto_region 22 with (go_at_call 14; refine hrd.mono ?_; rintro e w4 ⟨rfl, hB4⟩; (have HB4 : Aside0 (Below W1.heap.size W1 (w4.alloc (.cells #[.int .i64 y0, .int .i64 y1, .int .i64 y2] 40))) := ⟨(below_from HBt.out (Nat.le_refl _) hB4).alloc (below_from HBt.out (Nat.le_refl _) hB4).size _⟩); (have HT4 : Aside0 (RB (w4.alloc (.cells #[.int .i64 y0, .int .i64 y1, .int .i64 y2] 40)) W1.heap.size (.slice A4 ys.length c4) zs) := ⟨Kd.R_below (Kd.R_below HT.out hB4) (below_alloc (Below.refl _ _) _)⟩); (have HY4 : Aside0 (PtAt 40 (w4.alloc (.cells #[.int .i64 y0, .int .i64 y1, .int .i64 y2] 40)) w4.heap.size y0 y1 y2) := ⟨blk_new _ _⟩); clear hB4 hrd)
              generalize w4.heap.size = gy at HY4 ⊢
              generalize w4.alloc (.cells #[.int .i64 y0, .int .i64 y1, .int .i64 y2] 40) = W4 at HB4 HT4 HY4 ⊢
              clear HT HBt HZT
              obtain ⟨q0, q1, q2, _, _, _⟩ := (HQ1.out.below HB4.out).cells
              obtain ⟨e0, e1, e2, _, _, _⟩ := HY4.out.cells
              go_cut [121] from 104 to 121 (fun v121 wx => v121 = .bool b121 ∧ Below W4.heap.size W4 wx)
              case first =>
                rcases HB121.out with ⟨d1, rfl⟩ | ⟨d1, hsq, rfl⟩ | ⟨d1, hsq, hsw, rfl⟩ | ⟨d1, hsq, hsw, d4, rfl⟩
                · go_wp2
                  go_meet
                  exact ⟨rfl, Below.refl _ _⟩
                · have HSQ := Aside0.mk hsq
                  clear hsq
                  go_wp2_with (go_at_call 15; with_reducible refine (same_ok (n + 1) x1 x2 y0 y1 y2 _).mono ?_; rintro e w7 ⟨rfl, hB7⟩; rw [HSQ.out]; obtain ⟨u0, u1, u2, _, _, _⟩ := ((HWS1.out.below HB4.out).below hB7).cells; (have HB7 := Aside0.mk hB7); clear q0 q1 q2 e0 e1 e2; obtain ⟨e0, e1, e2, _, _, _⟩ := (HY4.out.below hB7).cells; clear hB7)
                  go_meet
                  exact ⟨rfl, HB7.out⟩
                · have HSQ := Aside0.mk hsq
                  have HSW := Aside0.mk hsw
                  clear hsq hsw
                  go_wp2_with (first | (go_at_call 15; with_reducible refine (same_ok (n + 1) x1 x2 y0 y1 y2 _).mono ?_; rintro e w7 ⟨rfl, hB7⟩; rw [HSQ.out]; obtain ⟨u0, u1, u2, _, _, _⟩ := ((HWS1.out.below HB4.out).below hB7).cells; (have HB7 := Aside0.mk hB7); clear q0 q1 q2 e0 e1 e2; obtain ⟨e0, e1, e2, _, _, _⟩ := (HY4.out.below hB7).cells; clear hB7) | (go_at_call 15; with_reducible refine (same_ok n p1 p2 y0 y1 y2 _).mono ?_; rintro e w8 ⟨rfl, hB8⟩; rw [HSW.out]; (have HB8 := Aside0.mk (below_from HB7.out (Nat.le_refl _) hB8)); clear hB8))
                  go_meet
                  exact ⟨rfl, HB8.out⟩
                · have HSQ := Aside0.mk hsq
                  have HSW := Aside0.mk hsw
                  clear hsq hsw
                  go_wp2_with (first | (go_at_call 15; with_reducible refine (same_ok (n + 1) x1 x2 y0 y1 y2 _).mono ?_; rintro e w7 ⟨rfl, hB7⟩; rw [HSQ.out]; obtain ⟨u0, u1, u2, _, _, _⟩ := ((HWS1.out.below HB4.out).below hB7).cells; (have HB7 := Aside0.mk hB7); clear q0 q1 q2 e0 e1 e2; obtain ⟨e0, e1, e2, _, _, _⟩ := (HY4.out.below hB7).cells; clear hB7) | (go_at_call 15; with_reducible refine (same_ok n p1 p2 y0 y1 y2 _).mono ?_; rintro e w8 ⟨rfl, hB8⟩; rw [HSW.out]; (have HB8 := Aside0.mk (below_from HB7.out (Nat.le_refl _) hB8)); clear hB8))
                  go_meet
                  exact ⟨rfl, HB8.out⟩
              case rest =>
              obtain ⟨rfl, hBx⟩ := hcut
              have HBx := Aside0.mk (below_from HB4.out (Nat.le_refl _) hBx)
              have HBw := Aside0.mk (below_from HB1.out (Nat.le_refl _) HBx.out)
              have HSLx := Aside0.mk (HSL1.out.below HBx.out)
              have HWSx := Aside0.mk (HWS1.out.below HBx.out)
              have HQx := Aside0.mk (HQ1.out.below HBx.out)
              have HWZ : Aside0 (w.heap.size + 2 ≤ W1.heap.size) := ⟨by have := HZ1.out; have := blk_lt HQ1.out; omega⟩
              have HTx : Aside0 (RB wc (w.heap.size + 2) (.slice A4 ys.length c4) zs) := ⟨Kd.R_lower (Kd.R_below HT4.out hBx) HWZ.out⟩
              have HR0x : Aside0 (RB wc (w.heap.size + 2) (.slice A0 s0.length c0) s0) := ⟨Kd.R_below HR01.out HBx.out⟩
              have HR1x : Aside0 (RB wc (w.heap.size + 2) (.slice A1 s1.length c1) s1) := ⟨Kd.R_below HR11.out HBx.out⟩
              have HZx : Aside0 (w.heap.size + 2 ≤ wc.heap.size) := ⟨Nat.le_trans HWZ.out HBx.out.size⟩
              clear hBx q0 q1 q2 e0 e1 e2
              cases b121
              · have hxf := HBF.out rfl
                have hc5 := Kd.R_reads' (RB_far HTx.out (show w.heap.size < w.heap.size + 2 by omega) (.slice A4 ys.length c4) (p := ⟨w.heap.size, 0, none⟩))
                have hc6 := Kd.R_reads' (RB_far HR1x.out (show w.heap.size < w.heap.size + 2 by omega) (.slice A4 ys.length c4) (p := ⟨w.heap.size, 0, none⟩))
                have hob : AllB s1 := by have := HOK.out; unfold SlOk at this; exact this.2.2.1
                have hol : s1.length ≤ 28 := by have := HOK.out; unfold SlOk at this; omega
                have hch := choose_ok A4 c4 zs A1 c1 s1 (wc.setCell ⟨w.heap.size, 0, none⟩ (.slice A4 ys.length c4)) hc5.2.2 (by omega) HZB.out (by have := HZL.out; have := HY28.out; omega) hc6.2.2 hc6.2.1 hob (by omega)
                rw [HZL.out, ← HX.out] at hch
                have hsl5 : SlAt (wc.setCell ⟨w.heap.size, 0, none⟩ (.slice A4 ys.length c4)) w.heap.size (.slice A4 ys.length c4) (.slice A1 s1.length c1) := blk_put HSLx.out 0 _ rfl
                have HSL5 := Aside0.mk hsl5
                have HWS5 : Aside0 (PtAt 34 (wc.setCell ⟨w.heap.size, 0, none⟩ (.slice A4 ys.length c4)) (w.heap.size + 1) n p1 p2) := ⟨HWSx.out.far (show w.heap.size + 1 ≠ w.heap.size by omega) _⟩
                have HQ5 : Aside0 (PtAt 34 (wc.setCell ⟨w.heap.size, 0, none⟩ (.slice A4 ys.length c4)) g9 (n + 1) x1 x2) := ⟨HQx.out.far (show g9 ≠ w.heap.size by have := HZ1.out; omega) _⟩
                have HB5 : Aside0 (Below w.heap.size w (wc.setCell ⟨w.heap.size, 0, none⟩ (.slice A4 ys.length c4))) := ⟨below_set HBw.out (Nat.le_refl _)⟩
                have HT5 : Aside0 (RB (wc.setCell ⟨w.heap.size, 0, none⟩ (.slice A4 ys.length c4)) (w.heap.size + 2) (.slice A4 ys.length c4) zs) := ⟨RB_far HTx.out (show w.heap.size < w.heap.size + 2 by omega) _⟩
                have HO5 : Aside0 (RB (wc.setCell ⟨w.heap.size, 0, none⟩ (.slice A4 ys.length c4)) (w.heap.size + 2) (.slice A1 s1.length c1) s1) := ⟨RB_far HR1x.out (show w.heap.size < w.heap.size + 2 by omega) _⟩
                have HZ5 : Aside0 (w.heap.size + 2 ≤ (wc.setCell ⟨w.heap.size, 0, none⟩ (.slice A4 ys.length c4)).heap.size) := ⟨Nat.le_trans HZx.out (Chg.setCell _ _ _).size⟩
                have HOB := Aside0.mk hob
                have HOL := Aside0.mk hol
                have hg5 := HSLx.out.cells
                obtain ⟨g0, g1, f0, f1⟩ := hg5
                have hne := nePt
                have heq := eqPt
                clear hob hol hc5 hc6 hsl5
                by_cases h28 : m = 28
                · have hfull := full0 (p := (n, p1, p2)) (l := x1) (r := x2) HCASE.out (HX28.out h28)
                  rw [hfull.1] at hch
                  dsimp only at hch
                  have hx28 := HX28.out h28
                  have hld := hfull.2
                  rw [HX.out] at hld
                  have HLD := Aside0.mk hld
                  have d28 : (m == 28) = true := by simp [h28]
                  clear hfull hx28 hld h28 hxf
                  go_wp2_with (go_at_call 16; refine hch.mono ?_; rintro e w6 ⟨rfl, hB6⟩; (have HB6 := Aside0.mk hB6); (have hws6 := HWS5.out.below hB6); obtain ⟨u0, u1, u2, v0, v1, v2⟩ := hws6.cells; (have l1 := blk_lt hws6); (have hq6 := HQ5.out.below hB6); obtain ⟨q0, q1, q2, _, _, _⟩ := hq6.cells; (have l2 := blk_lt hq6); clear hB6 hws6 hq6 hch)
                  have hA : SlAt (((((w6.setCell ⟨w.heap.size + 1, 0, none⟩ (.int .i64 (n + 1))).setCell ⟨w.heap.size + 1, 1, none⟩ (.int .i64 x1)).setCell ⟨w.heap.size + 1, 2, none⟩ (.int .i64 x2))).alloc (.cells #[.int .i64 (n + 1), .int .i64 x1, .int .i64 x2] 34)) w.heap.size (.slice A4 ys.length c4) (.slice A1 s1.length c1) := ((((HSL5.out.below HB6.out).far (show w.heap.size ≠ w.heap.size + 1 by omega) _).far (show w.heap.size ≠ w.heap.size + 1 by omega) _).far (show w.heap.size ≠ w.heap.size + 1 by omega) _).below (below_alloc (Below.refl _ _) _)
                  have hT : RB (((((w6.setCell ⟨w.heap.size + 1, 0, none⟩ (.int .i64 (n + 1))).setCell ⟨w.heap.size + 1, 1, none⟩ (.int .i64 x1)).setCell ⟨w.heap.size + 1, 2, none⟩ (.int .i64 x2))).alloc (.cells #[.int .i64 (n + 1), .int .i64 x1, .int .i64 x2] 34)) (w.heap.size + 2) (.slice A4 ys.length c4) zs := Kd.R_below (RB_far (RB_far (RB_far (Kd.R_below HT5.out HB6.out) (show w.heap.size + 1 < w.heap.size + 2 by omega) _) (show w.heap.size + 1 < w.heap.size + 2 by omega) _) (show w.heap.size + 1 < w.heap.size + 2 by omega) _) (below_alloc (Below.refl _ _) _)
                  rw [← HZL.out] at hA hT
                  have hz28 : zs.length ≤ 28 := by rw [HZL.out]; exact HY28.out
                  have hbs := below_set3 (g := w.heap.size + 1) (a := .int .i64 (n + 1)) (b := .int .i64 x1) (c := .int .i64 x2) (below_from HB5.out (Nat.le_refl _) HB6.out) (by omega)
                  exact ⟨⟨k + 1, A4, A1, c4, c1, zs, s1, n + 1, x1, x2, by omega, by simp, ⟨hA⟩, ⟨((HWS5.out.below HB6.out).set3 (n + 1) x1 x2).below (below_alloc (Below.refl _ _) _)⟩, ⟨hT⟩, ⟨Kd.R_below (RB_far (RB_far (RB_far (Kd.R_below HO5.out HB6.out) (show w.heap.size + 1 < w.heap.size + 2 by omega) _) (show w.heap.size + 1 < w.heap.size + 2 by omega) _) (show w.heap.size + 1 < w.heap.size + 2 by omega) _) (below_alloc (Below.refl _ _) _)⟩, ⟨⟨HZB.out, hz28, HOB.out, HOL.out, HLD.out⟩⟩, ⟨hbs.alloc hbs.size _⟩, ⟨Nat.le_trans HZ5.out (Nat.le_trans HB6.out.size (Nat.le_trans (Chg.setCell _ _ _).size (Nat.le_trans (Chg.setCell _ _ _).size (Nat.le_trans (Chg.setCell _ _ _).size (below_alloc (Below.refl _ _) _).size))))⟩⟩, by simp [intOf]; omega⟩
                · have ht := torn0 (p := (n, p1, p2)) (l := x1) (r := x2) HGD.out HCASE.out hxf
                  generalize chooseD ((y0, y1, y2), ye) (decF s1) = R at hch ht
                  obtain ⟨⟨r0, r1, r2⟩, ra, re⟩ := R
                  unfold TornOk at ht
                  dsimp only at hch ht
                  have d28 : (m == 28) = false := by simp [h28]
                  clear h28 hxf
                  by_cases hn0 : n = 0
                  · have dn : (n == 0) = true := by simp [hn0]
                    have hd : (re != 0) = true ∨ ((re != 0) = false ∧ (r0, r1, r2) = (n + 1, x1, x2)) := by
                      rcases hre : (re != 0)
                      · refine .inr ⟨rfl, (ht.1 hn0).resolve_left (fun h => h ?_)⟩
                        simpa using hre
                      · exact .inl rfl
                    clear ht hn0
                    rcases hd with d1 | ⟨d1, d2⟩
                    · go_wp2_with (first | (go_at_call 16; refine hch.mono ?_; rintro e w6 ⟨rfl, hB6⟩; (have HB6 := Aside0.mk (below_from HB5.out (Nat.le_refl _) hB6)); (have hws6 := HWS5.out.below hB6); obtain ⟨u0, u1, u2, v0, v1, v2⟩ := hws6.cells; (have l1 := blk_lt hws6); (have hq6 := HQ5.out.below hB6); obtain ⟨q0, q1, q2, _, _, _⟩ := hq6.cells; (have l2 := blk_lt hq6); clear hB6 hws6 hq6 hch) | (go_at_call 9; refine (speaks_ok _).mono ?_; rintro e w8 ⟨rfl, hB8⟩; (have HB8 := Aside0.mk (below_from (HB6.out.alloc HB6.out.size _) (Nat.le_refl _) hB8)); clear hB8))
                      go_ret
                      exact ⟨rfl, HB8.out⟩
                    · simp only [Prod.mk.injEq] at d2
                      rw [d2.1, d2.2.1, d2.2.2] at hch
                      clear d2
                      go_wp2_with (first | (go_at_call 16; refine hch.mono ?_; rintro e w6 ⟨rfl, hB6⟩; (have HB6 := Aside0.mk (below_from HB5.out (Nat.le_refl _) hB6)); (have hws6 := HWS5.out.below hB6); obtain ⟨u0, u1, u2, v0, v1, v2⟩ := hws6.cells; (have l1 := blk_lt hws6); (have hq6 := HQ5.out.below hB6); obtain ⟨q0, q1, q2, _, _, _⟩ := hq6.cells; (have l2 := blk_lt hq6); clear hB6 hws6 hq6 hch) | (go_at_call 9; refine (speaks_ok _).mono ?_; rintro e w8 ⟨rfl, hB8⟩; (have HB8 := Aside0.mk (below_from (HB6.out.alloc HB6.out.size _) (Nat.le_refl _) hB8)); clear hB8))
                      go_ret
                      exact ⟨rfl, HB8.out⟩
                  · have dn : (n == 0) = false := by simp [hn0]
                    have dn1 : (n + 1 == n) = false := beq_eq_false_iff_ne.mpr (by omega)
                    obtain ⟨hre, hd⟩ := ht.2 hn0
                    rw [hre] at hch
                    clear ht hn0 hre
                    rcases hd with d2 | d2
                    · simp only [Prod.mk.injEq] at d2
                      rw [d2.1, d2.2.1, d2.2.2] at hch
                      clear d2
                      go_wp2_with (first | (go_at_call 16; refine hch.mono ?_; rintro e w6 ⟨rfl, hB6⟩; (have HB6 := Aside0.mk (below_from HB5.out (Nat.le_refl _) hB6)); (have hws6 := HWS5.out.below hB6); obtain ⟨u0, u1, u2, v0, v1, v2⟩ := hws6.cells; (have l1 := blk_lt hws6); (have hq6 := HQ5.out.below hB6); obtain ⟨q0, q1, q2, _, _, _⟩ := hq6.cells; (have l2 := blk_lt hq6); clear hB6 hws6 hq6 hch) | (go_at_call 9; refine (speaks_ok _).mono ?_; rintro e w8 ⟨rfl, hB8⟩; (have HB8 := Aside0.mk (below_from (HB6.out.alloc HB6.out.size _) (Nat.le_refl _) hB8)); clear hB8))
                      go_ret
                      exact ⟨rfl, HB8.out⟩
                    · simp only [Prod.mk.injEq] at d2
                      rw [d2.1, d2.2.1, d2.2.2] at hch
                      clear d2
                      go_wp2_with (first | (go_at_call 16; refine hch.mono ?_; rintro e w6 ⟨rfl, hB6⟩; (have HB6 := Aside0.mk (below_from HB5.out (Nat.le_refl _) hB6)); (have hws6 := HWS5.out.below hB6); obtain ⟨u0, u1, u2, v0, v1, v2⟩ := hws6.cells; (have l1 := blk_lt hws6); (have hq6 := HQ5.out.below hB6); obtain ⟨q0, q1, q2, _, _, _⟩ := hq6.cells; (have l2 := blk_lt hq6); clear hB6 hws6 hq6 hch) | (go_at_call 9; refine (speaks_ok _).mono ?_; rintro e w8 ⟨rfl, hB8⟩; (have HB8 := Aside0.mk (below_from (HB6.out.alloc HB6.out.size _) (Nat.le_refl _) hB8)); clear hB8))
                      go_ret
                      exact ⟨rfl, HB8.out⟩
              · go_wp2_with (go_at_call 9; refine (speaks_ok _).mono ?_; rintro e w8 ⟨rfl, hB8⟩; (have HB8 := Aside0.mk (below_from HBw.out (Nat.le_refl _) hB8)); clear hB8)
                go_ret
                exact ⟨rfl, HB8.out⟩
        · go_upto_region 8 with (go_at_call 18; refine hnx.mono ?_; rintro e w2 ⟨u2, rfl, hR2, hB2⟩; obtain ⟨A2, c2, rfl, hc2, hC2⟩ := Kd.R_reads hR2; rw [HBL.out]; (have HBw := Aside0.mk (below_from (below_alloc (Below.refl wr.heap.size wr) (.cells #[.int .i64 x0, .int .i64 x1, .int .i64 x2] 34)) (Nat.le_refl _) hB2)); (have HB1 := Aside0.mk ((below_from HB.out (Nat.le_refl _) HBw.out).alloc (below_from HB.out (Nat.le_refl _) HBw.out).size (.cells #[.int .i64 (n + 1), .int .i64 x1, .int .i64 x2] 34))); (have HSL1 := Aside0.mk ((HSL.out.below HBw.out).below (below_alloc (Below.refl _ _) (.cells #[.int .i64 (n + 1), .int .i64 x1, .int .i64 x2] 34)))); (have HWS1 := Aside0.mk ((HWS.out.below HBw.out).below (below_alloc (Below.refl _ _) (.cells #[.int .i64 (n + 1), .int .i64 x1, .int .i64 x2] 34)))); (have HR01 : Aside0 (RB (w2.alloc (.cells #[.int .i64 (n + 1), .int .i64 x1, .int .i64 x2] 34)) (w.heap.size + 2) (.slice A0 s0.length c0) s0) := ⟨Kd.R_below (Kd.R_below HR0.out HBw.out) (below_alloc (Below.refl _ _) _)⟩); (have HR11 : Aside0 (RB (w2.alloc (.cells #[.int .i64 (n + 1), .int .i64 x1, .int .i64 x2] 34)) (w.heap.size + 2) (.slice A1 s1.length c1) s1) := ⟨Kd.R_below (Kd.R_below HR1.out HBw.out) (below_alloc (Below.refl _ _) _)⟩); (have HCb := Aside0.mk (Kd.C_below hC2 (below_alloc (Below.refl _ _) (.cells #[.int .i64 (n + 1), .int .i64 x1, .int .i64 x2] 34)))); (have HQ1 : Aside0 (PtAt 34 (w2.alloc (.cells #[.int .i64 (n + 1), .int .i64 x1, .int .i64 x2] 34)) w2.heap.size (n + 1) x1 x2) := ⟨blk_new _ _⟩); (have HZ1 : Aside0 (w.heap.size + 2 ≤ w2.heap.size) := ⟨Nat.le_trans HZ.out HBw.out.size⟩); clear hB2 hC2 hR2 hc2 hnx)
          generalize w2.heap.size = g9 at HQ1 HZ1 ⊢
          generalize w2.alloc (.cells #[.int .i64 (n + 1), .int .i64 x1, .int .i64 x2] 34) = W1 at HB1 HSL1 HWS1 HR01 HR11 HCb HQ1 ⊢
          clear g0 g1 l5 hz0 hz1 hx0 hx1 hx2
          obtain ⟨q0, q1, q2, _, _, _⟩ := HQ1.out.cells
          obtain ⟨u0, u1, u2, _, _, _⟩ := HWS1.out.cells
          obtain ⟨g0, g1, _, _⟩ := HSL1.out.cells
          have hs28 : s1.length ≤ 28 := by have := HOK.out; unfold SlOk at this; omega
          have hsb : AllB s1 := by have := HOK.out; unfold SlOk at this; exact this.2.2.1
          have HSB := Aside0.mk hsb
          have HS28 := Aside0.mk hs28
          clear hsb hs28
          go_upto_region 13 with ((with_reducible refine gate_builtin (b := .append) (xs := #[.tmp 61, .tmp 64]) rfl ?_); at_builtin; refine Kd.R_append_row (Value.int .u8) (0 : Int) (h1 := fun _ => rfl) (w0 := W1) W1.heap.size rfl (.tmp 61) (.tmp 64) 35 5 (.int .u8 0) 1 rfl Try.underlying35 info8 rfl (by decide) (.slice none 0 0) [] s1 A1 s1.length c1 (fun _ => True) rfl rfl (fun _ _ => trivial) (Kd.R_nil _ _ _ _ _) (Kd.R_reads' HR11.out).2.2 (Below.refl _ _) (Nat.le_refl _) ?aL ?_; (case aL => (have := HS28.out; simp; omega)); intro v3 w3 ho hbel hg hat; rw [List.nil_append] at ho; obtain ⟨A3, c3, rfl⟩ := Kd.R_slice ho; (have HT3 : Aside0 (RB w3 W1.heap.size (.slice A3 s1.length c3) s1) := ⟨ho⟩); (have HB3 := Aside0.mk hbel); clear ho hbel hg hat)
          clear q0 q1 q2 u0 u1 u2 g0 g1
          go_cut [78] from 66 to 78 (fun v78 wx => v78 = .bool b78 ∧ w3 = wx)
          case first =>
            rcases HCB.out with ⟨d1, rfl⟩ | ⟨d1, d2, rfl⟩ | ⟨d1, d2, d3⟩
            all_goals
              go_wp2
              go_meet
              exact ⟨rfl, rfl⟩
          case rest =>
          obtain ⟨rfl, rfl⟩ := hcut
          go_upto_if 78 with (fail)
          go_cut [14] (fun v14 wx => v14 = .int .i64 m ∧ w3 = wx)
          case first =>
            rcases HMC.out with ⟨rfl, hm⟩ | ⟨rfl, hm⟩
            · go_wp2
              go_meet
              case rel => exact ⟨by rw [hm], rfl⟩
            · go_wp2
              go_meet
              case rel => exact ⟨by rw [hm], rfl⟩
          case rest =>
          obtain ⟨rfl, rfl⟩ := hcut
          clear hw2 HMC HCB
          go_wp2
          go_loopw [13] (fun v13 wr2 => LpIn W1 m v13 wr2) (fun v13 _ => m.toNat - lenV v13)
          case atStart => exact ⟨A3, c3, s1, rfl, HT3, HB3, HSB, HS28.out⟩
          case round =>
          clear HT3 HB3
          obtain ⟨A4, c4, ys, rfl, HT4, HB4, HYB, hy28⟩ := hrel
          have hyn : ys.length ≤ 9223372036854775807 := by omega
          by_cases hym : (ys.length : Int) < m
          · have HY28 := Aside0.mk hy28
            have HYM := Aside0.mk hym
            go_wp2_with ((with_reducible refine gate_builtin (b := .append) (xs := #[.tmp 84, .tmp 85]) rfl ?_); at_builtin; refine Kd.R_append (Kd.int .u8) (w0 := W1) W1.heap.size rfl (.tmp 84) (.tmp 85) 35 5 (.int .u8 0) 1 rfl Try.underlying35 info8 rfl (by decide) (by omega) (.slice A4 ys.length c4) ys 0 [.int .u8 0] (fun _ => True) (fun _ => False) rfl rfl ?aP (fun _ hk => hk.elim) ?aF ?aO ?aB ?aS ?aL ?_; (case aP => exact rfl); (case aF => exact (fun _ _ => trivial)); (case aO => exact HT4.out); (case aB => exact HB4.out); (case aS => exact HB4.out.size); (case aL => (have := HY28.out; omega)); intro v5 w5 ho hbel hg hat; obtain ⟨A5, c5, rfl⟩ := Kd.R_slice ho; (have HO := Aside0.mk ho); (have HB5 := Aside0.mk hbel); clear ho hbel hg hat)
            refine ⟨⟨A5, c5, ys ++ [0], by simp, HO, HB5, ⟨AllB_app HYB.out (fun x hx => by rw [List.mem_singleton] at hx; subst hx; decide)⟩, by rw [List.length_append]; have := HYM.out; have := HM28.out; simp; omega⟩, ?_⟩
            have := HYM.out
            simp [lenV]
            omega
          · have hmy : m ≤ (ys.length : Int) := by omega
            have HMY := Aside0.mk hmy
            clear hmy
            go_wp2
            go_loopw [15] (fun v15 wr3 => Lp3In W1 m A4 c4 ys.length b v15 wr3) (fun v15 _ => (m - intOf v15).toNat)
            case atStart => exact ⟨0, ys, by simpa using HM0.out, rfl, rfl, HT4, HB4, HYB, ⟨by simp⟩⟩
            case round =>
            clear HT4 HB4 HYB
            obtain ⟨i, zs, him, rfl, hzl, HT, HBt, HZB, HZT⟩ := hrel
            by_cases hlt3 : (i : Int) < m
            · have hi0 : (0 : Int) ≤ (i : Int) := by omega
              have hi28 : (i : Int) < 28 := by have := HM28.out; omega
              have hiL : (i : Int) < (ys.length : Int) := by have := HMY.out; omega
              obtain ⟨ad2, rfl, hbc⟩ := Kd.at_int (Kd.C_below HCb.out HBt.out) (i : Int) hi0 (by rw [HBL.out]; omega)
              obtain ⟨g, cap, he, hcap, hg⟩ := R_form HT.out (by omega)
              injection he with he1 he2 he3
              subst he1 he3
              obtain ⟨hcell, hfree⟩ := Kd.R_celln (0 : Int) HT.out (i : Int) hi0 hiL
              have hput := Kd.R_putg HT.out (i : Int) (rd b (i : Int))
              rw [Int.toNat_natCast] at hcell hfree hbc hput
              have hzb : AllB (zs.set i (rd b (i : Int))) := by
                intro x hx
                rcases List.mem_or_eq_of_mem_set hx with hx | rfl
                · exact HZB.out x hx
                · unfold rd
                  rw [Int.toNat_natCast, List.getD_eq_getElem?_getD, List.getElem?_eq_getElem (by have := HBL.out; omega)]
                  exact HBB.out _ (List.getElem_mem _)
              have hzt : (zs.set i (rd b (i : Int))).take (i + 1) = b.take (i + 1) := by
                have hil : i < zs.length := by omega
                have hib : i < b.length := by have := HBL.out; omega
                have hz := HZT.out
                rw [List.take_add_one, List.take_add_one, List.take_set_of_le (Nat.le_refl i), hz, List.getElem?_set_self hil, List.getElem?_eq_getElem hib]
                unfold rd
                rw [Int.toNat_natCast, List.getD_eq_getElem?_getD, List.getElem?_eq_getElem hib]
                rfl
              generalize rd b (i : Int) = z at hbc hput hzb hzt
              generalize rdOf (0 : Int) zs (i : Int) = z0 at hcell
              have HPUT := Aside0.mk hput
              have HZB2 := Aside0.mk hzb
              have HZT2 := Aside0.mk hzt
              have HG := Aside0.mk hg
              have HZL := Aside0.mk hzl
              clear hput hzb hzt hg he2 hcap hzl
              go_wp2
              refine ⟨⟨i + 1, zs.set i z, by omega, by simp, by rw [List.length_set]; exact HZL.out, ⟨HPUT.out.1⟩, ⟨pw_below_grown HBt.out _ HBt.out.size HPUT.out.2 (fun k e => by injection e with e; rw [← e]; exact HG.out)⟩, HZB2, HZT2⟩, ?_⟩
              simp [intOf]
              omega
            · have him2 : (i : Int) = m := by omega
              have hzsb : m = 28 → zs = b := by
                intro h
                have hi28 : i = 28 := by omega
                have hz := HZT.out
                rw [hi28, List.take_of_length_le (by omega), List.take_of_length_le (by have := HBL.out; omega)] at hz
                exact hz
              have hrr := Kd.R_reads' HT.out
              have hrd := refdecode_ok A4 c4 zs wr hrr.2.2 (by omega) HZB.out (by omega)
              rw [hzl] at hrd
              obtain ⟨X, hX⟩ : ∃ X, X = decF zs := ⟨_, rfl⟩
              have hgd : Good X := by rw [hX]; exact decF_good zs
              have hX28 : m = 28 → X = ((n + 1, x1, x2), 0) := fun h => by rw [hX, hzsb h]; exact HBD.out
              rw [← hX] at hrd
              obtain ⟨⟨y0, y1, y2⟩, ye⟩ := X
              dsimp only at hrd
              have hb121 : ∃ b121 : Bool, (b121 = false → ye ≠ 0 ∨ (y0, y1, y2) = (n + 1, x1, x2) ∨ (y0, y1, y2) = (n, p1, p2)) ∧ (((ye == 0) = false ∧ b121 = false) ∨ ((ye == 0) = true ∧ (n + 1 == y0 && x1 == y1 && x2 == y2) = true ∧ b121 = false) ∨ ((ye == 0) = true ∧ (n + 1 == y0 && x1 == y1 && x2 == y2) = false ∧ (n == y0 && p1 == y1 && p2 == y2) = true ∧ b121 = false) ∨ ((ye == 0) = true ∧ (n + 1 == y0 && x1 == y1 && x2 == y2) = false ∧ (n == y0 && p1 == y1 && p2 == y2) = false ∧ decide (m < 28) = true ∧ b121 = true)) := by
                by_cases he : ye = 0
                · have he2 : (ye == 0) = true := by simp [he]
                  rcases hq : (n + 1 == y0 && x1 == y1 && x2 == y2)
                  · have hm : m < 28 := by
                      have h28 := HM28.out
                      by_cases h : m = 28
                      · have hx := hX28 h
                        simp only [Prod.mk.injEq] at hx
                        simp [hx] at hq
                      · omega
                    rcases hw : (n == y0 && p1 == y1 && p2 == y2)
                    · exact ⟨true, fun h => (by cases h), .inr (.inr (.inr ⟨he2, rfl, rfl, decide_eq_true hm, rfl⟩))⟩
                    · refine ⟨false, fun _ => .inr (.inr ?_), .inr (.inr (.inl ⟨he2, rfl, rfl, rfl⟩))⟩
                      simp only [Bool.and_eq_true, beq_iff_eq] at hw
                      rw [← hw.1.1, ← hw.1.2, ← hw.2]
                  · refine ⟨false, fun _ => .inr (.inl ?_), .inr (.inl ⟨he2, rfl, rfl⟩)⟩
                    simp only [Bool.and_eq_true, beq_iff_eq] at hq
                    rw [← hq.1.1, ← hq.1.2, ← hq.2]
                · exact ⟨false, fun _ => .inl he, .inl ⟨by simp [he], rfl⟩⟩
              obtain ⟨b121, hbf, hb121⟩ := hb121
              have HBF := Aside0.mk hbf
              have HB121 := Aside0.mk hb121
              have HX := Aside0.mk hX
              have HX28 := Aside0.mk hX28
              have HGD := Aside0.mk hgd
              have HZL := Aside0.mk hzl
              have HY28 := Aside0.mk hy28
              clear hbf hb121 hX hX28 hgd hzsb hrr him2 hzl hy28
              go_upto_region 22 with (go_at_call 14; refine hrd.mono ?_; rintro e w4 ⟨rfl, hB4⟩; (have HB4 : Aside0 (Below W1.heap.size W1 (w4.alloc (.cells #[.int .i64 y0, .int .i64 y1, .int .i64 y2] 40))) := ⟨(below_from HBt.out (Nat.le_refl _) hB4).alloc (below_from HBt.out (Nat.le_refl _) hB4).size _⟩); (have HT4 : Aside0 (RB (w4.alloc (.cells #[.int .i64 y0, .int .i64 y1, .int .i64 y2] 40)) W1.heap.size (.slice A4 ys.length c4) zs) := ⟨Kd.R_below (Kd.R_below HT.out hB4) (below_alloc (Below.refl _ _) _)⟩); (have HY4 : Aside0 (PtAt 40 (w4.alloc (.cells #[.int .i64 y0, .int .i64 y1, .int .i64 y2] 40)) w4.heap.size y0 y1 y2) := ⟨blk_new _ _⟩); clear hB4 hrd)
              generalize w4.heap.size = gy at HY4 ⊢
              generalize w4.alloc (.cells #[.int .i64 y0, .int .i64 y1, .int .i64 y2] 40) = W4 at HB4 HT4 HY4 ⊢
              clear HT HBt HZT
              obtain ⟨q0, q1, q2, _, _, _⟩ := (HQ1.out.below HB4.out).cells
              obtain ⟨e0, e1, e2, _, _, _⟩ := HY4.out.cells
              go_cut [121] from 104 to 121 (fun v121 wx => v121 = .bool b121 ∧ Below W4.heap.size W4 wx)
              case first =>
                rcases HB121.out with ⟨d1, rfl⟩ | ⟨d1, hsq, rfl⟩ | ⟨d1, hsq, hsw, rfl⟩ | ⟨d1, hsq, hsw, d4, rfl⟩
                · go_wp2
                  go_meet
                  exact ⟨rfl, Below.refl _ _⟩
                · have HSQ := Aside0.mk hsq
                  clear hsq
                  go_wp2_with (go_at_call 15; with_reducible refine (same_ok (n + 1) x1 x2 y0 y1 y2 _).mono ?_; rintro e w7 ⟨rfl, hB7⟩; rw [HSQ.out]; obtain ⟨u0, u1, u2, _, _, _⟩ := ((HWS1.out.below HB4.out).below hB7).cells; (have HB7 := Aside0.mk hB7); clear q0 q1 q2 e0 e1 e2; obtain ⟨e0, e1, e2, _, _, _⟩ := (HY4.out.below hB7).cells; clear hB7)
                  go_meet
                  exact ⟨rfl, HB7.out⟩
                · have HSQ := Aside0.mk hsq
                  have HSW := Aside0.mk hsw
                  clear hsq hsw
                  go_wp2_with (first | (go_at_call 15; with_reducible refine (same_ok (n + 1) x1 x2 y0 y1 y2 _).mono ?_; rintro e w7 ⟨rfl, hB7⟩; rw [HSQ.out]; obtain ⟨u0, u1, u2, _, _, _⟩ := ((HWS1.out.below HB4.out).below hB7).cells; (have HB7 := Aside0.mk hB7); clear q0 q1 q2 e0 e1 e2; obtain ⟨e0, e1, e2, _, _, _⟩ := (HY4.out.below hB7).cells; clear hB7) | (go_at_call 15; with_reducible refine (same_ok n p1 p2 y0 y1 y2 _).mono ?_; rintro e w8 ⟨rfl, hB8⟩; rw [HSW.out]; (have HB8 := Aside0.mk (below_from HB7.out (Nat.le_refl _) hB8)); clear hB8))
                  go_meet
                  exact ⟨rfl, HB8.out⟩
                · have HSQ := Aside0.mk hsq
                  have HSW := Aside0.mk hsw
                  clear hsq hsw
                  go_wp2_with (first | (go_at_call 15; with_reducible refine (same_ok (n + 1) x1 x2 y0 y1 y2 _).mono ?_; rintro e w7 ⟨rfl, hB7⟩; rw [HSQ.out]; obtain ⟨u0, u1, u2, _, _, _⟩ := ((HWS1.out.below HB4.out).below hB7).cells; (have HB7 := Aside0.mk hB7); clear q0 q1 q2 e0 e1 e2; obtain ⟨e0, e1, e2, _, _, _⟩ := (HY4.out.below hB7).cells; clear hB7) | (go_at_call 15; with_reducible refine (same_ok n p1 p2 y0 y1 y2 _).mono ?_; rintro e w8 ⟨rfl, hB8⟩; rw [HSW.out]; (have HB8 := Aside0.mk (below_from HB7.out (Nat.le_refl _) hB8)); clear hB8))
                  go_meet
                  exact ⟨rfl, HB8.out⟩
              case rest =>
              obtain ⟨rfl, hBx⟩ := hcut
              have HBx := Aside0.mk (below_from HB4.out (Nat.le_refl _) hBx)
              have HBw := Aside0.mk (below_from HB1.out (Nat.le_refl _) HBx.out)
              have HSLx := Aside0.mk (HSL1.out.below HBx.out)
              have HWSx := Aside0.mk (HWS1.out.below HBx.out)
              have HQx := Aside0.mk (HQ1.out.below HBx.out)
              have HWZ : Aside0 (w.heap.size + 2 ≤ W1.heap.size) := ⟨by have := HZ1.out; have := blk_lt HQ1.out; omega⟩
              have HTx : Aside0 (RB wc (w.heap.size + 2) (.slice A4 ys.length c4) zs) := ⟨Kd.R_lower (Kd.R_below HT4.out hBx) HWZ.out⟩
              have HR0x : Aside0 (RB wc (w.heap.size + 2) (.slice A0 s0.length c0) s0) := ⟨Kd.R_below HR01.out HBx.out⟩
              have HR1x : Aside0 (RB wc (w.heap.size + 2) (.slice A1 s1.length c1) s1) := ⟨Kd.R_below HR11.out HBx.out⟩
              have HZx : Aside0 (w.heap.size + 2 ≤ wc.heap.size) := ⟨Nat.le_trans HWZ.out HBx.out.size⟩
              clear hBx q0 q1 q2 e0 e1 e2
              cases b121
              · have hxf := HBF.out rfl
                have hc5 := Kd.R_reads' (RB_far HTx.out (show w.heap.size < w.heap.size + 2 by omega) (.slice A4 ys.length c4) (p := ⟨w.heap.size, 1, none⟩))
                have hc6 := Kd.R_reads' (RB_far HR0x.out (show w.heap.size < w.heap.size + 2 by omega) (.slice A4 ys.length c4) (p := ⟨w.heap.size, 1, none⟩))
                have hob : AllB s0 := by have := HOK.out; unfold SlOk at this; exact this.1
                have hol : s0.length ≤ 28 := by have := HOK.out; unfold SlOk at this; omega
                have hch := choose_ok A0 c0 s0 A4 c4 zs (wc.setCell ⟨w.heap.size, 1, none⟩ (.slice A4 ys.length c4)) hc6.2.2 hc6.2.1 hob (by omega) hc5.2.2 (by omega) HZB.out (by have := HZL.out; have := HY28.out; omega)
                rw [HZL.out, ← HX.out] at hch
                have hsl5 : SlAt (wc.setCell ⟨w.heap.size, 1, none⟩ (.slice A4 ys.length c4)) w.heap.size (.slice A0 s0.length c0) (.slice A4 ys.length c4) := blk_put HSLx.out 1 _ rfl
                have HSL5 := Aside0.mk hsl5
                have HWS5 : Aside0 (PtAt 34 (wc.setCell ⟨w.heap.size, 1, none⟩ (.slice A4 ys.length c4)) (w.heap.size + 1) n p1 p2) := ⟨HWSx.out.far (show w.heap.size + 1 ≠ w.heap.size by omega) _⟩
                have HQ5 : Aside0 (PtAt 34 (wc.setCell ⟨w.heap.size, 1, none⟩ (.slice A4 ys.length c4)) g9 (n + 1) x1 x2) := ⟨HQx.out.far (show g9 ≠ w.heap.size by have := HZ1.out; omega) _⟩
                have HB5 : Aside0 (Below w.heap.size w (wc.setCell ⟨w.heap.size, 1, none⟩ (.slice A4 ys.length c4))) := ⟨below_set HBw.out (Nat.le_refl _)⟩
                have HT5 : Aside0 (RB (wc.setCell ⟨w.heap.size, 1, none⟩ (.slice A4 ys.length c4)) (w.heap.size + 2) (.slice A4 ys.length c4) zs) := ⟨RB_far HTx.out (show w.heap.size < w.heap.size + 2 by omega) _⟩
                have HO5 : Aside0 (RB (wc.setCell ⟨w.heap.size, 1, none⟩ (.slice A4 ys.length c4)) (w.heap.size + 2) (.slice A0 s0.length c0) s0) := ⟨RB_far HR0x.out (show w.heap.size < w.heap.size + 2 by omega) _⟩
                have HZ5 : Aside0 (w.heap.size + 2 ≤ (wc.setCell ⟨w.heap.size, 1, none⟩ (.slice A4 ys.length c4)).heap.size) := ⟨Nat.le_trans HZx.out (Chg.setCell _ _ _).size⟩
                have HOB := Aside0.mk hob
                have HOL := Aside0.mk hol
                have hg5 := HSLx.out.cells
                obtain ⟨g0, g1, f0, f1⟩ := hg5
                have hne := nePt
                have heq := eqPt
                clear hob hol hc5 hc6 hsl5
                by_cases h28 : m = 28
                · have hfull := full1 (p := (n, p1, p2)) (l := x1) (r := x2) HCASE.out.1 HCASE.out.2 (HX28.out h28)
                  rw [hfull.1] at hch
                  dsimp only at hch
                  have hx28 := HX28.out h28
                  have hld := hfull.2
                  rw [HX.out] at hld
                  have HLD := Aside0.mk hld
                  have d28 : (m == 28) = true := by simp [h28]
                  clear hfull hx28 hld h28 hxf
                  go_wp2_with (go_at_call 16; refine hch.mono ?_; rintro e w6 ⟨rfl, hB6⟩; (have HB6 := Aside0.mk hB6); (have hws6 := HWS5.out.below hB6); obtain ⟨u0, u1, u2, v0, v1, v2⟩ := hws6.cells; (have l1 := blk_lt hws6); (have hq6 := HQ5.out.below hB6); obtain ⟨q0, q1, q2, _, _, _⟩ := hq6.cells; (have l2 := blk_lt hq6); clear hB6 hws6 hq6 hch)
                  have hA : SlAt (((((w6.setCell ⟨w.heap.size + 1, 0, none⟩ (.int .i64 (n + 1))).setCell ⟨w.heap.size + 1, 1, none⟩ (.int .i64 x1)).setCell ⟨w.heap.size + 1, 2, none⟩ (.int .i64 x2))).alloc (.cells #[.int .i64 (n + 1), .int .i64 x1, .int .i64 x2] 34)) w.heap.size (.slice A0 s0.length c0) (.slice A4 ys.length c4) := ((((HSL5.out.below HB6.out).far (show w.heap.size ≠ w.heap.size + 1 by omega) _).far (show w.heap.size ≠ w.heap.size + 1 by omega) _).far (show w.heap.size ≠ w.heap.size + 1 by omega) _).below (below_alloc (Below.refl _ _) _)
                  have hT : RB (((((w6.setCell ⟨w.heap.size + 1, 0, none⟩ (.int .i64 (n + 1))).setCell ⟨w.heap.size + 1, 1, none⟩ (.int .i64 x1)).setCell ⟨w.heap.size + 1, 2, none⟩ (.int .i64 x2))).alloc (.cells #[.int .i64 (n + 1), .int .i64 x1, .int .i64 x2] 34)) (w.heap.size + 2) (.slice A4 ys.length c4) zs := Kd.R_below (RB_far (RB_far (RB_far (Kd.R_below HT5.out HB6.out) (show w.heap.size + 1 < w.heap.size + 2 by omega) _) (show w.heap.size + 1 < w.heap.size + 2 by omega) _) (show w.heap.size + 1 < w.heap.size + 2 by omega) _) (below_alloc (Below.refl _ _) _)
                  rw [← HZL.out] at hA hT
                  have hz28 : zs.length ≤ 28 := by rw [HZL.out]; exact HY28.out
                  have hbs := below_set3 (g := w.heap.size + 1) (a := .int .i64 (n + 1)) (b := .int .i64 x1) (c := .int .i64 x2) (below_from HB5.out (Nat.le_refl _) HB6.out) (by omega)
                  exact ⟨⟨k + 1, A0, A4, c0, c4, s0, zs, n + 1, x1, x2, by omega, by simp, ⟨hA⟩, ⟨((HWS5.out.below HB6.out).set3 (n + 1) x1 x2).below (below_alloc (Below.refl _ _) _)⟩, ⟨Kd.R_below (RB_far (RB_far (RB_far (Kd.R_below HO5.out HB6.out) (show w.heap.size + 1 < w.heap.size + 2 by omega) _) (show w.heap.size + 1 < w.heap.size + 2 by omega) _) (show w.heap.size + 1 < w.heap.size + 2 by omega) _) (below_alloc (Below.refl _ _) _)⟩, ⟨hT⟩, ⟨⟨HOB.out, HOL.out, HZB.out, hz28, HLD.out⟩⟩, ⟨hbs.alloc hbs.size _⟩, ⟨Nat.le_trans HZ5.out (Nat.le_trans HB6.out.size (Nat.le_trans (Chg.setCell _ _ _).size (Nat.le_trans (Chg.setCell _ _ _).size (Nat.le_trans (Chg.setCell _ _ _).size (below_alloc (Below.refl _ _) _).size))))⟩⟩, by simp [intOf]; omega⟩
                · have ht := torn1 (p := (n, p1, p2)) (l := x1) (r := x2) HGD.out HCASE.out.1 HCASE.out.2 hxf
                  generalize chooseD (decF s0) ((y0, y1, y2), ye) = R at hch ht
                  obtain ⟨⟨r0, r1, r2⟩, ra, re⟩ := R
                  unfold TornOk at ht
                  dsimp only at hch ht
                  have d28 : (m == 28) = false := by simp [h28]
                  clear h28 hxf
                  by_cases hn0 : n = 0
                  · have dn : (n == 0) = true := by simp [hn0]
                    have hd : (re != 0) = true ∨ ((re != 0) = false ∧ (r0, r1, r2) = (n + 1, x1, x2)) := by
                      rcases hre : (re != 0)
                      · refine .inr ⟨rfl, (ht.1 hn0).resolve_left (fun h => h ?_)⟩
                        simpa using hre
                      · exact .inl rfl
                    clear ht hn0
                    rcases hd with d1 | ⟨d1, d2⟩
                    · go_wp2_with (first | (go_at_call 16; refine hch.mono ?_; rintro e w6 ⟨rfl, hB6⟩; (have HB6 := Aside0.mk (below_from HB5.out (Nat.le_refl _) hB6)); (have hws6 := HWS5.out.below hB6); obtain ⟨u0, u1, u2, v0, v1, v2⟩ := hws6.cells; (have l1 := blk_lt hws6); (have hq6 := HQ5.out.below hB6); obtain ⟨q0, q1, q2, _, _, _⟩ := hq6.cells; (have l2 := blk_lt hq6); clear hB6 hws6 hq6 hch) | (go_at_call 9; refine (speaks_ok _).mono ?_; rintro e w8 ⟨rfl, hB8⟩; (have HB8 := Aside0.mk (below_from (HB6.out.alloc HB6.out.size _) (Nat.le_refl _) hB8)); clear hB8))
                      go_ret
                      exact ⟨rfl, HB8.out⟩
                    · simp only [Prod.mk.injEq] at d2
                      rw [d2.1, d2.2.1, d2.2.2] at hch
                      clear d2
                      go_wp2_with (first | (go_at_call 16; refine hch.mono ?_; rintro e w6 ⟨rfl, hB6⟩; (have HB6 := Aside0.mk (below_from HB5.out (Nat.le_refl _) hB6)); (have hws6 := HWS5.out.below hB6); obtain ⟨u0, u1, u2, v0, v1, v2⟩ := hws6.cells; (have l1 := blk_lt hws6); (have hq6 := HQ5.out.below hB6); obtain ⟨q0, q1, q2, _, _, _⟩ := hq6.cells; (have l2 := blk_lt hq6); clear hB6 hws6 hq6 hch) | (go_at_call 9; refine (speaks_ok _).mono ?_; rintro e w8 ⟨rfl, hB8⟩; (have HB8 := Aside0.mk (below_from (HB6.out.alloc HB6.out.size _) (Nat.le_refl _) hB8)); clear hB8))
                      go_ret
                      exact ⟨rfl, HB8.out⟩
                  · have dn : (n == 0) = false := by simp [hn0]
                    have dn1 : (n + 1 == n) = false := beq_eq_false_iff_ne.mpr (by omega)
                    obtain ⟨hre, hd⟩ := ht.2 hn0
                    rw [hre] at hch
                    clear ht hn0 hre
                    rcases hd with d2 | d2
                    · simp only [Prod.mk.injEq] at d2
                      rw [d2.1, d2.2.1, d2.2.2] at hch
                      clear d2
                      go_wp2_with (first | (go_at_call 16; refine hch.mono ?_; rintro e w6 ⟨rfl, hB6⟩; (have HB6 := Aside0.mk (below_from HB5.out (Nat.le_refl _) hB6)); (have hws6 := HWS5.out.below hB6); obtain ⟨u0, u1, u2, v0, v1, v2⟩ := hws6.cells; (have l1 := blk_lt hws6); (have hq6 := HQ5.out.below hB6); obtain ⟨q0, q1, q2, _, _, _⟩ := hq6.cells; (have l2 := blk_lt hq6); clear hB6 hws6 hq6 hch) | (go_at_call 9; refine (speaks_ok _).mono ?_; rintro e w8 ⟨rfl, hB8⟩; (have HB8 := Aside0.mk (below_from (HB6.out.alloc HB6.out.size _) (Nat.le_refl _) hB8)); clear hB8))
                      go_ret
                      exact ⟨rfl, HB8.out⟩
                    · simp only [Prod.mk.injEq] at d2
                      rw [d2.1, d2.2.1, d2.2.2] at hch
                      clear d2
                      go_wp2_with (first | (go_at_call 16; refine hch.mono ?_; rintro e w6 ⟨rfl, hB6⟩; (have HB6 := Aside0.mk (below_from HB5.out (Nat.le_refl _) hB6)); (have hws6 := HWS5.out.below hB6); obtain ⟨u0, u1, u2, v0, v1, v2⟩ := hws6.cells; (have l1 := blk_lt hws6); (have hq6 := HQ5.out.below hB6); obtain ⟨q0, q1, q2, _, _, _⟩ := hq6.cells; (have l2 := blk_lt hq6); clear hB6 hws6 hq6 hch) | (go_at_call 9; refine (speaks_ok _).mono ?_; rintro e w8 ⟨rfl, hB8⟩; (have HB8 := Aside0.mk (below_from (HB6.out.alloc HB6.out.size _) (Nat.le_refl _) hB8)); clear hB8))
                      go_ret
                      exact ⟨rfl, HB8.out⟩
              · go_wp2_with (go_at_call 9; refine (speaks_ok _).mono ?_; rintro e w8 ⟨rfl, hB8⟩; (have HB8 := Aside0.mk (below_from HBw.out (Nat.le_refl _) hB8)); clear hB8)
                go_ret
                exact ⟨rfl, HB8.out⟩
    · have hnlt : ¬ (k : Int) < (l.length : Int) := by omega
      go_wp2_with (go_at_call 9; refine (speaks_ok _).mono ?_; rintro e w8 ⟨rfl, hB8⟩; (have HB8 := Aside0.mk (below_from HB.out (Nat.le_refl _) hB8)); clear hB8)
      go_ret
      exact ⟨rfl, HB8.out⟩
end Go.Proofs.Ytbpnigldojpapaa.Points
