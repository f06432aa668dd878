/- Which of two slots counts: package points' answer and the document's. -/
import Derived.Test.YtbpnigldojpapaaPointsRef
namespace Go.Proofs.Ytbpnigldojpapaa.Points
open Go.RowKit Go.Proofs.YtbpnigldojpapaaW.PrintWords Go.Proofs.YtbpnigldojpapaaW.PrintLast Go.Proofs.YtbpnigldojpapaaW.PrintMore Go.Proofs.Ytbpnigldojpapaa.Wire Go.Proofs.Ytbpnigldojpapaa.Crc
open Go.Proofs.Ytbpnigldojpapaa.Back (AllB numB numB_small)
set_option linter.unusedVariables false
set_option linter.unusedSimpArgs false
/-- a decoded checkpoint -/
abbrev Dec := (Int × Int × Int) × Int
def chooseD (da db : Dec) : (Int × Int × Int) × Int × Int :=
  if da.2 ≠ 0 ∧ db.2 ≠ 0 then ((0, 0, 0), 0, 6) else if da.2 = 0 ∧ (db.2 ≠ 0 ∨ da.1.1 ≥ db.1.1) then (da.1, 0, 0) else (db.1, 1, 0)
/-- what a decoded checkpoint is -/
def Good (d : Dec) : Prop := (d.2 ≠ 0 ∧ d.1 = (0, 0, 0)) ∨ (d.2 = 0 ∧ okPt d.1.1 d.1.2.1 d.1.2.2 = true)
theorem decF_good (xs : List Int) : Good (decF xs) := by
  unfold decF
  split
  · exact .inl ⟨by decide, rfl⟩
  · split
    · exact .inl ⟨by decide, rfl⟩
    · unfold decY decV
      split
      · rename_i h
        exact .inr ⟨rfl, h.2⟩
      · exact .inl ⟨by decide, rfl⟩
theorem Good.nonneg {d : Dec} (h : Good d) : 0 ≤ d.1.1 ∧ d.1.1 ≤ 1099511627776 ∧ (d.2 = 0 → 1 ≤ d.1.1) ∧ (d.2 ≠ 0 → d.1.1 = 0) := by
  rcases h with ⟨h1, h2⟩ | ⟨h1, h2⟩
  · rw [h2]
    exact ⟨by decide, by decide, fun h => absurd h h1, fun _ => rfl⟩
  · have := okPt_iff.1 h2
    exact ⟨by omega, by omega, fun _ => this.1, fun h => absurd h1 h⟩
def chB (da db : Dec) : Int × Int × Int := if db.2 = 0 ∧ db.1.1 > da.1.1 then db.1 else da.1
def chA (da db : Dec) : Int := if db.2 = 0 ∧ db.1.1 > da.1.1 then 1 else 0
def chC (da db : Dec) : (Int × Int × Int) × Int × Int := if (chB da db).1 = 0 then ((0, 0, 0), 0, 6) else (chB da db, chA da db, 0)
/-- As the rounds find it. -/
theorem choose_eq {da db : Dec} (ha : Good da) (hb : Good db) : chooseD da db = chC da db := by
  have h1 := ha.nonneg
  have h2 := hb.nonneg
  unfold chooseD chC chB chA
  by_cases hc : db.2 = 0 ∧ db.1.1 > da.1.1
  · simp only [if_pos hc]
    rw [if_neg (fun h => h.2 hc.1), if_neg (fun h => h.2.elim (fun h => h hc.1) (fun h => by omega)), if_neg (by have := h2.2.2.1 hc.1; omega)]
  · simp only [if_neg hc]
    by_cases ea : da.2 = 0
    · have h5 : db.2 ≠ 0 ∨ da.1.1 ≥ db.1.1 := by
        by_cases eb : db.2 = 0
        · exact .inr (by omega)
        · exact .inl eb
      rw [if_neg (show ¬ (da.2 ≠ 0 ∧ db.2 ≠ 0) from fun h => h.1 ea), if_pos (show da.2 = 0 ∧ (db.2 ≠ 0 ∨ da.1.1 ≥ db.1.1) from ⟨ea, h5⟩), if_neg (show ¬ da.1.1 = 0 by have := h1.2.2.1 ea; omega)]
    · have h3 := h1.2.2.2 ea
      rw [if_pos h3, if_pos]
      refine ⟨ea, fun eb => hc ⟨eb, ?_⟩⟩
      have := h2.2.2.1 eb
      omega
theorem PtAt.far3 {T : TypeId} {w : World} {g g' : Nat} {n l r : Int} (h : PtAt T w g n l r) (hg : g ≠ g') (a b c : Value) : PtAt T (((w.setCell ⟨g', 0, none⟩ a).setCell ⟨g', 1, none⟩ b).setCell ⟨g', 2, none⟩ c) g n l r := ((h.far hg a).far hg b).far hg c
theorem ixs0 (W : World) (A B : Option Addr) (n ca m cb : Nat) : (Instr.index 58 (.agg #[.slice A n ca, .slice B m cb]) (.int .i64 0)).run Try.prog W = .ok (.slice A n ca) W := by kernel_rfl
theorem ixs1 (W : World) (A B : Option Addr) (n ca m cb : Nat) : (Instr.index 58 (.agg #[.slice A n ca, .slice B m cb]) (.int .i64 1)).run Try.prog W = .ok (.slice B m cb) W := by kernel_rfl
def ChIn (w : World) (da db : Dec) (v8 v17 : Value) (wr : World) : Prop :=
  ∃ (i : Nat) (x y z a : Int), i ≤ 2 ∧ v17 = .int .i64 i ∧ v8 = .int .i64 a ∧ Aside0 (PtAt 34 wr w.heap.size 0 0 0) ∧ Aside0 (PtAt 34 wr (w.heap.size + 1) x y z) ∧ Aside0 (Below w.heap.size w wr) ∧
    ((i = 0 ∧ (x, y, z) = (0, 0, 0) ∧ a = 0) ∨ (i = 1 ∧ (x, y, z) = da.1 ∧ a = 0) ∨ (i = 2 ∧ (x, y, z) = chB da db ∧ a = chA da db))
set_option maxRecDepth 100000 in
set_option maxHeartbeats 8000000 in
theorem choose_ok (A : Option Addr) (ca : Nat) (a : List Int) (B : Option Addr) (cb : Nat) (b : List Int) (w : World) (hra : Kd.C (Kd.int .u8) w A a.length a) (hca : a.length ≤ ca) (hba : AllB a) (hla : a.length ≤ 140737488355328) (hrb : Kd.C (Kd.int .u8) w B b.length b) (hcb : b.length ≤ cb) (hbb : AllB b) (hlb : b.length ≤ 140737488355328) :
    Calls Try.prog 16 #[.slice A a.length ca, .slice B b.length cb] w fun e w' => e = .returned (.tuple #[.agg #[.int .i64 (chooseD (decF a) (decF b)).1.1, .int .i64 (chooseD (decF a) (decF b)).1.2.1, .int .i64 (chooseD (decF a) (decF b)).1.2.2], .int .i64 (chooseD (decF a) (decF b)).2.1, .int .i64 (chooseD (decF a) (decF b)).2.2]) ∧ Below w.heap.size w w' := by
  have hda := fun W (hB : Below w.heap.size w W) => decode_ok A ca a W (Kd.C_below hra hB) hca hba hla
  have hdb := fun W (hB : Below w.heap.size w W) => decode_ok B cb b W (Kd.C_below hrb hB) hcb hbb hlb
  have hga := decF_good a
  have hgb := decF_good b
  rw [choose_eq hga hgb]
  generalize decF a = da at *
  generalize decF b = db at *
  obtain ⟨⟨dn, dl, dr⟩, de⟩ := da
  obtain ⟨⟨en, el, er⟩, ee⟩ := db
  dsimp only at hda hdb hga hgb
  have HDA := Aside0.mk hda
  have HDB := Aside0.mk hdb
  have HGA := Aside0.mk hga
  have HGB := Aside0.mk hgb
  have hsz : (w.alloc (.cells #[.int .i64 0, .int .i64 0, .int .i64 0] 34)).heap.size = w.heap.size + 1 := by
    show (w.heap.push _).size = _
    simp
  have hp1 : PtAt 34 ((w.alloc (.cells #[.int .i64 0, .int .i64 0, .int .i64 0] 34)).alloc (.cells #[.int .i64 0, .int .i64 0, .int .i64 0] 34)) w.heap.size 0 0 0 := PtAt.below (blk_new _ _) (below_alloc (Below.refl _ _) _)
  have hp2 : PtAt 34 ((w.alloc (.cells #[.int .i64 0, .int .i64 0, .int .i64 0] 34)).alloc (.cells #[.int .i64 0, .int .i64 0, .int .i64 0] 34)) (w.heap.size + 1) 0 0 0 := by rw [← hsz]; exact blk_new _ _
  have hb2 : Below w.heap.size w ((w.alloc (.cells #[.int .i64 0, .int .i64 0, .int .i64 0] 34)).alloc (.cells #[.int .i64 0, .int .i64 0, .int .i64 0] 34)) := below_alloc (below_alloc (Below.refl _ _) _) _
  have HP1 := Aside0.mk hp1
  have HP2 := Aside0.mk hp2
  have HB2 := Aside0.mk hb2
  have hna : a.length ≤ 9223372036854775807 := hra.2.1
  have hnb : b.length ≤ 9223372036854775807 := hrb.2.1
  clear hda hdb hga hgb hsz hp1 hp2 hb2 hra hca hba hla hrb hcb hbb hlb
  go_enter Try.func16, Try.ntmps16
  go_wp2
  go_loopw [8, 17] (fun v8 v17 wr => ChIn w ((dn, dl, dr), de) ((en, el, er), ee) v8 v17 wr) (fun _ v17 _ => 2 - (intOf v17).toNat)
  case atStart => exact ⟨0, 0, 0, 0, 0, by omega, rfl, rfl, HP1, HP2, HB2, .inl ⟨rfl, rfl, rfl⟩⟩
  case round =>
    obtain ⟨i, x, y, z, at_, hi, rfl, rfl, HR, HQ, HB, hst⟩ := hrel
    have hl : w.heap.size + 1 < wr.heap.size := blk_lt HQ.out
    obtain ⟨q0, q1, q2, f0, f1, f2⟩ := HQ.out.cells
    rcases hst with ⟨rfl, hxyz, rfl⟩ | ⟨rfl, hxyz, rfl⟩ | ⟨rfl, hxyz, hat⟩
    · obtain ⟨rfl, rfl, rfl⟩ : x = 0 ∧ y = 0 ∧ z = 0 := by simpa using hxyz
      have hd := HDA.out wr HB.out
      have hxs := ixs0
      rcases HGA.out with ⟨h1, h2⟩ | ⟨h1, h2⟩
      · dsimp only at h1 h2
        obtain ⟨rfl, rfl, rfl⟩ : dn = 0 ∧ dl = 0 ∧ dr = 0 := by simpa using h2
        have d0 : (de == 0) = false := beq_eq_false_iff_ne.mpr h1
        clear h1 h2 hxyz q0 q1 q2 f0 f1 f2 hl
        go_wp2_with (go_at_call 13; refine hd.mono ?_; rintro e w5 ⟨rfl, hB5⟩; obtain ⟨q0, q1, q2, f0, f1, f2⟩ := (HQ.out.below hB5).cells; (have HQ5 := Aside0.mk (HQ.out.below hB5)); (have HR5 := Aside0.mk (HR.out.below hB5)); (have l5 := blk_lt (HQ.out.below hB5)); (have HB5 := Aside0.mk (below_from HB.out (Nat.le_refl _) hB5)); clear hB5 hd)
        exact ⟨⟨1, _, _, _, _, by omega, rfl, rfl, ⟨(HR5.out.below (below_alloc (Below.refl _ _) _))⟩, ⟨(HQ5.out.below (below_alloc (Below.refl _ _) _))⟩, ⟨HB5.out.alloc HB5.out.size _⟩, .inr (.inl ⟨rfl, rfl, rfl⟩)⟩, by decide⟩
      · dsimp only at h1 h2
        subst h1
        have hn := (okPt_iff.1 h2).1
        have d0 : decide (dn > 0) = true := decide_eq_true (by omega)
        clear hn h2 hxyz q0 q1 q2 f0 f1 f2 hl
        go_wp2_with (go_at_call 13; refine hd.mono ?_; rintro e w5 ⟨rfl, hB5⟩; obtain ⟨q0, q1, q2, f0, f1, f2⟩ := (HQ.out.below hB5).cells; (have HQ5 := Aside0.mk (HQ.out.below hB5)); (have HR5 := Aside0.mk (HR.out.below hB5)); (have l5 := blk_lt (HQ.out.below hB5)); (have HB5 := Aside0.mk (below_from HB.out (Nat.le_refl _) hB5)); clear hB5 hd)
        exact ⟨⟨1, _, _, _, _, by omega, rfl, rfl, ⟨((HR5.out.far3 (g' := w.heap.size + 1) (by omega) _ _ _).below (below_alloc (Below.refl _ _) _))⟩, ⟨((HQ5.out.set3 _ _ _).below (below_alloc (Below.refl _ _) _))⟩, ⟨(below_set3 (g := w.heap.size + 1) HB5.out (by omega)).alloc (below_set3 (g := w.heap.size + 1) HB5.out (by omega)).size _⟩, .inr (.inl ⟨rfl, rfl, rfl⟩)⟩, by decide⟩
    · obtain ⟨rfl, rfl, rfl⟩ : x = dn ∧ y = dl ∧ z = dr := by simpa using hxyz
      have hd := HDB.out wr HB.out
      have hxs := ixs1
      by_cases h1 : ee = 0
      · subst h1
        by_cases h2 : en > x
        · have d0 : decide (en > x) = true := decide_eq_true h2
          clear hxyz q0 q1 q2 f0 f1 f2 hl
          go_wp2_with (go_at_call 13; refine hd.mono ?_; rintro e w5 ⟨rfl, hB5⟩; obtain ⟨q0, q1, q2, f0, f1, f2⟩ := (HQ.out.below hB5).cells; (have HQ5 := Aside0.mk (HQ.out.below hB5)); (have HR5 := Aside0.mk (HR.out.below hB5)); (have l5 := blk_lt (HQ.out.below hB5)); (have HB5 := Aside0.mk (below_from HB.out (Nat.le_refl _) hB5)); clear hB5 hd)
          exact ⟨⟨2, _, _, _, _, by omega, rfl, rfl, ⟨((HR5.out.far3 (g' := w.heap.size + 1) (by omega) _ _ _).below (below_alloc (Below.refl _ _) _))⟩, ⟨((HQ5.out.set3 _ _ _).below (below_alloc (Below.refl _ _) _))⟩, ⟨(below_set3 (g := w.heap.size + 1) HB5.out (by omega)).alloc (below_set3 (g := w.heap.size + 1) HB5.out (by omega)).size _⟩, .inr (.inr ⟨rfl, by unfold chB; rw [if_pos ⟨rfl, h2⟩], by unfold chA; rw [if_pos ⟨rfl, h2⟩]⟩)⟩, by decide⟩
        · have d0 : decide (en > x) = false := decide_eq_false h2
          clear hxyz q0 q1 q2 f0 f1 f2 hl
          go_wp2_with (go_at_call 13; refine hd.mono ?_; rintro e w5 ⟨rfl, hB5⟩; obtain ⟨q0, q1, q2, f0, f1, f2⟩ := (HQ.out.below hB5).cells; (have HQ5 := Aside0.mk (HQ.out.below hB5)); (have HR5 := Aside0.mk (HR.out.below hB5)); (have l5 := blk_lt (HQ.out.below hB5)); (have HB5 := Aside0.mk (below_from HB.out (Nat.le_refl _) hB5)); clear hB5 hd)
          exact ⟨⟨2, _, _, _, _, by omega, rfl, rfl, ⟨(HR5.out.below (below_alloc (Below.refl _ _) _))⟩, ⟨(HQ5.out.below (below_alloc (Below.refl _ _) _))⟩, ⟨HB5.out.alloc HB5.out.size _⟩, .inr (.inr ⟨rfl, by unfold chB; rw [if_neg (fun h => by have h3 := h.2; dsimp only at h3; omega)], by unfold chA; rw [if_neg (fun h => by have h3 := h.2; dsimp only at h3; omega)]⟩)⟩, by decide⟩
      · have d0 : (ee == 0) = false := beq_eq_false_iff_ne.mpr h1
        clear hxyz q0 q1 q2 f0 f1 f2 hl
        go_wp2_with (go_at_call 13; refine hd.mono ?_; rintro e w5 ⟨rfl, hB5⟩; obtain ⟨q0, q1, q2, f0, f1, f2⟩ := (HQ.out.below hB5).cells; (have HQ5 := Aside0.mk (HQ.out.below hB5)); (have HR5 := Aside0.mk (HR.out.below hB5)); (have l5 := blk_lt (HQ.out.below hB5)); (have HB5 := Aside0.mk (below_from HB.out (Nat.le_refl _) hB5)); clear hB5 hd)
        exact ⟨⟨2, _, _, _, _, by omega, rfl, rfl, ⟨(HR5.out.below (below_alloc (Below.refl _ _) _))⟩, ⟨(HQ5.out.below (below_alloc (Below.refl _ _) _))⟩, ⟨HB5.out.alloc HB5.out.size _⟩, .inr (.inr ⟨rfl, by unfold chB; rw [if_neg (fun h => h1 h.1)], by unfold chA; rw [if_neg (fun h => h1 h.1)]⟩)⟩, by decide⟩
    · obtain ⟨r0, r1, r2, k0, k1, k2⟩ := HR.out.cells
      have hl0 : w.heap.size < wr.heap.size := by omega
      have hans : chC ((dn, dl, dr), de) ((en, el, er), ee) = if x = 0 then ((0, 0, 0), 0, 6) else ((x, y, z), at_, 0) := by
        unfold chC
        rw [← hxyz, ← hat]
      clear hxyz hat
      by_cases hx : x = 0
      · rw [if_pos hx] at hans
        have HANS := Aside0.mk hans
        have d0 : (x == 0) = true := beq_iff_eq.mpr hx
        clear hx hans
        go_wp2
        refine bodyPost_ret (results_ctt rfl _ _ w.heap.size 34 #[.int .i64 0, .int .i64 0, .int .i64 0] (0, 0) _ rfl (HR.out.set3 0 0 0) Try.underlying34 rfl (by kernel_rfl)) rfl ?_
        rw [HANS.out]
        exact ⟨rfl, below_set3 HB.out (Nat.le_refl _)⟩
      · rw [if_neg hx] at hans
        have HANS := Aside0.mk hans
        have d0 : (x == 0) = false := beq_eq_false_iff_ne.mpr hx
        clear hx hans
        go_wp2
        refine bodyPost_ret (results_ctt rfl _ _ w.heap.size 34 #[.int .i64 x, .int .i64 y, .int .i64 z] (0, 0) _ rfl (HR.out.set3 x y z) Try.underlying34 rfl (by kernel_rfl)) rfl ?_
        rw [HANS.out]
        exact ⟨rfl, below_set3 HB.out (Nat.le_refl _)⟩
end Go.Proofs.Ytbpnigldojpapaa.Points
