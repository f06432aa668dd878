/- Which of two slots counts, by the document; and what is written next. -/
import Derived.Test.YtbpnigldojpapaaPointsCh
namespace Go.Proofs.Ytbpnigldojpapaa.Points
open Go.RowKit Go.Proofs.YtbpnigldojpapaaW.PrintWords Go.Proofs.YtbpnigldojpapaaW.PrintLast Go.Proofs.YtbpnigldojpapaaW.PrintMore Go.Proofs.Ytbpnigldojpapaa.Wire Go.Proofs.Ytbpnigldojpapaa.Crc
open Go.Proofs.Ytbpnigldojpapaa.Back (AllB numB numB_small)
set_option linter.unusedVariables false
set_option linter.unusedSimpArgs false
set_option maxRecDepth 100000 in
set_option maxHeartbeats 8000000 in
theorem refchoose_ok (A : Option Addr) (ca : Nat) (a : List Int) (B : Option Addr) (cb : Nat) (b : List Int) (w : World) (hra : Kd.C (Kd.int .u8) w A a.length a) (hca : a.length ≤ ca) (hba : AllB a) (hla : a.length ≤ 140737488355328) (hrb : Kd.C (Kd.int .u8) w B b.length b) (hcb : b.length ≤ cb) (hbb : AllB b) (hlb : b.length ≤ 140737488355328) :
    Calls Try.prog 17 #[.slice A a.length ca, .slice B b.length cb] w fun e w' => e = .returned (.tuple #[.agg #[.int .i64 (chooseD (decF a) (decF b)).1.1, .int .i64 (chooseD (decF a) (decF b)).1.2.1, .int .i64 (chooseD (decF a) (decF b)).1.2.2], .int .i64 (chooseD (decF a) (decF b)).2.1, .int .i64 (chooseD (decF a) (decF b)).2.2]) ∧ Below w.heap.size w w' := by
  have hda := fun W (hB : Below w.heap.size w W) => refdecode_ok A ca a W (Kd.C_below hra hB) hca hba hla
  have hdb := fun W (hB : Below w.heap.size w W) => refdecode_ok B cb b W (Kd.C_below hrb hB) hcb hbb hlb
  generalize decF a = da at *
  generalize decF b = db at *
  have hna : a.length ≤ 9223372036854775807 := hra.2.1
  have hnb : b.length ≤ 9223372036854775807 := hrb.2.1
  have hans : ∃ an al ar at_ ae : Int, chooseD da db = ((an, al, ar), at_, ae) ∧ (((da.2 != 0) = true ∧ (da.2 == 0) = false ∧ (db.2 != 0) = true ∧ an = 0 ∧ al = 0 ∧ ar = 0 ∧ at_ = 0 ∧ ae = 6) ∨ ((da.2 != 0) = false ∧ (da.2 == 0) = true ∧ (db.2 != 0) = true ∧ da.1.1 = an ∧ da.1.2.1 = al ∧ da.1.2.2 = ar ∧ at_ = 0 ∧ ae = 0) ∨ ((da.2 != 0) = false ∧ (da.2 == 0) = true ∧ (db.2 != 0) = false ∧ decide (da.1.1 ≥ db.1.1) = true ∧ da.1.1 = an ∧ da.1.2.1 = al ∧ da.1.2.2 = ar ∧ at_ = 0 ∧ ae = 0) ∨ ((da.2 != 0) = false ∧ (da.2 == 0) = true ∧ (db.2 != 0) = false ∧ decide (da.1.1 ≥ db.1.1) = false ∧ db.1.1 = an ∧ db.1.2.1 = al ∧ db.1.2.2 = ar ∧ at_ = 1 ∧ ae = 0) ∨ ((da.2 != 0) = true ∧ (da.2 == 0) = false ∧ (db.2 != 0) = false ∧ db.1.1 = an ∧ db.1.2.1 = al ∧ db.1.2.2 = ar ∧ at_ = 1 ∧ ae = 0)) := by
    unfold chooseD
    by_cases ea : da.2 = 0
    · have e1 : (da.2 != 0) = false := by simp [ea]
      have e2 : (da.2 == 0) = true := by simp [ea]
      by_cases eb : db.2 = 0
      · have e3 : (db.2 != 0) = false := by simp [eb]
        by_cases hg : da.1.1 ≥ db.1.1
        · refine ⟨da.1.1, da.1.2.1, da.1.2.2, 0, 0, ?_, .inr (.inr (.inl ⟨e1, e2, e3, decide_eq_true hg, rfl, rfl, rfl, rfl, rfl⟩))⟩
          rw [if_neg (fun h => h.1 ea), if_pos ⟨ea, .inr hg⟩]
        · refine ⟨db.1.1, db.1.2.1, db.1.2.2, 1, 0, ?_, .inr (.inr (.inr (.inl ⟨e1, e2, e3, decide_eq_false hg, rfl, rfl, rfl, rfl, rfl⟩)))⟩
          rw [if_neg (fun h => h.1 ea), if_neg (fun h => h.2.elim (fun h => h eb) hg)]
      · have e3 : (db.2 != 0) = true := by simp [eb]
        refine ⟨da.1.1, da.1.2.1, da.1.2.2, 0, 0, ?_, .inr (.inl ⟨e1, e2, e3, rfl, rfl, rfl, rfl, rfl⟩)⟩
        rw [if_neg (fun h => h.1 ea), if_pos ⟨ea, .inl eb⟩]
    · have e1 : (da.2 != 0) = true := by simp [ea]
      have e2 : (da.2 == 0) = false := by simp [ea]
      by_cases eb : db.2 = 0
      · have e3 : (db.2 != 0) = false := by simp [eb]
        refine ⟨db.1.1, db.1.2.1, db.1.2.2, 1, 0, ?_, .inr (.inr (.inr (.inr ⟨e1, e2, e3, rfl, rfl, rfl, rfl, rfl⟩)))⟩
        rw [if_neg (fun h => h.2 eb), if_neg (fun h => ea h.1)]
      · have e3 : (db.2 != 0) = true := by simp [eb]
        exact ⟨0, 0, 0, 0, 6, by rw [if_pos ⟨ea, eb⟩], .inl ⟨e1, e2, e3, rfl, rfl, rfl, rfl, rfl⟩⟩
  obtain ⟨an, al, ar, at_, ae, hans, hd⟩ := hans
  rw [hans]
  clear hans
  obtain ⟨⟨dn, dl, dr⟩, de⟩ := da
  obtain ⟨⟨en, el, er⟩, ee⟩ := db
  dsimp only at hda hdb hd
  have HDB := Aside0.mk hdb
  have HP0 : Aside0 (PtAt 40 (w.alloc (.cells #[.int .i64 0, .int .i64 0, .int .i64 0] 40)) w.heap.size 0 0 0) := ⟨blk_new _ _⟩
  have HB0 := Aside0.mk (below_alloc (Below.refl w.heap.size w) (.cells #[.int .i64 0, .int .i64 0, .int .i64 0] 40))
  have hd1 := hda _ HB0.out
  clear hda hdb hra hca hba hla hrb hcb hbb hlb
  rcases hd with ⟨d1, d2, d3, rfl, rfl, rfl, rfl, rfl⟩ | ⟨d1, d2, d3, rfl, rfl, rfl, rfl, rfl⟩ | ⟨d1, d2, d3, d4, rfl, rfl, rfl, rfl, rfl⟩ | ⟨d1, d2, d3, d4, rfl, rfl, rfl, rfl, rfl⟩ | ⟨d1, d2, d3, rfl, rfl, rfl, rfl, rfl⟩
  · skip
    go_enter Try.func17, Try.ntmps17
    go_wp2_with (first
      | (go_at_call 14; refine hd1.mono ?_; rintro e w2 ⟨rfl, hB2⟩; (have HR3 := Aside0.mk ((HP0.out.below hB2).below (below_alloc (Below.refl _ _) (.cells #[.int .i64 dn, .int .i64 dl, .int .i64 dr] 40)))); (have HP3 : Aside0 (PtAt 40 (w2.alloc (.cells #[.int .i64 dn, .int .i64 dl, .int .i64 dr] 40)) w2.heap.size dn dl dr) := ⟨blk_new _ _⟩); (have HB3 := Aside0.mk ((below_from HB0.out (Nat.le_refl _) hB2).alloc (below_from HB0.out (Nat.le_refl _) hB2).size (.cells #[.int .i64 dn, .int .i64 dl, .int .i64 dr] 40))); (have hd2 := HDB.out _ HB3.out); clear hB2 hd1)
      | (go_at_call 14; refine hd2.mono ?_; rintro e w4 ⟨rfl, hB4⟩; (have HR4 := Aside0.mk (HR3.out.below hB4)); (have HP4 := Aside0.mk (HP3.out.below hB4)); obtain ⟨r0, r1, r2, f0, f1, f2⟩ := HR4.out.cells; obtain ⟨p0, p1, p2, _, _, _⟩ := HP4.out.cells; (have l1 := blk_lt HR4.out); (have l2 := blk_lt HP4.out); (have HB4 := Aside0.mk (below_from HB3.out (Nat.le_refl _) hB4)); clear hB4 hd2))
    refine bodyPost_ret (results_ctt rfl _ _ w.heap.size 40 #[.int .i64 0, .int .i64 0, .int .i64 0] (0, 0) _ rfl (PtAt.below (HR4.out.set3 0 0 0) (below_alloc (Below.refl _ _) _)) Try.underlying40 rfl (by kernel_rfl)) rfl ?_
    exact ⟨rfl, (below_set3 (g := w.heap.size) HB4.out (Nat.le_refl _)).alloc (below_set3 (g := w.heap.size) HB4.out (Nat.le_refl _)).size _⟩
  · skip
    go_enter Try.func17, Try.ntmps17
    go_wp2_with (first
      | (go_at_call 14; refine hd1.mono ?_; rintro e w2 ⟨rfl, hB2⟩; (have HR3 := Aside0.mk ((HP0.out.below hB2).below (below_alloc (Below.refl _ _) (.cells #[.int .i64 dn, .int .i64 dl, .int .i64 dr] 40)))); (have HP3 : Aside0 (PtAt 40 (w2.alloc (.cells #[.int .i64 dn, .int .i64 dl, .int .i64 dr] 40)) w2.heap.size dn dl dr) := ⟨blk_new _ _⟩); (have HB3 := Aside0.mk ((below_from HB0.out (Nat.le_refl _) hB2).alloc (below_from HB0.out (Nat.le_refl _) hB2).size (.cells #[.int .i64 dn, .int .i64 dl, .int .i64 dr] 40))); (have hd2 := HDB.out _ HB3.out); clear hB2 hd1)
      | (go_at_call 14; refine hd2.mono ?_; rintro e w4 ⟨rfl, hB4⟩; (have HR4 := Aside0.mk (HR3.out.below hB4)); (have HP4 := Aside0.mk (HP3.out.below hB4)); obtain ⟨r0, r1, r2, f0, f1, f2⟩ := HR4.out.cells; obtain ⟨p0, p1, p2, _, _, _⟩ := HP4.out.cells; (have l1 := blk_lt HR4.out); (have l2 := blk_lt HP4.out); (have HB4 := Aside0.mk (below_from HB3.out (Nat.le_refl _) hB4)); clear hB4 hd2))
    refine bodyPost_ret (results_ctt rfl _ _ w.heap.size 40 #[.int .i64 dn, .int .i64 dl, .int .i64 dr] (0, 0) _ rfl (PtAt.below (HR4.out.set3 dn dl dr) (below_alloc (Below.refl _ _) _)) Try.underlying40 rfl (by kernel_rfl)) rfl ?_
    exact ⟨rfl, (below_set3 (g := w.heap.size) HB4.out (Nat.le_refl _)).alloc (below_set3 (g := w.heap.size) HB4.out (Nat.le_refl _)).size _⟩
  · skip
    go_enter Try.func17, Try.ntmps17
    go_wp2_with (first
      | (go_at_call 14; refine hd1.mono ?_; rintro e w2 ⟨rfl, hB2⟩; (have HR3 := Aside0.mk ((HP0.out.below hB2).below (below_alloc (Below.refl _ _) (.cells #[.int .i64 dn, .int .i64 dl, .int .i64 dr] 40)))); (have HP3 : Aside0 (PtAt 40 (w2.alloc (.cells #[.int .i64 dn, .int .i64 dl, .int .i64 dr] 40)) w2.heap.size dn dl dr) := ⟨blk_new _ _⟩); (have HB3 := Aside0.mk ((below_from HB0.out (Nat.le_refl _) hB2).alloc (below_from HB0.out (Nat.le_refl _) hB2).size (.cells #[.int .i64 dn, .int .i64 dl, .int .i64 dr] 40))); (have hd2 := HDB.out _ HB3.out); clear hB2 hd1)
      | (go_at_call 14; refine hd2.mono ?_; rintro e w4 ⟨rfl, hB4⟩; (have HR4 := Aside0.mk (HR3.out.below hB4)); (have HP4 := Aside0.mk (HP3.out.below hB4)); obtain ⟨r0, r1, r2, f0, f1, f2⟩ := HR4.out.cells; obtain ⟨p0, p1, p2, _, _, _⟩ := HP4.out.cells; (have l1 := blk_lt HR4.out); (have l2 := blk_lt HP4.out); (have HB4 := Aside0.mk (below_from HB3.out (Nat.le_refl _) hB4)); clear hB4 hd2))
    refine bodyPost_ret (results_ctt rfl _ _ w.heap.size 40 #[.int .i64 dn, .int .i64 dl, .int .i64 dr] (0, 0) _ rfl (PtAt.below (HR4.out.set3 dn dl dr) (below_alloc (Below.refl _ _) _)) Try.underlying40 rfl (by kernel_rfl)) rfl ?_
    exact ⟨rfl, (below_set3 (g := w.heap.size) HB4.out (Nat.le_refl _)).alloc (below_set3 (g := w.heap.size) HB4.out (Nat.le_refl _)).size _⟩
  · skip
    go_enter Try.func17, Try.ntmps17
    go_wp2_with (first
      | (go_at_call 14; refine hd1.mono ?_; rintro e w2 ⟨rfl, hB2⟩; (have HR3 := Aside0.mk ((HP0.out.below hB2).below (below_alloc (Below.refl _ _) (.cells #[.int .i64 dn, .int .i64 dl, .int .i64 dr] 40)))); (have HP3 : Aside0 (PtAt 40 (w2.alloc (.cells #[.int .i64 dn, .int .i64 dl, .int .i64 dr] 40)) w2.heap.size dn dl dr) := ⟨blk_new _ _⟩); (have HB3 := Aside0.mk ((below_from HB0.out (Nat.le_refl _) hB2).alloc (below_from HB0.out (Nat.le_refl _) hB2).size (.cells #[.int .i64 dn, .int .i64 dl, .int .i64 dr] 40))); (have hd2 := HDB.out _ HB3.out); clear hB2 hd1)
      | (go_at_call 14; refine hd2.mono ?_; rintro e w4 ⟨rfl, hB4⟩; (have HR4 := Aside0.mk (HR3.out.below hB4)); (have HP4 := Aside0.mk (HP3.out.below hB4)); obtain ⟨r0, r1, r2, f0, f1, f2⟩ := HR4.out.cells; obtain ⟨p0, p1, p2, _, _, _⟩ := HP4.out.cells; (have l1 := blk_lt HR4.out); (have l2 := blk_lt HP4.out); (have HB4 := Aside0.mk (below_from HB3.out (Nat.le_refl _) hB4)); clear hB4 hd2))
    refine bodyPost_ret (results_ctt rfl _ _ w.heap.size 40 #[.int .i64 en, .int .i64 el, .int .i64 er] (0, 0) _ rfl (PtAt.below (HR4.out.set3 en el er) (below_alloc (Below.refl _ _) _)) Try.underlying40 rfl (by kernel_rfl)) rfl ?_
    exact ⟨rfl, (below_set3 (g := w.heap.size) HB4.out (Nat.le_refl _)).alloc (below_set3 (g := w.heap.size) HB4.out (Nat.le_refl _)).size _⟩
  · skip
    go_enter Try.func17, Try.ntmps17
    go_wp2_with (first
      | (go_at_call 14; refine hd1.mono ?_; rintro e w2 ⟨rfl, hB2⟩; (have HR3 := Aside0.mk ((HP0.out.below hB2).below (below_alloc (Below.refl _ _) (.cells #[.int .i64 dn, .int .i64 dl, .int .i64 dr] 40)))); (have HP3 : Aside0 (PtAt 40 (w2.alloc (.cells #[.int .i64 dn, .int .i64 dl, .int .i64 dr] 40)) w2.heap.size dn dl dr) := ⟨blk_new _ _⟩); (have HB3 := Aside0.mk ((below_from HB0.out (Nat.le_refl _) hB2).alloc (below_from HB0.out (Nat.le_refl _) hB2).size (.cells #[.int .i64 dn, .int .i64 dl, .int .i64 dr] 40))); (have hd2 := HDB.out _ HB3.out); clear hB2 hd1)
      | (go_at_call 14; refine hd2.mono ?_; rintro e w4 ⟨rfl, hB4⟩; (have HR4 := Aside0.mk (HR3.out.below hB4)); (have HP4 := Aside0.mk (HP3.out.below hB4)); obtain ⟨r0, r1, r2, f0, f1, f2⟩ := HR4.out.cells; obtain ⟨p0, p1, p2, _, _, _⟩ := HP4.out.cells; (have l1 := blk_lt HR4.out); (have l2 := blk_lt HP4.out); (have HB4 := Aside0.mk (below_from HB3.out (Nat.le_refl _) hB4)); clear hB4 hd2))
    refine bodyPost_ret (results_ctt rfl _ _ w.heap.size 40 #[.int .i64 en, .int .i64 el, .int .i64 er] (0, 0) _ rfl (PtAt.below (HR4.out.set3 en el er) (below_alloc (Below.refl _ _) _)) Try.underlying40 rfl (by kernel_rfl)) rfl ?_
    exact ⟨rfl, (below_set3 (g := w.heap.size) HB4.out (Nat.le_refl _)).alloc (below_set3 (g := w.heap.size) HB4.out (Nat.le_refl _)).size _⟩
/-- what is written next, where, its bytes; or why nothing -/
def nextF (da db : Dec) (l r : Int) : (Int × Int × Int) × Int × List Int × Int :=
  if okPt ((chooseD da db).1.1 + 1) l r = true then (((chooseD da db).1.1 + 1, l, r), if (chooseD da db).2.2 = 0 then 1 - (chooseD da db).2.1 else 0, encB ((chooseD da db).1.1 + 1) l r ++ le (sumOf (encB ((chooseD da db).1.1 + 1) l r) : Int) 4, 0) else ((0, 0, 0), 0, [], 1)
theorem choose_cases {da db : Dec} (ha : Good da) (hb : Good db) : ∃ n l r at_ e : Int, chooseD da db = ((n, l, r), at_, e) ∧ 0 ≤ n ∧ n ≤ 1099511627776 ∧ (at_ = 0 ∨ at_ = 1) ∧ ((e = 0 ∧ 1 ≤ n) ∨ (e = 6 ∧ n = 0)) := by
  have h1 := ha.nonneg
  have h2 := hb.nonneg
  unfold chooseD
  split
  · exact ⟨0, 0, 0, 0, 6, rfl, by omega, by omega, .inl rfl, .inr ⟨rfl, rfl⟩⟩
  · split
    · rename_i h
      exact ⟨_, _, _, 0, 0, rfl, h1.1, h1.2.1, .inl rfl, .inl ⟨rfl, h1.2.2.1 h.1⟩⟩
    · rename_i h k
      have hb0 : db.2 = 0 := by
        by_cases e : da.2 = 0
        · by_cases f : db.2 = 0
          · exact f
          · exact absurd ⟨e, .inl f⟩ k
        · by_cases f : db.2 = 0
          · exact f
          · exact absurd ⟨e, f⟩ h
      exact ⟨_, _, _, 1, 0, rfl, h2.1, h2.2.1, .inr rfl, .inl ⟨rfl, h2.2.2.1 hb0⟩⟩
theorem below_set1 {w W : World} {g i : Nat} {a : Value} (h : Below w.heap.size w W) (hg : w.heap.size ≤ g) : Below w.heap.size w (W.setCell ⟨g, i, none⟩ a) := below_set h hg
theorem R_set3 {w : World} {b g : Nat} {e : TypeId} {v : Value} {xs : List Int} (h : Kd.R (Kd.int .u8) e w b (fun _ => True) v xs) (hg : g < b) (x y z : Value) : Kd.R (Kd.int .u8) e (((w.setCell ⟨g, 0, none⟩ x).setCell ⟨g, 1, none⟩ y).setCell ⟨g, 2, none⟩ z) b (fun _ => True) v xs :=
  Kd.R_mono (Kd.R_far (Kd.R_far (Kd.R_far (Kd.R_bound h) (fun k hk => by have := hk.2.1; show k ≠ g; omega) x) (fun k hk => by have := hk.2.1; show k ≠ g; omega) y) (fun k hk => by have := hk.2.1; show k ≠ g; omega) z) (fun _ _ => trivial)
set_option maxRecDepth 100000 in
set_option maxHeartbeats 8000000 in
theorem next_ok (A : Option Addr) (ca : Nat) (a : List Int) (B : Option Addr) (cb : Nat) (b : List Int) (m0 l0 r0 : Int) (w : World) (hra : Kd.C (Kd.int .u8) w A a.length a) (hca : a.length ≤ ca) (hba : AllB a) (hla : a.length ≤ 140737488355328) (hrb : Kd.C (Kd.int .u8) w B b.length b) (hcb : b.length ≤ cb) (hbb : AllB b) (hlb : b.length ≤ 140737488355328) :
    Calls Try.prog 18 #[.slice A a.length ca, .slice B b.length cb, .agg #[.int .i64 m0, .int .i64 l0, .int .i64 r0]] w fun e w' => ∃ u, e = .returned (.tuple #[.agg #[.int .i64 (nextF (decF a) (decF b) l0 r0).1.1, .int .i64 (nextF (decF a) (decF b) l0 r0).1.2.1, .int .i64 (nextF (decF a) (decF b) l0 r0).1.2.2], .int .i64 (nextF (decF a) (decF b) l0 r0).2.1, u, .int .i64 (nextF (decF a) (decF b) l0 r0).2.2.2]) ∧ Kd.R (Kd.int .u8) 5 w' w.heap.size (fun _ => True) u (nextF (decF a) (decF b) l0 r0).2.2.1 ∧ Below w.heap.size w w' := by
  have hch := fun W (hB : Below w.heap.size w W) => choose_ok A ca a B cb b W (Kd.C_below hra hB) hca hba hla (Kd.C_below hrb hB) hcb hbb hlb
  have hna : a.length ≤ 9223372036854775807 := hra.2.1
  have hnb : b.length ≤ 9223372036854775807 := hrb.2.1
  obtain ⟨n, l, r, at_, e, hc, hn0, hn1, hat, he⟩ := choose_cases (decF_good a) (decF_good b)
  rw [hc] at hch
  unfold nextF
  rw [hc]
  clear hc
  dsimp only at hch ⊢
  have hen := encode_ok (n + 1) l0 r0
  unfold encF at hen
  have hw1 : IntKind.i64.wrap (n + 1) = n + 1 := by
    rw [IntKind.wrap_i64]
    omega
  have hw2 : IntKind.i64.wrap (1 - at_) = 1 - at_ := by
    rw [IntKind.wrap_i64]
    omega
  have hsz : (w.alloc (.cells #[.int .i64 m0, .int .i64 l0, .int .i64 r0] 34)).heap.size = w.heap.size + 1 := by
    show (w.heap.push _).size = _
    simp
  have HX1 : Aside0 (PtAt 34 ((w.alloc (.cells #[.int .i64 m0, .int .i64 l0, .int .i64 r0] 34)).alloc (.cells #[.int .i64 0, .int .i64 0, .int .i64 0] 34)) w.heap.size m0 l0 r0) := ⟨PtAt.below (blk_new _ _) (below_alloc (Below.refl _ _) _)⟩
  have HQ1 : Aside0 (PtAt 34 ((w.alloc (.cells #[.int .i64 m0, .int .i64 l0, .int .i64 r0] 34)).alloc (.cells #[.int .i64 0, .int .i64 0, .int .i64 0] 34)) (w.heap.size + 1) 0 0 0) := ⟨by rw [← hsz]; exact blk_new _ _⟩
  have HB1 : Aside0 (Below w.heap.size w ((w.alloc (.cells #[.int .i64 m0, .int .i64 l0, .int .i64 r0] 34)).alloc (.cells #[.int .i64 0, .int .i64 0, .int .i64 0] 34))) := ⟨below_alloc (below_alloc (Below.refl _ _) _) _⟩
  have hcall := hch _ HB1.out
  have HEN := Aside0.mk hen
  clear hen hch hra hca hba hla hrb hcb hbb hlb hsz hat hn0 hn1
  have go : ∀ (sl : Int), ((e == 0) = true ∧ sl = 1 - at_ ∨ (e == 0) = false ∧ sl = 0) → Calls Try.prog 18 #[.slice A a.length ca, .slice B b.length cb, .agg #[.int .i64 m0, .int .i64 l0, .int .i64 r0]] w fun e w' => ∃ u, e = .returned (.tuple #[.agg #[.int .i64 (if okPt (n + 1) l0 r0 = true then ((n + 1, l0, r0), sl, encB (n + 1) l0 r0 ++ le (sumOf (encB (n + 1) l0 r0) : Int) 4, (0 : Int)) else ((0, 0, 0), 0, [], 1)).1.1, .int .i64 (if okPt (n + 1) l0 r0 = true then ((n + 1, l0, r0), sl, encB (n + 1) l0 r0 ++ le (sumOf (encB (n + 1) l0 r0) : Int) 4, (0 : Int)) else ((0, 0, 0), 0, [], 1)).1.2.1, .int .i64 (if okPt (n + 1) l0 r0 = true then ((n + 1, l0, r0), sl, encB (n + 1) l0 r0 ++ le (sumOf (encB (n + 1) l0 r0) : Int) 4, (0 : Int)) else ((0, 0, 0), 0, [], 1)).1.2.2], .int .i64 (if okPt (n + 1) l0 r0 = true then ((n + 1, l0, r0), sl, encB (n + 1) l0 r0 ++ le (sumOf (encB (n + 1) l0 r0) : Int) 4, (0 : Int)) else ((0, 0, 0), 0, [], 1)).2.1, u, .int .i64 (if okPt (n + 1) l0 r0 = true then ((n + 1, l0, r0), sl, encB (n + 1) l0 r0 ++ le (sumOf (encB (n + 1) l0 r0) : Int) 4, (0 : Int)) else ((0, 0, 0), 0, [], 1)).2.2.2]) ∧ Kd.R (Kd.int .u8) 5 w' w.heap.size (fun _ => True) u (if okPt (n + 1) l0 r0 = true then ((n + 1, l0, r0), sl, encB (n + 1) l0 r0 ++ le (sumOf (encB (n + 1) l0 r0) : Int) 4, (0 : Int)) else ((0, 0, 0), 0, [], 1)).2.2.1 ∧ Below w.heap.size w w' := by
    intro sl hsl
    clear he
    have hen := HEN.out
    rcases hok : okPt (n + 1) l0 r0
    · rw [hok] at hen
      rw [if_neg (by simp)] at hen ⊢
      dsimp only at hen ⊢
      have HEN2 := Aside0.mk hen
      clear HEN hok hen
      rcases hsl with ⟨d0, rfl⟩ | ⟨d0, rfl⟩
      all_goals
        go_enter Try.func18, Try.ntmps18
        go_wp2_with (first
          | (go_at_call 16; refine hcall.mono ?_; rintro e w2 ⟨rfl, hB2⟩; (have HX2 := Aside0.mk (HX1.out.below hB2)); (have HQ2 := Aside0.mk (HQ1.out.below hB2)); (have HB2 := Aside0.mk (below_from HB1.out (Nat.le_refl _) hB2)); (have l2 := blk_lt HX2.out); obtain ⟨b0, b1, b2, f0, _, _⟩ := HX2.out.cells; clear hB2 hcall)
          | (go_at_call 10; refine (HEN2.out _).mono ?_; rintro e w5 ⟨u5, rfl, hR5, hB5⟩; (have HQ5 := Aside0.mk (PtAt.below ((HQ2.out.far (show w.heap.size + 1 ≠ w.heap.size by omega) _).below (below_alloc (Below.refl _ _) _)) hB5)); (have HB5 := Aside0.mk (below_from ((below_set1 HB2.out (Nat.le_refl _)).alloc (below_set1 HB2.out (Nat.le_refl _)).size _) (Nat.le_refl _) hB5)); obtain ⟨q0, q1, q2, e0, e1, e2⟩ := HQ5.out.cells; (have l5 := blk_lt HQ5.out); clear hB5 hR5 b0 b1 b2 f0 l2))
        refine bodyPost_ret (results_list (rs := [.cell 6 34, .tmp 7, .tmp 8, .tmp 9]) rfl (by simp) (.cell (w.heap.size + 1) 34 #[.int .i64 0, .int .i64 0, .int .i64 0] (0, 0) _ rfl (HQ5.out.set3 0 0 0) Try.underlying34 rfl (by kernel_rfl) (.tmp (.tmp (.tmp .nil))))) rfl ?_
        exact ⟨_, rfl, Kd.R_nil _ _ _ _ _, below_set3 HB5.out (by omega)⟩
    · rw [hok] at hen
      rw [if_pos rfl] at hen ⊢
      dsimp only at hen ⊢
      obtain ⟨ys, hys⟩ : ∃ ys, ys = encB (n + 1) l0 r0 ++ le (sumOf (encB (n + 1) l0 r0) : Int) 4 := ⟨_, rfl⟩
      rw [← hys] at hen ⊢
      have HEN2 := Aside0.mk hen
      clear HEN hok hen hys
      rcases hsl with ⟨d0, rfl⟩ | ⟨d0, rfl⟩
      all_goals
        go_enter Try.func18, Try.ntmps18
        go_wp2_with (first
          | (go_at_call 16; refine hcall.mono ?_; rintro e w2 ⟨rfl, hB2⟩; (have HX2 := Aside0.mk (HX1.out.below hB2)); (have HQ2 := Aside0.mk (HQ1.out.below hB2)); (have HB2 := Aside0.mk (below_from HB1.out (Nat.le_refl _) hB2)); (have l2 := blk_lt HX2.out); obtain ⟨b0, b1, b2, f0, _, _⟩ := HX2.out.cells; clear hB2 hcall)
          | (go_at_call 10; refine (HEN2.out _).mono ?_; rintro e w5 ⟨u5, rfl, hR5, hB5⟩; (have HX5 := Aside0.mk (PtAt.below ((HX2.out.set _).1.below (below_alloc (Below.refl _ _) _)) hB5)); (have HQ5 := Aside0.mk (PtAt.below ((HQ2.out.far (show w.heap.size + 1 ≠ w.heap.size by omega) _).below (below_alloc (Below.refl _ _) _)) hB5)); (have HR5 : Aside0 (Kd.R (Kd.int .u8) 5 w5 (w.heap.size + 2) (fun _ => True) u5 ys) := by exact ⟨Kd.R_lower hR5 (blk_lt ((HQ2.out.far (show w.heap.size + 1 ≠ w.heap.size by omega) _).below (below_alloc (Below.refl _ _) _)))⟩);  (have HB5 := Aside0.mk (below_from ((below_set1 HB2.out (Nat.le_refl _)).alloc (below_set1 HB2.out (Nat.le_refl _)).size _) (Nat.le_refl _) hB5)); clear b0 b1 b2 f0 l2; obtain ⟨b0, b1, b2, f0, f1, f2⟩ := HX5.out.cells; obtain ⟨q0, q1, q2, e0, e1, e2⟩ := HQ5.out.cells; (have l5 := blk_lt HQ5.out); clear hB5 hR5))
        refine bodyPost_ret (results_list (rs := [.cell 6 34, .tmp 7, .tmp 8, .tmp 9]) rfl (by simp) (.cell (w.heap.size + 1) 34 #[.int .i64 (n + 1), .int .i64 l0, .int .i64 r0] (0, 0) _ rfl (HQ5.out.set3 (n + 1) l0 r0) Try.underlying34 rfl (by kernel_rfl) (.tmp (.tmp (.tmp .nil))))) rfl ?_
        exact ⟨_, rfl, Kd.R_lower (R_set3 HR5.out (Nat.lt_succ_self _) _ _ _) (by omega), below_set3 HB5.out (by omega)⟩
  rcases he with ⟨rfl, h1⟩ | ⟨rfl, h1⟩
  · exact go _ (.inl ⟨rfl, rfl⟩)
  · exact go _ (.inr ⟨rfl, rfl⟩)
set_option maxRecDepth 100000 in
set_option maxHeartbeats 8000000 in
theorem refnext_ok (A : Option Addr) (ca : Nat) (a : List Int) (B : Option Addr) (cb : Nat) (b : List Int) (m0 l0 r0 : Int) (w : World) (hra : Kd.C (Kd.int .u8) w A a.length a) (hca : a.length ≤ ca) (hba : AllB a) (hla : a.length ≤ 140737488355328) (hrb : Kd.C (Kd.int .u8) w B b.length b) (hcb : b.length ≤ cb) (hbb : AllB b) (hlb : b.length ≤ 140737488355328) (hr0 : r0 < 9223372036854775808) :
    Calls Try.prog 19 #[.slice A a.length ca, .slice B b.length cb, .agg #[.int .i64 m0, .int .i64 l0, .int .i64 r0]] w fun e w' => ∃ u, e = .returned (.tuple #[.agg #[.int .i64 (nextF (decF a) (decF b) l0 r0).1.1, .int .i64 (nextF (decF a) (decF b) l0 r0).1.2.1, .int .i64 (nextF (decF a) (decF b) l0 r0).1.2.2], .int .i64 (nextF (decF a) (decF b) l0 r0).2.1, u, .int .i64 (nextF (decF a) (decF b) l0 r0).2.2.2]) ∧ Kd.R (Kd.int .u8) 5 w' w.heap.size (fun _ => True) u (nextF (decF a) (decF b) l0 r0).2.2.1 ∧ Below w.heap.size w w' := by
  have hch := fun W (hB : Below w.heap.size w W) => refchoose_ok A ca a B cb b W (Kd.C_below hra hB) hca hba hla (Kd.C_below hrb hB) hcb hbb hlb
  have hna : a.length ≤ 9223372036854775807 := hra.2.1
  have hnb : b.length ≤ 9223372036854775807 := hrb.2.1
  obtain ⟨n, l, r, at_, e, hc, hn0, hn1, hat, he⟩ := choose_cases (decF_good a) (decF_good b)
  rw [hc] at hch
  unfold nextF
  rw [hc]
  clear hc
  dsimp only at hch ⊢
  have hen := fun m W => refencode_ok m l0 r0 W hr0
  unfold encF at hen
  have hw1 : IntKind.i64.wrap (n + 1) = n + 1 := by
    rw [IntKind.wrap_i64]
    omega
  have hw2 : IntKind.i64.wrap (1 - at_) = 1 - at_ := by
    rw [IntKind.wrap_i64]
    omega
  have hsz : (w.alloc (.cells #[.int .i64 m0, .int .i64 l0, .int .i64 r0] 40)).heap.size = w.heap.size + 1 := by
    show (w.heap.push _).size = _
    simp
  have HX1 : Aside0 (PtAt 40 ((w.alloc (.cells #[.int .i64 m0, .int .i64 l0, .int .i64 r0] 40)).alloc (.cells #[.int .i64 0, .int .i64 0, .int .i64 0] 40)) w.heap.size m0 l0 r0) := ⟨PtAt.below (blk_new _ _) (below_alloc (Below.refl _ _) _)⟩
  have HQ1 : Aside0 (PtAt 40 ((w.alloc (.cells #[.int .i64 m0, .int .i64 l0, .int .i64 r0] 40)).alloc (.cells #[.int .i64 0, .int .i64 0, .int .i64 0] 40)) (w.heap.size + 1) 0 0 0) := ⟨by rw [← hsz]; exact blk_new _ _⟩
  have HB1 : Aside0 (Below w.heap.size w ((w.alloc (.cells #[.int .i64 m0, .int .i64 l0, .int .i64 r0] 40)).alloc (.cells #[.int .i64 0, .int .i64 0, .int .i64 0] 40))) := ⟨below_alloc (below_alloc (Below.refl _ _) _) _⟩
  have hcall := hch _ HB1.out
  have HEN := Aside0.mk hen
  clear hr0 hen hch hra hca hba hla hrb hcb hbb hlb hsz hat hn0 hn1
  have go : ∀ (sl m : Int), ((e == 0) = true ∧ sl = 1 - at_ ∧ m = n + 1 ∨ (e == 0) = false ∧ sl = 0 ∧ m = 1) → Calls Try.prog 19 #[.slice A a.length ca, .slice B b.length cb, .agg #[.int .i64 m0, .int .i64 l0, .int .i64 r0]] w fun e w' => ∃ u, e = .returned (.tuple #[.agg #[.int .i64 (if okPt m l0 r0 = true then ((m, l0, r0), sl, encB m l0 r0 ++ le (sumOf (encB m l0 r0) : Int) 4, (0 : Int)) else ((0, 0, 0), 0, [], 1)).1.1, .int .i64 (if okPt m l0 r0 = true then ((m, l0, r0), sl, encB m l0 r0 ++ le (sumOf (encB m l0 r0) : Int) 4, (0 : Int)) else ((0, 0, 0), 0, [], 1)).1.2.1, .int .i64 (if okPt m l0 r0 = true then ((m, l0, r0), sl, encB m l0 r0 ++ le (sumOf (encB m l0 r0) : Int) 4, (0 : Int)) else ((0, 0, 0), 0, [], 1)).1.2.2], .int .i64 (if okPt m l0 r0 = true then ((m, l0, r0), sl, encB m l0 r0 ++ le (sumOf (encB m l0 r0) : Int) 4, (0 : Int)) else ((0, 0, 0), 0, [], 1)).2.1, u, .int .i64 (if okPt m l0 r0 = true then ((m, l0, r0), sl, encB m l0 r0 ++ le (sumOf (encB m l0 r0) : Int) 4, (0 : Int)) else ((0, 0, 0), 0, [], 1)).2.2.2]) ∧ Kd.R (Kd.int .u8) 5 w' w.heap.size (fun _ => True) u (if okPt m l0 r0 = true then ((m, l0, r0), sl, encB m l0 r0 ++ le (sumOf (encB m l0 r0) : Int) 4, (0 : Int)) else ((0, 0, 0), 0, [], 1)).2.2.1 ∧ Below w.heap.size w w' := by
    intro sl m hsl
    clear he
    have hen := HEN.out m
    rcases hok : okPt m l0 r0
    · rw [hok] at hen
      rw [if_neg (by simp)] at hen ⊢
      dsimp only at hen ⊢
      have HEN2 := Aside0.mk hen
      clear HEN hok hen
      rcases hsl with ⟨d0, rfl, rfl⟩ | ⟨d0, rfl, rfl⟩
      all_goals
        go_enter Try.func19, Try.ntmps19
        go_wp2_with (first
          | (go_at_call 17; refine hcall.mono ?_; rintro e w2 ⟨rfl, hB2⟩; (have HX2 := Aside0.mk (HX1.out.below hB2)); (have HQ2 := Aside0.mk (HQ1.out.below hB2)); (have HB2 := Aside0.mk (below_from HB1.out (Nat.le_refl _) hB2)); (have l2 := blk_lt HX2.out); obtain ⟨b0, b1, b2, f0, _, _⟩ := HX2.out.cells; clear hB2 hcall)
          | (go_at_call 11; refine (HEN2.out _).mono ?_; rintro e w5 ⟨u5, rfl, hR5, hB5⟩; (first | have HQ5 := Aside0.mk (PtAt.below ((HQ2.out.far (show w.heap.size + 1 ≠ w.heap.size by omega) _).below (below_alloc (Below.refl _ _) _)) hB5) | have HQ5 := Aside0.mk (PtAt.below (((HQ2.out.far (show w.heap.size + 1 ≠ w.heap.size by omega) _).far (show w.heap.size + 1 ≠ w.heap.size by omega) _).below (below_alloc (Below.refl _ _) _)) hB5)); (first | have HB5 := Aside0.mk (below_from ((below_set1 HB2.out (Nat.le_refl _)).alloc (below_set1 HB2.out (Nat.le_refl _)).size _) (Nat.le_refl _) hB5) | have HB5 := Aside0.mk (below_from ((below_set1 (below_set1 HB2.out (Nat.le_refl _)) (Nat.le_refl _)).alloc (below_set1 (below_set1 HB2.out (Nat.le_refl _)) (Nat.le_refl _)).size _) (Nat.le_refl _) hB5)); obtain ⟨q0, q1, q2, e0, e1, e2⟩ := HQ5.out.cells; (have l5 := blk_lt HQ5.out); clear hB5 hR5 b0 b1 b2 f0 l2))
        refine bodyPost_ret (results_list (rs := [.cell 6 40, .tmp 7, .tmp 8, .tmp 9]) rfl (by simp) (.cell (w.heap.size + 1) 40 #[.int .i64 0, .int .i64 0, .int .i64 0] (0, 0) _ rfl (HQ5.out.set3 0 0 0) Try.underlying40 rfl (by kernel_rfl) (.tmp (.tmp (.tmp .nil))))) rfl ?_
        exact ⟨_, rfl, Kd.R_nil _ _ _ _ _, below_set3 HB5.out (by omega)⟩
    · rw [hok] at hen
      rw [if_pos rfl] at hen ⊢
      dsimp only at hen ⊢
      obtain ⟨ys, hys⟩ : ∃ ys, ys = encB m l0 r0 ++ le (sumOf (encB m l0 r0) : Int) 4 := ⟨_, rfl⟩
      rw [← hys] at hen ⊢
      have HEN2 := Aside0.mk hen
      clear HEN hok hen hys
      rcases hsl with ⟨d0, rfl, rfl⟩ | ⟨d0, rfl, rfl⟩
      all_goals
        go_enter Try.func19, Try.ntmps19
        go_wp2_with (first
          | (go_at_call 17; refine hcall.mono ?_; rintro e w2 ⟨rfl, hB2⟩; (have HX2 := Aside0.mk (HX1.out.below hB2)); (have HQ2 := Aside0.mk (HQ1.out.below hB2)); (have HB2 := Aside0.mk (below_from HB1.out (Nat.le_refl _) hB2)); (have l2 := blk_lt HX2.out); obtain ⟨b0, b1, b2, f0, _, _⟩ := HX2.out.cells; clear hB2 hcall)
          | (go_at_call 11; refine (HEN2.out _).mono ?_; rintro e w5 ⟨u5, rfl, hR5, hB5⟩; (first | have HX5 := Aside0.mk (PtAt.below ((HX2.out.set _).1.below (below_alloc (Below.refl _ _) _)) hB5) | have HX5 := Aside0.mk (PtAt.below (((HX2.out.set _).1.set _).1.below (below_alloc (Below.refl _ _) _)) hB5)); (first | have HQ5 := Aside0.mk (PtAt.below ((HQ2.out.far (show w.heap.size + 1 ≠ w.heap.size by omega) _).below (below_alloc (Below.refl _ _) _)) hB5) | have HQ5 := Aside0.mk (PtAt.below (((HQ2.out.far (show w.heap.size + 1 ≠ w.heap.size by omega) _).far (show w.heap.size + 1 ≠ w.heap.size by omega) _).below (below_alloc (Below.refl _ _) _)) hB5)); (have HR5 : Aside0 (Kd.R (Kd.int .u8) 5 w5 (w.heap.size + 2) (fun _ => True) u5 ys) := by first | exact ⟨Kd.R_lower hR5 (blk_lt ((HQ2.out.far (show w.heap.size + 1 ≠ w.heap.size by omega) _).below (below_alloc (Below.refl _ _) _)))⟩ | exact ⟨Kd.R_lower hR5 (blk_lt (((HQ2.out.far (show w.heap.size + 1 ≠ w.heap.size by omega) _).far (show w.heap.size + 1 ≠ w.heap.size by omega) _).below (below_alloc (Below.refl _ _) _)))⟩);  (first | have HB5 := Aside0.mk (below_from ((below_set1 HB2.out (Nat.le_refl _)).alloc (below_set1 HB2.out (Nat.le_refl _)).size _) (Nat.le_refl _) hB5) | have HB5 := Aside0.mk (below_from ((below_set1 (below_set1 HB2.out (Nat.le_refl _)) (Nat.le_refl _)).alloc (below_set1 (below_set1 HB2.out (Nat.le_refl _)) (Nat.le_refl _)).size _) (Nat.le_refl _) hB5)); clear b0 b1 b2 f0 l2; obtain ⟨b0, b1, b2, f0, f1, f2⟩ := HX5.out.cells; obtain ⟨q0, q1, q2, e0, e1, e2⟩ := HQ5.out.cells; (have l5 := blk_lt HQ5.out); clear hB5 hR5))
        refine bodyPost_ret (results_list (rs := [.cell 6 40, .tmp 7, .tmp 8, .tmp 9]) rfl (by simp) (.cell (w.heap.size + 1) 40 _ (0, 0) _ rfl (HQ5.out.set3 _ l0 r0) Try.underlying40 rfl (by kernel_rfl) (.tmp (.tmp (.tmp .nil))))) rfl ?_
        exact ⟨_, rfl, Kd.R_lower (R_set3 HR5.out (Nat.lt_succ_self _) _ _ _) (by omega), below_set3 HB5.out (by omega)⟩
  rcases he with ⟨rfl, h1⟩ | ⟨rfl, h1⟩
  · exact go _ _ (.inl ⟨rfl, rfl, rfl⟩)
  · exact go _ _ (.inr ⟨rfl, rfl, by rw [h1]; rfl⟩)
end Go.Proofs.Ytbpnigldojpapaa.Points
