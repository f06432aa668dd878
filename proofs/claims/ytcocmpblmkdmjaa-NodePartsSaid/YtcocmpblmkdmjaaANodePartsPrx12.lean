-- A part of the text Prx12, thinned by a program of this session.
import Derived.Test.YtcocmpblmkdmjaaANodePartsPrx0
import Derived.Test.YtcocmpblmkdmjaaANodePartsPrx4
import Derived.Test.YtcocmpblmkdmjaaANodePartsPrx6
import Derived.Test.YtcocmpblmkdmjaaANodePartsPrx11
namespace Go.Proofs.Ytcocmpblmkdmjaa.Pr
open Go.RowKit Go.Proofs.YtcocmpblmkdmjaaW.PrintWords Go.Proofs.YtcocmpblmkdmjaaW.PrintLast Go.Proofs.YtcocmpblmkdmjaaW.PrintMore
attribute [local go_sem] max2_int min2_int max_two min_two max_three min_three max_four min_four
set_option linter.unusedVariables false
set_option linter.unusedSimpArgs false
mutual
def latticeref07_Left.j0 : Nat → ByteArray → Int → Int → Int → ByteArray → List ByteArray → List ByteArray → List Int → Int → Int → Int → ByteArray → List ByteArray → List ByteArray → List Int → Option (Int × Int × Int × ByteArray × List ByteArray × List ByteArray × List Int × Int)
 | 0, _, _, _, _, _, _, _, _, _, _, _, _, _, _, _ => none
 | k + 1, x1, x219000, x219001, x219002, x219003, x219004, x219005, x219006, x235000, x235001, x235002, x235003, x235004, x235005, x235006 => latticeref07_Left.l0 k x1 x219004 (x219004.length : Int) 0 x219000 x219001 x219002 x219003 x219004 x219005 x219006 x235000 x235001 x235002 x235003 x235004 x235005 x235006
def latticeref07_Left.l0 : Nat → ByteArray → List ByteArray → Int → Int → Int → Int → Int → ByteArray → List ByteArray → List ByteArray → List Int → Int → Int → Int → ByteArray → List ByteArray → List ByteArray → List Int → Option (Int × Int × Int × ByteArray × List ByteArray × List ByteArray × List Int × Int)
 | 0, _, _, _, _, _, _, _, _, _, _, _, _, _, _, _, _, _, _ => none
 | k + 1, x1, x39, x40, x41, x219000, x219001, x219002, x219003, x219004, x219005, x219006, x235000, x235001, x235002, x235003, x235004, x235005, x235006 => if x41 < x40 then (if 0 ≤ x41 then (if x41 < (x39.length : Int) then ((latticeref05_Compare.f k (rdOf ByteArray.empty x39 x41) x1).bind fun t241 => (if t241 ≥ 0 then ((latticeref06_Right.f k x235000 x235001 x235002 x235003 x235004 x235005 x235006).bind fun t242 => (if t242 = true then (some (x235000, x235001, x235002, x235003, x235004, x235005, x235006, 0)) else (some (0, 0, 0, (⟨#[]⟩ : ByteArray), ([] : List ByteArray), ([] : List ByteArray), ([] : List Int), 5)))) else (if x235004.length < 8796093022208 then ((some (x235004 ++ [rdOf ByteArray.empty x39 x41] : List ByteArray)).bind fun y243 => (if x219000 > 0 then (if 0 ≤ (wrap64 (x41 + 1)) then (if (wrap64 (x41 + 1)) < (x219006.length : Int) then (if x235006.length < 17592186044416 then (latticeref07_Left.l0 k x1 x39 x40 (wrap64 (x41 + 1)) x219000 x219001 x219002 x219003 x219004 x219005 x219006 x235000 x235001 x235002 x235003 y243 x235005 (x235006 ++ [rd x219006 (wrap64 (x41 + 1))])) else (none)) else (none)) else (none)) else (if x41 < (x219005.length : Int) then (if x235005.length < 8796093022208 then (latticeref07_Left.l0 k x1 x39 x40 (wrap64 (x41 + 1)) x219000 x219001 x219002 x219003 x219004 x219005 x219006 x235000 x235001 x235002 x235003 y243 (x235005 ++ [rdOf ByteArray.empty x219005 x41]) x235006) else (none)) else (none)))) else (none)))) else (none)) else (none)) else ((latticeref06_Right.f k x235000 x235001 x235002 x235003 x235004 x235005 x235006).bind fun t239 => (if t239 = true then (some (x235000, x235001, x235002, x235003, x235004, x235005, x235006, 0)) else (some (0, 0, 0, (⟨#[]⟩ : ByteArray), ([] : List ByteArray), ([] : List ByteArray), ([] : List Int), 5))))
end
def latticeref07_Left.f (k : Nat) (a0_0 : Int) (a0_1 : Int) (a0_2 : Int) (a0_3 : ByteArray) (l0_4 : List ByteArray) (l0_5 : List ByteArray) (l0_6 : List Int) (a1 : ByteArray) (a2 : Int) : Option (Int × Int × Int × ByteArray × List ByteArray × List ByteArray × List Int × Int) := (latticeref07_parted.f k a0_0 a0_1 a0_2 a0_3 l0_4 l0_5 l0_6 a1 a2).bind fun t220 => (if t220 = 0 then ((latticeref07_bare.f a0_0 a0_1 a0_2 a0_3 l0_4 l0_5 l0_6).bind fun bt221 => (if a0_0 > 0 then (if 0 < (l0_6.length : Int) then (if bt221.2.2.2.2.2.2.length < 17592186044416 then (latticeref07_Left.j0 k a1 a0_0 a0_1 a0_2 a0_3 l0_4 l0_5 l0_6 bt221.1 bt221.2.1 a2 a1 bt221.2.2.2.2.1 bt221.2.2.2.2.2.1 (bt221.2.2.2.2.2.2 ++ [rd l0_6 0])) else (none)) else (none)) else (latticeref07_Left.j0 k a1 a0_0 a0_1 a0_2 a0_3 l0_4 l0_5 l0_6 bt221.1 bt221.2.1 a2 a1 bt221.2.2.2.2.1 bt221.2.2.2.2.2.1 bt221.2.2.2.2.2.2))) else (some (0, 0, 0, (⟨#[]⟩ : ByteArray), ([] : List ByteArray), ([] : List ByteArray), ([] : List Int), t220)))
def latticeref07_Left.T8 : Bool × List (List Nat × List Nat) := (true, [([], []), ([0], [0]), ([], []), ([2], [2]), ([3], [3]), ([4], [4]), ([5], [5]), ([1, 6], [1, 6]), ([0, 1, 2, 3, 4, 5, 6, 7], []), ([8, 7, 7, 0, 1, 2, 3, 4, 5, 6, 7], [7, 8])])
def latticeref07_Left.B8 : List Nat := [0, 1, 0, 4, 12, 28, 60, 127, 255, 511]
theorem latticeref07_Left.tab8 : rtab .any (opsOf Try.f13 8) = latticeref07_Left.T8 := by kernel_rfl
theorem latticeref07_Left.bits8 : waitsOk latticeref07_Left.T8.2 latticeref07_Left.B8 = true := by kernel_rfl
def latticeref07_Left.T15 : Bool × List (List Nat × List Nat) := (true, [([], []), ([0], [0]), ([], []), ([2], [2]), ([], []), ([4], [4]), ([3, 5], [3, 5]), ([6], [6]), ([7], [7]), ([1, 8], [1, 8]), ([0, 1, 2, 3, 4, 5, 6, 7, 8, 9], []), ([10, 9, 9, 0, 1, 2, 3, 4, 5, 6, 7, 8, 9], [9, 10])])
def latticeref07_Left.B15 : List Nat := [0, 1, 0, 4, 0, 16, 60, 124, 252, 511, 1023, 2047]
theorem latticeref07_Left.tab15 : rtab .any (opsOf Try.f13 15) = latticeref07_Left.T15 := by kernel_rfl
theorem latticeref07_Left.bits15 : waitsOk latticeref07_Left.T15.2 latticeref07_Left.B15 = true := by kernel_rfl
def latticeref07_Left.T16 : Bool × List (List Nat × List Nat) := (true, [([], []), ([0], [0]), ([], []), ([2], [2]), ([], []), ([3, 4], [3, 4]), ([5], [5]), ([6], [6]), ([1, 7], [1, 7]), ([0, 1, 2, 3, 4, 5, 6, 7, 8], []), ([9, 8, 8, 0, 1, 2, 3, 4, 5, 6, 7, 8], [8, 9])])
def latticeref07_Left.B16 : List Nat := [0, 1, 0, 4, 0, 28, 60, 124, 255, 511, 1023]
theorem latticeref07_Left.tab16 : rtab .any (opsOf Try.f13 16) = latticeref07_Left.T16 := by kernel_rfl
theorem latticeref07_Left.bits16 : waitsOk latticeref07_Left.T16.2 latticeref07_Left.B16 = true := by kernel_rfl
set_option maxHeartbeats 8000000 in
set_option maxRecDepth 100000 in
theorem latticeref07_Left.calls (k : Nat) (a0_0 : Int) (a0_1 : Int) (a0_2 : Int) (a0_3 : ByteArray) (A0_4 : Option Addr) (c0_4 : Nat) (l0_4 : List ByteArray) (A0_5 : Option Addr) (c0_5 : Nat) (l0_5 : List ByteArray) (A0_6 : Option Addr) (c0_6 : Nat) (l0_6 : List Int) (a1 : ByteArray) (a2 : Int) (r1 : Int) (r2 : Int) (r3 : Int) (r4 : ByteArray) (r5 : List ByteArray) (r6 : List ByteArray) (r7 : List Int) (r8 : Int) (w : World) (hr0_4 : Kd.C Kd.string w A0_4 l0_4.length l0_4) (hc0_4 : l0_4.length ≤ c0_4) (hr0_5 : Kd.C Kd.string w A0_5 l0_5.length l0_5) (hc0_5 : l0_5.length ≤ c0_5) (hr0_6 : Kd.C (Kd.int .i64) w A0_6 l0_6.length l0_6) (hc0_6 : l0_6.length ≤ c0_6) (h : latticeref07_Left.f k a0_0 a0_1 a0_2 a0_3 l0_4 l0_5 l0_6 a1 a2 = some (r1, r2, r3, r4, r5, r6, r7, r8)) :
  Calls Try.prog 13 #[.agg #[.int .i64 a0_0, .int .i64 a0_1, .int .i64 a0_2, .string a0_3, .slice A0_4 l0_4.length c0_4, .slice A0_5 l0_5.length c0_5, .slice A0_6 l0_6.length c0_6], .string a1, .int .i64 a2] w fun e w' => ∃ v4_ v5_ v6_ : Value, e = .returned (.tuple #[.agg #[.int .i64 r1, .int .i64 r2, .int .i64 r3, .string r4, v4_, v5_, v6_], .int .i64 r8]) ∧ Kd.R Kd.string 9 w' w.heap.size (fun k_ => some k_ ≠ (v5_ : Value).ownBlock) v4_ r5 ∧ Kd.R Kd.string 9 w' w.heap.size (fun k_ => some k_ ≠ (v4_ : Value).ownBlock) v5_ r6 ∧ Kd.R (Kd.int .i64) 3 w' w.heap.size (fun _ => True) v6_ r7 ∧ Below w.heap.size w w' := by
 have hu25 := Try.underlying25
 have HR0_4 := Aside0.mk hr0_4
 have HC0_4 := Aside0.mk hc0_4
 clear hr0_4 hc0_4
 have HR0_5 := Aside0.mk hr0_5
 have HC0_5 := Aside0.mk hc0_5
 clear hr0_5 hc0_5
 have HR0_6 := Aside0.mk hr0_6
 have HC0_6 := Aside0.mk hc0_6
 clear hr0_6 hc0_6
 have HB := Aside0.mk (Below.refl w.heap.size w)
 have H : ((latticeref07_parted.f k a0_0 a0_1 a0_2 a0_3 l0_4 l0_5 l0_6 a1 a2).bind fun t220 => (if t220 = 0 then ((latticeref07_bare.f a0_0 a0_1 a0_2 a0_3 l0_4 l0_5 l0_6).bind fun bt221 => (if a0_0 > 0 then (if 0 < (l0_6.length : Int) then (if bt221.2.2.2.2.2.2.length < 17592186044416 then (latticeref07_Left.j0 k a1 a0_0 a0_1 a0_2 a0_3 l0_4 l0_5 l0_6 bt221.1 bt221.2.1 a2 a1 bt221.2.2.2.2.1 bt221.2.2.2.2.2.1 (bt221.2.2.2.2.2.2 ++ [rd l0_6 0])) else (none)) else (none)) else (latticeref07_Left.j0 k a1 a0_0 a0_1 a0_2 a0_3 l0_4 l0_5 l0_6 bt221.1 bt221.2.1 a2 a1 bt221.2.2.2.2.1 bt221.2.2.2.2.2.1 bt221.2.2.2.2.2.2))) else (some (0, 0, 0, (⟨#[]⟩ : ByteArray), ([] : List ByteArray), ([] : List ByteArray), ([] : List Int), t220)))) = some (r1, r2, r3, r4, r5, r6, r7, r8) := h
 clear h
 replace H := Option.bind_eq_some_iff.mp H
 obtain ⟨t220, A40, H⟩ := H
 try dsimp only at H
 have A4 := Aside0.mk A40
 clear A40
 by_cases c5 : t220 = 0
 ·rw [if_pos c5] at H
  have c5b0 : (t220 == 0) = true := beq_iff_eq.mpr c5
  have c5b1 : (t220 != 0) = false := bne_eq_false_iff_eq.mpr c5
  clear c5
  replace H := Option.bind_eq_some_iff.mp H
  obtain ⟨⟨t221, t222, t223, t224, t225, t228, t231⟩, A60, H⟩ := H
  try dsimp only at H
  have A6 := Aside0.mk A60
  clear A60
  have HC7 := Aside0.mk H
  clear H
  go_enter Try.func13, Try.ntmps13
  go_upto_if 28 with (first | ((with_reducible refine gate_dst (N := 3) rfl ?_); refine box_event ?hg (N := 3) ?hd (cs := #[.int .i64 a0_0, .int .i64 a0_1, .int .i64 a0_2, .string a0_3, .slice A0_4 l0_4.length c0_4, .slice A0_5 l0_5.length c0_5, .slice A0_6 l0_6.length c0_6]) (t := 25) ?hr ?_; (case hd => rfl); (case hg => rfl); (case hr => first | (go_simp; done) | (go_simp; rfl)); intro gb218 hg w8 hbox hb; have n0_ := Aside0.mk (below_step (by repeat (first | (with_reducible first | exact HB.out | apply below_alloc | apply pw_below_drewN | apply below_drew1) | exact HB.out)) hb); have n1_ := Aside0.mk (hbox); have n2_ := Aside0.mk ((by rw [hg]; exact (below_size (by repeat (first | (with_reducible first | exact HB.out | apply below_alloc | apply pw_below_drewN | apply below_drew1) | exact HB.out))) : w.heap.size ≤ gb218)); have n3_ := Aside0.mk ((by rw [hg]; exact (below_size (by repeat (first | (with_reducible first | exact HB.out | apply below_alloc | apply pw_below_drewN | apply below_drew1) | exact HB.out))) : w.heap.size ≤ gb218)); clear HB; have HB := n0_; have BK218 := n1_; have GW218 := n2_; have GE218 := n3_; clear n0_ n1_ n2_ n3_; clear hb hbox hg) | ((with_reducible refine gate_dst (N := 6) rfl ?_); refine box_event ?hg (N := 6) ?hd (cs := #[.int .i64 0, .int .i64 0, .int .i64 0, .string (⟨#[]⟩ : ByteArray), .slice none 0 0, .slice none 0 0, .slice none 0 0]) (t := 25) ?hr ?_; (case hd => rfl); (case hg => rfl); (case hr => first | (go_simp; done) | (go_simp; rfl)); intro gb219 hg w9 hbox hb; have n0_ := Aside0.mk (blk_below (g := gb218) (o := .cells #[.int .i64 a0_0, .int .i64 a0_1, .int .i64 a0_2, .string a0_3, .slice A0_4 l0_4.length c0_4, .slice A0_5 l0_5.length c0_5, .slice A0_6 l0_6.length c0_6] 25 (0, 0)) (by (with_reducible repeat (first | refine blk_drewN ?_ _ | refine blk_drew ?_ | refine blk_alloc ?_ _)); exact BK218.out) hb); have n1_ := Aside0.mk (below_step (by repeat (first | (with_reducible first | exact HB.out | apply below_alloc | apply pw_below_drewN | apply below_drew1 | refine below_set ?_ GE218.out) | exact HB.out)) hb); have n2_ := Aside0.mk (hbox); have n3_ := Aside0.mk ((by rw [hg]; exact (below_size (by repeat (first | (with_reducible first | exact HB.out | apply below_alloc | apply pw_below_drewN | apply below_drew1 | refine below_set ?_ GE218.out) | exact HB.out))) : w.heap.size ≤ gb219)); have n4_ := Aside0.mk ((by rw [hg]; exact (below_size (by repeat (first | (with_reducible first | exact HB.out | apply below_alloc | apply pw_below_drewN | apply below_drew1 | refine below_set ?_ GE218.out) | exact HB.out))) : w.heap.size ≤ gb219)); have n5_ := Aside0.mk ((by rw [hg]; exact Nat.ne_of_lt (blk_lt (g := gb218) (o := .cells #[.int .i64 a0_0, .int .i64 a0_1, .int .i64 a0_2, .string a0_3, .slice A0_4 l0_4.length c0_4, .slice A0_5 l0_5.length c0_5, .slice A0_6 l0_6.length c0_6] 25 (0, 0)) (by (with_reducible repeat (first | refine blk_drewN ?_ _ | refine blk_drew ?_ | refine blk_alloc ?_ _)); exact BK218.out)) : gb218 ≠ gb219)); have n6_ := Aside0.mk ((by rw [hg]; exact Nat.ne_of_gt (blk_lt (g := gb218) (o := .cells #[.int .i64 a0_0, .int .i64 a0_1, .int .i64 a0_2, .string a0_3, .slice A0_4 l0_4.length c0_4, .slice A0_5 l0_5.length c0_5, .slice A0_6 l0_6.length c0_6] 25 (0, 0)) (by (with_reducible repeat (first | refine blk_drewN ?_ _ | refine blk_drew ?_ | refine blk_alloc ?_ _)); exact BK218.out)) : gb219 ≠ gb218)); clear BK218; clear HB; have BK218 := n0_; have HB := n1_; have BK219 := n2_; have GW219 := n3_; have GE219 := n4_; have NB218_219 := n5_; have NB219_218 := n6_; clear n0_ n1_ n2_ n3_ n4_ n5_ n6_; clear hb hbox hg; have hnb10 := NB218_219.out; have hnc10 := NB219_218.out; have hcz11_0 : w9.cell? ⟨gb218, 0, none⟩ = some (.int .i64 a0_0) := (blk_cell BK218.out 0).trans rfl; have hcz11_1 : w9.cell? ⟨gb218, 1, none⟩ = some (.int .i64 a0_1) := (blk_cell BK218.out 1).trans rfl; have hcz11_2 : w9.cell? ⟨gb218, 2, none⟩ = some (.int .i64 a0_2) := (blk_cell BK218.out 2).trans rfl; have hcz11_3 : w9.cell? ⟨gb218, 3, none⟩ = some (.string a0_3) := (blk_cell BK218.out 3).trans rfl; have hcz11_4 : w9.cell? ⟨gb218, 4, none⟩ = some (.slice A0_4 l0_4.length c0_4) := (blk_cell BK218.out 4).trans rfl; have hcz11_5 : w9.cell? ⟨gb218, 5, none⟩ = some (.slice A0_5 l0_5.length c0_5) := (blk_cell BK218.out 5).trans rfl; have hcz11_6 : w9.cell? ⟨gb218, 6, none⟩ = some (.slice A0_6 l0_6.length c0_6) := (blk_cell BK218.out 6).trans rfl; have hfz11_0 := blk_frozen BK218.out 0; have hfz11_1 := blk_frozen BK218.out 1; have hfz11_2 := blk_frozen BK218.out 2; have hfz11_3 := blk_frozen BK218.out 3; have hfz11_4 := blk_frozen BK218.out 4; have hfz11_5 := blk_frozen BK218.out 5; have hfz11_6 := blk_frozen BK218.out 6) | ((with_reducible refine gate_callee (f := 39) rfl ?_); refine goesL_ (some 15) rfl rfl Try.func39 (by kernel_rfl) rfl #[.agg #[.int .i64 a0_0, .int .i64 a0_1, .int .i64 a0_2, .string a0_3, .slice A0_4 l0_4.length c0_4, .slice A0_5 l0_5.length c0_5, .slice A0_6 l0_6.length c0_6], .string a1, .int .i64 a2] rfl (by (try simp only [List.map_toArray, List.map_cons, List.map_nil]); first | done | rfl | (simp only [List.length_drop, List.length_take]; rfl)) ?_; (with_reducible refine (latticeref07_parted.calls k a0_0 a0_1 a0_2 a0_3 _ _ l0_4 _ _ l0_5 _ _ l0_6 a1 a2 t220 _ ?side1 ?side2 ?side3 ?side4 ?side5 ?side6 A4.out).mono ?_); (case side1 => repeat (first | exact (Kd.C_below HR0_4.out HB.out) | (with_reducible refine Kd.C_alloc ?_ _) | (with_reducible refine Kd.C_drewN ?_ _) | (with_reducible refine Kd.C_drew ?_))); (case side2 => exact HC0_4.out); (case side3 => repeat (first | exact (Kd.C_below HR0_5.out HB.out) | (with_reducible refine Kd.C_alloc ?_ _) | (with_reducible refine Kd.C_drewN ?_ _) | (with_reducible refine Kd.C_drew ?_))); (case side4 => exact HC0_5.out); (case side5 => repeat (first | exact (Kd.C_below HR0_6.out HB.out) | (with_reducible refine Kd.C_alloc ?_ _) | (with_reducible refine Kd.C_drewN ?_ _) | (with_reducible refine Kd.C_drew ?_))); (case side6 => exact HC0_6.out); rintro e w12 ⟨rfl, hb⟩; refine ⟨_, rfl, ?_⟩; have n0_ := Aside0.mk (blk_below (g := gb218) (o := .cells #[.int .i64 a0_0, .int .i64 a0_1, .int .i64 a0_2, .string a0_3, .slice A0_4 l0_4.length c0_4, .slice A0_5 l0_5.length c0_5, .slice A0_6 l0_6.length c0_6] 25 (0, 0)) (by (with_reducible repeat (first | refine blk_drewN ?_ _ | refine blk_drew ?_ | refine blk_alloc ?_ _)); exact BK218.out) hb); have n1_ := Aside0.mk (blk_below (g := gb219) (o := .cells #[.int .i64 0, .int .i64 0, .int .i64 0, .string (⟨#[]⟩ : ByteArray), .slice none 0 0, .slice none 0 0, .slice none 0 0] 25 (0, 0)) (by (with_reducible repeat (first | refine blk_drewN ?_ _ | refine blk_drew ?_ | refine blk_alloc ?_ _)); exact BK219.out) hb); have n2_ := Aside0.mk (below_step (by repeat (first | (with_reducible first | exact HB.out | apply below_alloc | apply pw_below_drewN | apply below_drew1 | refine below_set ?_ GE218.out | refine below_set ?_ GE219.out) | exact HB.out)) hb); clear BK218; clear BK219; clear HB; have BK218 := n0_; have BK219 := n1_; have HB := n2_; clear n0_ n1_ n2_; (try clear hb); (try clear hb2); (try clear hk); (try clear hi); have hcz13_0 : w12.cell? ⟨gb218, 0, none⟩ = some (.int .i64 a0_0) := (blk_cell BK218.out 0).trans rfl; have hcz13_1 : w12.cell? ⟨gb218, 1, none⟩ = some (.int .i64 a0_1) := (blk_cell BK218.out 1).trans rfl; have hcz13_2 : w12.cell? ⟨gb218, 2, none⟩ = some (.int .i64 a0_2) := (blk_cell BK218.out 2).trans rfl; have hcz13_3 : w12.cell? ⟨gb218, 3, none⟩ = some (.string a0_3) := (blk_cell BK218.out 3).trans rfl; have hcz13_4 : w12.cell? ⟨gb218, 4, none⟩ = some (.slice A0_4 l0_4.length c0_4) := (blk_cell BK218.out 4).trans rfl; have hcz13_5 : w12.cell? ⟨gb218, 5, none⟩ = some (.slice A0_5 l0_5.length c0_5) := (blk_cell BK218.out 5).trans rfl; have hcz13_6 : w12.cell? ⟨gb218, 6, none⟩ = some (.slice A0_6 l0_6.length c0_6) := (blk_cell BK218.out 6).trans rfl; have hfz13_0 := blk_frozen BK218.out 0; have hfz13_1 := blk_frozen BK218.out 1; have hfz13_2 := blk_frozen BK218.out 2; have hfz13_3 := blk_frozen BK218.out 3; have hfz13_4 := blk_frozen BK218.out 4; have hfz13_5 := blk_frozen BK218.out 5; have hfz13_6 := blk_frozen BK218.out 6) | ((with_reducible refine gate_callee (f := 40) rfl ?_); refine goesL_ (some 21) rfl rfl Try.func40 (by kernel_rfl) rfl #[.agg #[.int .i64 a0_0, .int .i64 a0_1, .int .i64 a0_2, .string a0_3, .slice A0_4 l0_4.length c0_4, .slice A0_5 l0_5.length c0_5, .slice A0_6 l0_6.length c0_6]] rfl (by (try simp only [List.map_toArray, List.map_cons, List.map_nil]); first | done | rfl | (simp only [List.length_drop, List.length_take]; rfl)) ?_; (with_reducible refine (latticeref07_bare.calls a0_0 a0_1 a0_2 a0_3 _ _ l0_4 _ _ l0_5 _ _ l0_6 t221 t222 t223 t224 t225 t228 t231 _ ?side1 ?side2 ?side3 ?side4 ?side5 ?side6 A6.out).mono ?_); (case side1 => repeat (first | exact (Kd.C_below HR0_4.out HB.out) | (with_reducible refine Kd.C_alloc ?_ _) | (with_reducible refine Kd.C_drewN ?_ _) | (with_reducible refine Kd.C_drew ?_))); (case side2 => exact HC0_4.out); (case side3 => repeat (first | exact (Kd.C_below HR0_5.out HB.out) | (with_reducible refine Kd.C_alloc ?_ _) | (with_reducible refine Kd.C_drewN ?_ _) | (with_reducible refine Kd.C_drew ?_))); (case side4 => exact HC0_5.out); (case side5 => repeat (first | exact (Kd.C_below HR0_6.out HB.out) | (with_reducible refine Kd.C_alloc ?_ _) | (with_reducible refine Kd.C_drewN ?_ _) | (with_reducible refine Kd.C_drew ?_))); (case side6 => exact HC0_6.out); rintro e w14 ⟨v226, v229, v232, rfl, ho0, ho1, ho2, hb⟩; refine ⟨_, rfl, ?_⟩; have n0_ := Aside0.mk (Kd.R_lower ho0 (below_size (by repeat (first | (with_reducible first | exact HB.out | apply below_alloc | apply pw_below_drewN | apply below_drew1 | refine below_set ?_ GE218.out | refine below_set ?_ GE219.out) | exact HB.out)))); have n1_ := Aside0.mk (Kd.R_lower ho1 (below_size (by repeat (first | (with_reducible first | exact HB.out | apply below_alloc | apply pw_below_drewN | apply below_drew1 | refine below_set ?_ GE218.out | refine below_set ?_ GE219.out) | exact HB.out)))); have n2_ := Aside0.mk (Kd.R_lower ho2 (below_size (by repeat (first | (with_reducible first | exact HB.out | apply below_alloc | apply pw_below_drewN | apply below_drew1 | refine below_set ?_ GE218.out | refine below_set ?_ GE219.out) | exact HB.out)))); have n3_ := Aside0.mk (blk_below (g := gb218) (o := .cells #[.int .i64 a0_0, .int .i64 a0_1, .int .i64 a0_2, .string a0_3, .slice A0_4 l0_4.length c0_4, .slice A0_5 l0_5.length c0_5, .slice A0_6 l0_6.length c0_6] 25 (0, 0)) (by (with_reducible repeat (first | refine blk_drewN ?_ _ | refine blk_drew ?_ | refine blk_alloc ?_ _)); exact BK218.out) hb); have n4_ := Aside0.mk (blk_below (g := gb219) (o := .cells #[.int .i64 0, .int .i64 0, .int .i64 0, .string (⟨#[]⟩ : ByteArray), .slice none 0 0, .slice none 0 0, .slice none 0 0] 25 (0, 0)) (by (with_reducible repeat (first | refine blk_drewN ?_ _ | refine blk_drew ?_ | refine blk_alloc ?_ _)); exact BK219.out) hb); have n5_ := Aside0.mk (below_step (by repeat (first | (with_reducible first | exact HB.out | apply below_alloc | apply pw_below_drewN | apply below_drew1 | refine below_set ?_ GE218.out | refine below_set ?_ GE219.out) | exact HB.out)) hb); clear BK218; clear BK219; clear HB; have HO227 := n0_; have HO230 := n1_; have HO233 := n2_; have BK218 := n3_; have BK219 := n4_; have HB := n5_; clear n0_ n1_ n2_ n3_ n4_ n5_; (try clear hb); (try clear hb2); (try clear hk); (try clear hi); (try clear ho0); (try clear ho1); (try clear ho2)) | ((with_reducible refine gate_dst (N := 9) rfl ?_); refine box_event ?hg (N := 9) ?hd (cs := #[.int .i64 0, .int .i64 0, .int .i64 0, .string (⟨#[]⟩ : ByteArray), .slice none 0 0, .slice none 0 0, .slice none 0 0]) (t := 25) ?hr ?_; (case hd => rfl); (case hg => rfl); (case hr => first | (go_simp; done) | (go_simp; rfl)); intro gb234 hg w15 hbox hb; have n0_ := Aside0.mk (Kd.R_below (by (with_reducible repeat (first | apply Kd.R_alloc | apply Kd.R_drewN | apply Kd.R_drew)); exact HO227.out) hb); have n1_ := Aside0.mk (Kd.R_below (by (with_reducible repeat (first | apply Kd.R_alloc | apply Kd.R_drewN | apply Kd.R_drew)); exact HO230.out) hb); have n2_ := Aside0.mk (Kd.R_below (by (with_reducible repeat (first | apply Kd.R_alloc | apply Kd.R_drewN | apply Kd.R_drew)); exact HO233.out) hb); have n3_ := Aside0.mk (blk_below (g := gb218) (o := .cells #[.int .i64 a0_0, .int .i64 a0_1, .int .i64 a0_2, .string a0_3, .slice A0_4 l0_4.length c0_4, .slice A0_5 l0_5.length c0_5, .slice A0_6 l0_6.length c0_6] 25 (0, 0)) (by (with_reducible repeat (first | refine blk_drewN ?_ _ | refine blk_drew ?_ | refine blk_alloc ?_ _)); exact BK218.out) hb); have n4_ := Aside0.mk (blk_below (g := gb219) (o := .cells #[.int .i64 0, .int .i64 0, .int .i64 0, .string (⟨#[]⟩ : ByteArray), .slice none 0 0, .slice none 0 0, .slice none 0 0] 25 (0, 0)) (by (with_reducible repeat (first | refine blk_drewN ?_ _ | refine blk_drew ?_ | refine blk_alloc ?_ _)); exact BK219.out) hb); have n5_ := Aside0.mk (below_step (by repeat (first | (with_reducible first | exact HB.out | apply below_alloc | apply pw_below_drewN | apply below_drew1 | refine below_set ?_ GE218.out | refine below_set ?_ GE219.out) | exact HB.out)) hb); have n6_ := Aside0.mk (hbox); have n7_ := Aside0.mk ((by rw [hg]; exact (below_size (by repeat (first | (with_reducible first | exact HB.out | apply below_alloc | apply pw_below_drewN | apply below_drew1 | refine below_set ?_ GE218.out | refine below_set ?_ GE219.out) | exact HB.out))) : w.heap.size ≤ gb234)); have n8_ := Aside0.mk ((by rw [hg]; exact (below_size (by repeat (first | (with_reducible first | exact HB.out | apply below_alloc | apply pw_below_drewN | apply below_drew1 | refine below_set ?_ GE218.out | refine below_set ?_ GE219.out) | exact HB.out))) : w.heap.size ≤ gb234)); have n9_ := Aside0.mk ((by rw [hg]; exact Nat.ne_of_lt (blk_lt (g := gb218) (o := .cells #[.int .i64 a0_0, .int .i64 a0_1, .int .i64 a0_2, .string a0_3, .slice A0_4 l0_4.length c0_4, .slice A0_5 l0_5.length c0_5, .slice A0_6 l0_6.length c0_6] 25 (0, 0)) (by (with_reducible repeat (first | refine blk_drewN ?_ _ | refine blk_drew ?_ | refine blk_alloc ?_ _)); exact BK218.out)) : gb218 ≠ gb234)); have n10_ := Aside0.mk ((by rw [hg]; exact Nat.ne_of_gt (blk_lt (g := gb218) (o := .cells #[.int .i64 a0_0, .int .i64 a0_1, .int .i64 a0_2, .string a0_3, .slice A0_4 l0_4.length c0_4, .slice A0_5 l0_5.length c0_5, .slice A0_6 l0_6.length c0_6] 25 (0, 0)) (by (with_reducible repeat (first | refine blk_drewN ?_ _ | refine blk_drew ?_ | refine blk_alloc ?_ _)); exact BK218.out)) : gb234 ≠ gb218)); have n11_ := Aside0.mk ((by rw [hg]; exact Nat.ne_of_lt (blk_lt (g := gb219) (o := .cells #[.int .i64 0, .int .i64 0, .int .i64 0, .string (⟨#[]⟩ : ByteArray), .slice none 0 0, .slice none 0 0, .slice none 0 0] 25 (0, 0)) (by (with_reducible repeat (first | refine blk_drewN ?_ _ | refine blk_drew ?_ | refine blk_alloc ?_ _)); exact BK219.out)) : gb219 ≠ gb234)); have n12_ := Aside0.mk ((by rw [hg]; exact Nat.ne_of_gt (blk_lt (g := gb219) (o := .cells #[.int .i64 0, .int .i64 0, .int .i64 0, .string (⟨#[]⟩ : ByteArray), .slice none 0 0, .slice none 0 0, .slice none 0 0] 25 (0, 0)) (by (with_reducible repeat (first | refine blk_drewN ?_ _ | refine blk_drew ?_ | refine blk_alloc ?_ _)); exact BK219.out)) : gb234 ≠ gb219)); clear HO227; clear HO230; clear HO233; clear BK218; clear BK219; clear HB; have HO227 := n0_; have HO230 := n1_; have HO233 := n2_; have BK218 := n3_; have BK219 := n4_; have HB := n5_; have BK234 := n6_; have GW234 := n7_; have GE234 := n8_; have NB218_234 := n9_; have NB234_218 := n10_; have NB219_234 := n11_; have NB234_219 := n12_; clear n0_ n1_ n2_ n3_ n4_ n5_ n6_ n7_ n8_ n9_ n10_ n11_ n12_; clear hb hbox hg; have hnb16 := NB234_218.out; have hnc16 := NB218_234.out; have hnb17 := NB234_219.out; have hnc17 := NB219_234.out; have hcz18_0 : w15.cell? ⟨gb234, 0, none⟩ = some (.int .i64 0) := (blk_cell BK234.out 0).trans rfl; have hcz18_1 : w15.cell? ⟨gb234, 1, none⟩ = some (.int .i64 0) := (blk_cell BK234.out 1).trans rfl; have hcz18_2 : w15.cell? ⟨gb234, 2, none⟩ = some (.int .i64 0) := (blk_cell BK234.out 2).trans rfl; have hcz18_3 : w15.cell? ⟨gb234, 3, none⟩ = some (.string (⟨#[]⟩ : ByteArray)) := (blk_cell BK234.out 3).trans rfl; have hcz18_4 : w15.cell? ⟨gb234, 4, none⟩ = some (.slice none 0 0) := (blk_cell BK234.out 4).trans rfl; have hcz18_5 : w15.cell? ⟨gb234, 5, none⟩ = some (.slice none 0 0) := (blk_cell BK234.out 5).trans rfl; have hcz18_6 : w15.cell? ⟨gb234, 6, none⟩ = some (.slice none 0 0) := (blk_cell BK234.out 6).trans rfl; have hfz18_0 := blk_frozen BK234.out 0; have hfz18_1 := blk_frozen BK234.out 1; have hfz18_2 := blk_frozen BK234.out 2; have hfz18_3 := blk_frozen BK234.out 3; have hfz18_4 := blk_frozen BK234.out 4; have hfz18_5 := blk_frozen BK234.out 5; have hfz18_6 := blk_frozen BK234.out 6; obtain ⟨Ao19, co19, eo19⟩ := Kd.R_slice HO227.out; subst eo19; obtain ⟨Ao20, co20, eo20⟩ := Kd.R_slice HO230.out; subst eo20; obtain ⟨Ao21, co21, eo21⟩ := Kd.R_slice HO233.out; subst eo21; have hcz22_0 : w15.cell? ⟨gb218, 0, none⟩ = some (.int .i64 a0_0) := (blk_cell BK218.out 0).trans rfl; have hcz22_1 : w15.cell? ⟨gb218, 1, none⟩ = some (.int .i64 a0_1) := (blk_cell BK218.out 1).trans rfl; have hcz22_2 : w15.cell? ⟨gb218, 2, none⟩ = some (.int .i64 a0_2) := (blk_cell BK218.out 2).trans rfl; have hcz22_3 : w15.cell? ⟨gb218, 3, none⟩ = some (.string a0_3) := (blk_cell BK218.out 3).trans rfl; have hcz22_4 : w15.cell? ⟨gb218, 4, none⟩ = some (.slice A0_4 l0_4.length c0_4) := (blk_cell BK218.out 4).trans rfl; have hcz22_5 : w15.cell? ⟨gb218, 5, none⟩ = some (.slice A0_5 l0_5.length c0_5) := (blk_cell BK218.out 5).trans rfl; have hcz22_6 : w15.cell? ⟨gb218, 6, none⟩ = some (.slice A0_6 l0_6.length c0_6) := (blk_cell BK218.out 6).trans rfl; have hfz22_0 := blk_frozen BK218.out 0; have hfz22_1 := blk_frozen BK218.out 1; have hfz22_2 := blk_frozen BK218.out 2; have hfz22_3 := blk_frozen BK218.out 3; have hfz22_4 := blk_frozen BK218.out 4; have hfz22_5 := blk_frozen BK218.out 5; have hfz22_6 := blk_frozen BK218.out 6))
  (try simp only [Act.put, List.setIfInBounds_toArray, List.set_cons_zero, List.set_cons_succ])
  go_cut [] (fun wc => ∃ (kq : Nat) (x235006_6 : List Int) (u235006 : Value), Aside0 (latticeref07_Left.j0 kq a1 a0_0 a0_1 a0_2 a0_3 l0_4 l0_5 l0_6 t221 t222 a2 a1 t225 t228 x235006_6 = some (r1, r2, r3, r4, r5, r6, r7, r8)) ∧ Aside0 (kq ≤ k) ∧ Aside0 (Kd.R Kd.string 9 wc w.heap.size (fun k_ => some k_ ≠ ((.slice Ao20 t228.length co20) : Value).ownBlock) (.slice Ao19 t225.length co19) t225) ∧ Aside0 (Kd.R Kd.string 9 wc w.heap.size (fun k_ => some k_ ≠ ((.slice Ao19 t225.length co19) : Value).ownBlock) (.slice Ao20 t228.length co20) t228) ∧ Aside0 (Kd.R (Kd.int .i64) 3 wc w.heap.size (fun _ => True) u235006 x235006_6) ∧ Aside0 (wc.heap[gb218]? = some (.cells #[.int .i64 a0_0, .int .i64 a0_1, .int .i64 a0_2, .string a0_3, (.slice A0_4 l0_4.length c0_4), (.slice A0_5 l0_5.length c0_5), (.slice A0_6 l0_6.length c0_6)] 25 (0, 0))) ∧ Aside0 (wc.heap[gb219]? = some (.cells #[.int .i64 0, .int .i64 0, .int .i64 0, .string (⟨#[]⟩ : ByteArray), (.slice none 0 0), (.slice none 0 0), (.slice none 0 0)] 25 (0, 0))) ∧ Aside0 (wc.heap[gb234]? = some (.cells #[.int .i64 t221, .int .i64 t222, .int .i64 a2, .string a1, (.slice Ao19 t225.length co19), (.slice Ao20 t228.length co20), u235006] 25 (0, 0))) ∧ Aside0 (Below w.heap.size w wc))
  case first =>
   have H := HC7.out
   clear HC7
   by_cases c23 : a0_0 > 0
   ·rw [if_pos c23] at H
    have c23b0 : decide (0 < a0_0) = true := decide_eq_true c23
    clear c23
    (first | rw [c23b0] | (simp only [i64_w, i32_w]; rw [c23b0]) | skip)
    by_cases c24 : 0 < (l0_6.length : Int)
    ·rw [if_pos c24] at H
     have c24b0 : decide (0 < (l0_6.length : Int)) = true := decide_eq_true c24
     have c24b1 : decide (0 < l0_6.length) = true := decide_eq_true (by omega)
     clear c24
     by_cases c25 : t231.length < 17592186044416
     ·rw [if_pos c25] at H
      have LMc25 := Aside0.mk c25
      clear c25
      obtain ⟨y236, hy236⟩ : ∃ y_ : List Int, y_ = (t231 ++ [rd l0_6 0]) := ⟨_, rfl⟩
      replace H : (latticeref07_Left.j0 k a1 a0_0 a0_1 a0_2 a0_3 l0_4 l0_5 l0_6 t221 t222 a2 a1 t225 t228 y236) = some (r1, r2, r3, r4, r5, r6, r7, r8) := by first | (rw [hy236]; with_reducible exact H) | (have H2_ := (Option.bind_some _ _).symm.trans H; rw [hy236]; with_reducible exact H2_) | (have H2_ := (Option.bind_some _ _).symm.trans H; with_reducible exact H2_) | with_reducible exact H | (rw [hy236]; exact H) | exact H
      have Ny236 := Aside0.mk hy236
      clear hy236
      have H' := Aside0.mk H
      clear H
      try go_wp2
      have n0_ : Aside0 (Kd.R Kd.string 9 (((((((((w15.setCell ⟨gb234, 0, none⟩ (.int .i64 t221)).setCell ⟨gb234, 1, none⟩ (.int .i64 t222)).setCell ⟨gb234, 2, none⟩ (.int .i64 t223)).setCell ⟨gb234, 3, none⟩ (.string t224)).setCell ⟨gb234, 4, none⟩ (.slice Ao19 t225.length co19)).setCell ⟨gb234, 5, none⟩ (.slice Ao20 t228.length co20)).setCell ⟨gb234, 6, none⟩ (.slice Ao21 t231.length co21)).setCell ⟨gb234, 2, none⟩ (.int .i64 a2)).setCell ⟨gb234, 3, none⟩ (.string a1)) w.heap.size (fun k_ => some k_ ≠ (.slice Ao20 t228.length co20 : Value).ownBlock) (.slice Ao19 t225.length co19) t225) := ⟨by (with_reducible repeat (first | apply Kd.R_alloc | apply Kd.R_drewN | apply Kd.R_drew)); exact Kd.R_mono (Kd.R_far (p := ⟨gb234, 3, none⟩) (Kd.R_far (p := ⟨gb234, 2, none⟩) (Kd.R_far (p := ⟨gb234, 6, none⟩) (Kd.R_far (p := ⟨gb234, 5, none⟩) (Kd.R_far (p := ⟨gb234, 4, none⟩) (Kd.R_far (p := ⟨gb234, 3, none⟩) (Kd.R_far (p := ⟨gb234, 2, none⟩) (Kd.R_far (p := ⟨gb234, 1, none⟩) (Kd.R_far (p := ⟨gb234, 0, none⟩) (Kd.R_types HO227.out BK234.out (by decide)) (fun _ hk => hk.2) (.int .i64 t221)) (fun _ hk => hk.2) (.int .i64 t222)) (fun _ hk => hk.2) (.int .i64 t223)) (fun _ hk => hk.2) (.string t224)) (fun _ hk => hk.2) (.slice Ao19 t225.length co19)) (fun _ hk => hk.2) (.slice Ao20 t228.length co20)) (fun _ hk => hk.2) (.slice Ao21 t231.length co21)) (fun _ hk => hk.2) (.int .i64 a2)) (fun _ hk => hk.2) (.string a1)) (fun _ hk => hk.1)⟩
      have n1_ : Aside0 (Kd.R Kd.string 9 (((((((((w15.setCell ⟨gb234, 0, none⟩ (.int .i64 t221)).setCell ⟨gb234, 1, none⟩ (.int .i64 t222)).setCell ⟨gb234, 2, none⟩ (.int .i64 t223)).setCell ⟨gb234, 3, none⟩ (.string t224)).setCell ⟨gb234, 4, none⟩ (.slice Ao19 t225.length co19)).setCell ⟨gb234, 5, none⟩ (.slice Ao20 t228.length co20)).setCell ⟨gb234, 6, none⟩ (.slice Ao21 t231.length co21)).setCell ⟨gb234, 2, none⟩ (.int .i64 a2)).setCell ⟨gb234, 3, none⟩ (.string a1)) w.heap.size (fun k_ => some k_ ≠ (.slice Ao19 t225.length co19 : Value).ownBlock) (.slice Ao20 t228.length co20) t228) := ⟨by (with_reducible repeat (first | apply Kd.R_alloc | apply Kd.R_drewN | apply Kd.R_drew)); exact Kd.R_mono (Kd.R_far (p := ⟨gb234, 3, none⟩) (Kd.R_far (p := ⟨gb234, 2, none⟩) (Kd.R_far (p := ⟨gb234, 6, none⟩) (Kd.R_far (p := ⟨gb234, 5, none⟩) (Kd.R_far (p := ⟨gb234, 4, none⟩) (Kd.R_far (p := ⟨gb234, 3, none⟩) (Kd.R_far (p := ⟨gb234, 2, none⟩) (Kd.R_far (p := ⟨gb234, 1, none⟩) (Kd.R_far (p := ⟨gb234, 0, none⟩) (Kd.R_types HO230.out BK234.out (by decide)) (fun _ hk => hk.2) (.int .i64 t221)) (fun _ hk => hk.2) (.int .i64 t222)) (fun _ hk => hk.2) (.int .i64 t223)) (fun _ hk => hk.2) (.string t224)) (fun _ hk => hk.2) (.slice Ao19 t225.length co19)) (fun _ hk => hk.2) (.slice Ao20 t228.length co20)) (fun _ hk => hk.2) (.slice Ao21 t231.length co21)) (fun _ hk => hk.2) (.int .i64 a2)) (fun _ hk => hk.2) (.string a1)) (fun _ hk => hk.1)⟩
      have n2_ : Aside0 (Kd.R (Kd.int .i64) 3 (((((((((w15.setCell ⟨gb234, 0, none⟩ (.int .i64 t221)).setCell ⟨gb234, 1, none⟩ (.int .i64 t222)).setCell ⟨gb234, 2, none⟩ (.int .i64 t223)).setCell ⟨gb234, 3, none⟩ (.string t224)).setCell ⟨gb234, 4, none⟩ (.slice Ao19 t225.length co19)).setCell ⟨gb234, 5, none⟩ (.slice Ao20 t228.length co20)).setCell ⟨gb234, 6, none⟩ (.slice Ao21 t231.length co21)).setCell ⟨gb234, 2, none⟩ (.int .i64 a2)).setCell ⟨gb234, 3, none⟩ (.string a1)) w.heap.size (fun _ => True) (.slice Ao21 t231.length co21) t231) := ⟨by (with_reducible repeat (first | apply Kd.R_alloc | apply Kd.R_drewN | apply Kd.R_drew)); exact Kd.R_mono (Kd.R_far (p := ⟨gb234, 3, none⟩) (Kd.R_far (p := ⟨gb234, 2, none⟩) (Kd.R_far (p := ⟨gb234, 6, none⟩) (Kd.R_far (p := ⟨gb234, 5, none⟩) (Kd.R_far (p := ⟨gb234, 4, none⟩) (Kd.R_far (p := ⟨gb234, 3, none⟩) (Kd.R_far (p := ⟨gb234, 2, none⟩) (Kd.R_far (p := ⟨gb234, 1, none⟩) (Kd.R_far (p := ⟨gb234, 0, none⟩) (Kd.R_types HO233.out BK234.out (by decide)) (fun _ hk => hk.2) (.int .i64 t221)) (fun _ hk => hk.2) (.int .i64 t222)) (fun _ hk => hk.2) (.int .i64 t223)) (fun _ hk => hk.2) (.string t224)) (fun _ hk => hk.2) (.slice Ao19 t225.length co19)) (fun _ hk => hk.2) (.slice Ao20 t228.length co20)) (fun _ hk => hk.2) (.slice Ao21 t231.length co21)) (fun _ hk => hk.2) (.int .i64 a2)) (fun _ hk => hk.2) (.string a1)) (fun _ hk => trivial)⟩
      have n3_ : Aside0 ((((((((((w15.setCell ⟨gb234, 0, none⟩ (.int .i64 t221)).setCell ⟨gb234, 1, none⟩ (.int .i64 t222)).setCell ⟨gb234, 2, none⟩ (.int .i64 t223)).setCell ⟨gb234, 3, none⟩ (.string t224)).setCell ⟨gb234, 4, none⟩ (.slice Ao19 t225.length co19)).setCell ⟨gb234, 5, none⟩ (.slice Ao20 t228.length co20)).setCell ⟨gb234, 6, none⟩ (.slice Ao21 t231.length co21)).setCell ⟨gb234, 2, none⟩ (.int .i64 a2)).setCell ⟨gb234, 3, none⟩ (.string a1)).heap[gb218]? = some (.cells #[.int .i64 a0_0, .int .i64 a0_1, .int .i64 a0_2, .string a0_3, .slice A0_4 l0_4.length c0_4, .slice A0_5 l0_5.length c0_5, .slice A0_6 l0_6.length c0_6] 25 (0, 0))) := ⟨by (with_reducible repeat (first | refine blk_drewN ?_ _ | refine blk_drew ?_ | refine blk_alloc ?_ _)); refine blk_far ?_ NB218_234.out _; (with_reducible repeat (first | refine blk_drewN ?_ _ | refine blk_drew ?_ | refine blk_alloc ?_ _)); refine blk_far ?_ NB218_234.out _; (with_reducible repeat (first | refine blk_drewN ?_ _ | refine blk_drew ?_ | refine blk_alloc ?_ _)); refine blk_far ?_ NB218_234.out _; (with_reducible repeat (first | refine blk_drewN ?_ _ | refine blk_drew ?_ | refine blk_alloc ?_ _)); refine blk_far ?_ NB218_234.out _; (with_reducible repeat (first | refine blk_drewN ?_ _ | refine blk_drew ?_ | refine blk_alloc ?_ _)); refine blk_far ?_ NB218_234.out _; (with_reducible repeat (first | refine blk_drewN ?_ _ | refine blk_drew ?_ | refine blk_alloc ?_ _)); refine blk_far ?_ NB218_234.out _; (with_reducible repeat (first | refine blk_drewN ?_ _ | refine blk_drew ?_ | refine blk_alloc ?_ _)); refine blk_far ?_ NB218_234.out _; (with_reducible repeat (first | refine blk_drewN ?_ _ | refine blk_drew ?_ | refine blk_alloc ?_ _)); refine blk_far ?_ NB218_234.out _; (with_reducible repeat (first | refine blk_drewN ?_ _ | refine blk_drew ?_ | refine blk_alloc ?_ _)); refine blk_far ?_ NB218_234.out _; (with_reducible repeat (first | refine blk_drewN ?_ _ | refine blk_drew ?_ | refine blk_alloc ?_ _)); exact BK218.out⟩
      have n4_ : Aside0 ((((((((((w15.setCell ⟨gb234, 0, none⟩ (.int .i64 t221)).setCell ⟨gb234, 1, none⟩ (.int .i64 t222)).setCell ⟨gb234, 2, none⟩ (.int .i64 t223)).setCell ⟨gb234, 3, none⟩ (.string t224)).setCell ⟨gb234, 4, none⟩ (.slice Ao19 t225.length co19)).setCell ⟨gb234, 5, none⟩ (.slice Ao20 t228.length co20)).setCell ⟨gb234, 6, none⟩ (.slice Ao21 t231.length co21)).setCell ⟨gb234, 2, none⟩ (.int .i64 a2)).setCell ⟨gb234, 3, none⟩ (.string a1)).heap[gb219]? = some (.cells #[.int .i64 0, .int .i64 0, .int .i64 0, .string (⟨#[]⟩ : ByteArray), .slice none 0 0, .slice none 0 0, .slice none 0 0] 25 (0, 0))) := ⟨by (with_reducible repeat (first | refine blk_drewN ?_ _ | refine blk_drew ?_ | refine blk_alloc ?_ _)); refine blk_far ?_ NB219_234.out _; (with_reducible repeat (first | refine blk_drewN ?_ _ | refine blk_drew ?_ | refine blk_alloc ?_ _)); refine blk_far ?_ NB219_234.out _; (with_reducible repeat (first | refine blk_drewN ?_ _ | refine blk_drew ?_ | refine blk_alloc ?_ _)); refine blk_far ?_ NB219_234.out _; (with_reducible repeat (first | refine blk_drewN ?_ _ | refine blk_drew ?_ | refine blk_alloc ?_ _)); refine blk_far ?_ NB219_234.out _; (with_reducible repeat (first | refine blk_drewN ?_ _ | refine blk_drew ?_ | refine blk_alloc ?_ _)); refine blk_far ?_ NB219_234.out _; (with_reducible repeat (first | refine blk_drewN ?_ _ | refine blk_drew ?_ | refine blk_alloc ?_ _)); refine blk_far ?_ NB219_234.out _; (with_reducible repeat (first | refine blk_drewN ?_ _ | refine blk_drew ?_ | refine blk_alloc ?_ _)); refine blk_far ?_ NB219_234.out _; (with_reducible repeat (first | refine blk_drewN ?_ _ | refine blk_drew ?_ | refine blk_alloc ?_ _)); refine blk_far ?_ NB219_234.out _; (with_reducible repeat (first | refine blk_drewN ?_ _ | refine blk_drew ?_ | refine blk_alloc ?_ _)); refine blk_far ?_ NB219_234.out _; (with_reducible repeat (first | refine blk_drewN ?_ _ | refine blk_drew ?_ | refine blk_alloc ?_ _)); exact BK219.out⟩
      have n5_ : Aside0 ((((((((((w15.setCell ⟨gb234, 0, none⟩ (.int .i64 t221)).setCell ⟨gb234, 1, none⟩ (.int .i64 t222)).setCell ⟨gb234, 2, none⟩ (.int .i64 t223)).setCell ⟨gb234, 3, none⟩ (.string t224)).setCell ⟨gb234, 4, none⟩ (.slice Ao19 t225.length co19)).setCell ⟨gb234, 5, none⟩ (.slice Ao20 t228.length co20)).setCell ⟨gb234, 6, none⟩ (.slice Ao21 t231.length co21)).setCell ⟨gb234, 2, none⟩ (.int .i64 a2)).setCell ⟨gb234, 3, none⟩ (.string a1)).heap[gb234]? = some (.cells #[.int .i64 t221, .int .i64 t222, .int .i64 a2, .string a1, .slice Ao19 t225.length co19, .slice Ao20 t228.length co20, .slice Ao21 t231.length co21] 25 (0, 0))) := ⟨by (with_reducible repeat (first | refine blk_drewN ?_ _ | refine blk_drew ?_ | refine blk_alloc ?_ _)); refine blk_put (cs := #[.int .i64 t221, .int .i64 t222, .int .i64 a2, .string t224, .slice Ao19 t225.length co19, .slice Ao20 t228.length co20, .slice Ao21 t231.length co21]) ?_ 3 _ rfl; (with_reducible repeat (first | refine blk_drewN ?_ _ | refine blk_drew ?_ | refine blk_alloc ?_ _)); refine blk_put (cs := #[.int .i64 t221, .int .i64 t222, .int .i64 t223, .string t224, .slice Ao19 t225.length co19, .slice Ao20 t228.length co20, .slice Ao21 t231.length co21]) ?_ 2 _ rfl; (with_reducible repeat (first | refine blk_drewN ?_ _ | refine blk_drew ?_ | refine blk_alloc ?_ _)); refine blk_put (cs := #[.int .i64 t221, .int .i64 t222, .int .i64 t223, .string t224, .slice Ao19 t225.length co19, .slice Ao20 t228.length co20, .slice none 0 0]) ?_ 6 _ rfl; (with_reducible repeat (first | refine blk_drewN ?_ _ | refine blk_drew ?_ | refine blk_alloc ?_ _)); refine blk_put (cs := #[.int .i64 t221, .int .i64 t222, .int .i64 t223, .string t224, .slice Ao19 t225.length co19, .slice none 0 0, .slice none 0 0]) ?_ 5 _ rfl; (with_reducible repeat (first | refine blk_drewN ?_ _ | refine blk_drew ?_ | refine blk_alloc ?_ _)); refine blk_put (cs := #[.int .i64 t221, .int .i64 t222, .int .i64 t223, .string t224, .slice none 0 0, .slice none 0 0, .slice none 0 0]) ?_ 4 _ rfl; (with_reducible repeat (first | refine blk_drewN ?_ _ | refine blk_drew ?_ | refine blk_alloc ?_ _)); refine blk_put (cs := #[.int .i64 t221, .int .i64 t222, .int .i64 t223, .string (⟨#[]⟩ : ByteArray), .slice none 0 0, .slice none 0 0, .slice none 0 0]) ?_ 3 _ rfl; (with_reducible repeat (first | refine blk_drewN ?_ _ | refine blk_drew ?_ | refine blk_alloc ?_ _)); refine blk_put (cs := #[.int .i64 t221, .int .i64 t222, .int .i64 0, .string (⟨#[]⟩ : ByteArray), .slice none 0 0, .slice none 0 0, .slice none 0 0]) ?_ 2 _ rfl; (with_reducible repeat (first | refine blk_drewN ?_ _ | refine blk_drew ?_ | refine blk_alloc ?_ _)); refine blk_put (cs := #[.int .i64 t221, .int .i64 0, .int .i64 0, .string (⟨#[]⟩ : ByteArray), .slice none 0 0, .slice none 0 0, .slice none 0 0]) ?_ 1 _ rfl; (with_reducible repeat (first | refine blk_drewN ?_ _ | refine blk_drew ?_ | refine blk_alloc ?_ _)); refine blk_put (cs := #[.int .i64 0, .int .i64 0, .int .i64 0, .string (⟨#[]⟩ : ByteArray), .slice none 0 0, .slice none 0 0, .slice none 0 0]) ?_ 0 _ rfl; (with_reducible repeat (first | refine blk_drewN ?_ _ | refine blk_drew ?_ | refine blk_alloc ?_ _)); exact BK234.out⟩
      have n6_ : Aside0 (Below w.heap.size w (((((((((w15.setCell ⟨gb234, 0, none⟩ (.int .i64 t221)).setCell ⟨gb234, 1, none⟩ (.int .i64 t222)).setCell ⟨gb234, 2, none⟩ (.int .i64 t223)).setCell ⟨gb234, 3, none⟩ (.string t224)).setCell ⟨gb234, 4, none⟩ (.slice Ao19 t225.length co19)).setCell ⟨gb234, 5, none⟩ (.slice Ao20 t228.length co20)).setCell ⟨gb234, 6, none⟩ (.slice Ao21 t231.length co21)).setCell ⟨gb234, 2, none⟩ (.int .i64 a2)).setCell ⟨gb234, 3, none⟩ (.string a1))) := ⟨by repeat (first | (with_reducible first | exact HB.out | apply below_alloc | apply pw_below_drewN | apply below_drew1 | refine below_set ?_ GE218.out | refine below_set ?_ GE219.out | refine below_set ?_ GE234.out) | exact HB.out)⟩
      (try clear HO227)
      (try clear HO230)
      (try clear HO233)
      (try clear BK218)
      (try clear BK219)
      (try clear BK234)
      (try clear HB)
      generalize (((((((((w15.setCell ⟨gb234, 0, none⟩ (.int .i64 t221)).setCell ⟨gb234, 1, none⟩ (.int .i64 t222)).setCell ⟨gb234, 2, none⟩ (.int .i64 t223)).setCell ⟨gb234, 3, none⟩ (.string t224)).setCell ⟨gb234, 4, none⟩ (.slice Ao19 t225.length co19)).setCell ⟨gb234, 5, none⟩ (.slice Ao20 t228.length co20)).setCell ⟨gb234, 6, none⟩ (.slice Ao21 t231.length co21)).setCell ⟨gb234, 2, none⟩ (.int .i64 a2)).setCell ⟨gb234, 3, none⟩ (.string a1)) = w26 at n0_ n1_ n2_ n3_ n4_ n5_ n6_ ⊢
      have HO227 := n0_
      have HO230 := n1_
      have HO233 := n2_
      have BK218 := n3_
      have BK219 := n4_
      have BK234 := n5_
      have HB := n6_
      clear n0_ n1_ n2_ n3_ n4_ n5_ n6_
      have n0_ := Aside0.mk (Kd.R_drew HO227.out)
      have n1_ := Aside0.mk (Kd.R_drew HO230.out)
      have n2_ := Aside0.mk (Kd.R_drew HO233.out)
      have n3_ := Aside0.mk (blk_drew BK218.out)
      have n4_ := Aside0.mk (blk_drew BK219.out)
      have n5_ := Aside0.mk (blk_drew BK234.out)
      have n6_ := Aside0.mk (below_drew1 HB.out)
      clear HO227
      clear HO230
      clear HO233
      clear BK218
      clear BK219
      clear BK234
      clear HB
      have HO227 := n0_
      have HO230 := n1_
      have HO233 := n2_
      have BK218 := n3_
      have BK219 := n4_
      have BK234 := n5_
      have HB := n6_
      clear n0_ n1_ n2_ n3_ n4_ n5_ n6_
      have p235 : 0 ≤ (0 : Int) := (by omega)
      have q235 : 0 < (l0_6.length : Int) := of_decide_eq_true (by first | (with_reducible assumption) | assumption)
      obtain ⟨ad235, e235, hx235_0⟩ := Kd.at_int HR0_6.out 0 p235 q235
      have hw235_0 := hx235_0
      (try rw [show ((0 : Int)).toNat = 0 from rfl] at hw235_0)
      (try rw [show 0 * 1 = 0 from rfl] at hw235_0)
      (try rw [Addr.add_zero'] at hw235_0)
      cases e235
      have qi235 : (0 < l0_6.length) = True := eq_true (by omega)
      (try rw [show ((0 : Int)).toNat = 0 from rfl] at hx235_0)
      (try rw [Addr.add_zero'] at hx235_0)
      replace hx235_0 := (HB.out.cell (World.block_lt_of_cell? w _ hx235_0)).trans hx235_0
      replace p235 := eq_true p235
      replace q235 := eq_true q235
      refine start_ (n := 10) (S := fun w' => w'.cell? ⟨gb234, 0, none⟩ = some (.int .i64 t221) ∧ w'.cell? ⟨gb234, 1, none⟩ = some (.int .i64 t222) ∧ w'.cell? ⟨gb234, 2, none⟩ = some (.int .i64 a2) ∧ w'.cell? ⟨gb234, 3, none⟩ = some (.string a1) ∧ w'.cell? ⟨gb234, 4, none⟩ = some (.slice Ao19 t225.length co19) ∧ w'.cell? ⟨gb234, 5, none⟩ = some (.slice Ao20 t228.length co20) ∧ w'.cell? ⟨gb234, 6, none⟩ = some (.slice Ao21 t231.length co21) ∧ w'.cell? ⟨gb218, 0, none⟩ = some (.int .i64 a0_0) ∧ w'.cell? ⟨gb218, 1, none⟩ = some (.int .i64 a0_1) ∧ w'.cell? ⟨gb218, 2, none⟩ = some (.int .i64 a0_2) ∧ w'.cell? ⟨gb218, 3, none⟩ = some (.string a0_3) ∧ w'.cell? ⟨gb218, 4, none⟩ = some (.slice A0_4 l0_4.length c0_4) ∧ w'.cell? ⟨gb218, 5, none⟩ = some (.slice A0_5 l0_5.length c0_5) ∧ w'.cell? ⟨gb218, 6, none⟩ = some (.slice (some ad235) l0_6.length c0_6) ∧ w'.cell? ad235 = some (.int .i64 (rd l0_6 0))) (ds := [9]) #[false, false, false, false, false, false, false, false, false, false] (by kernel_rfl) rfl rfl ⟨(blk_cell BK234.out 0).trans rfl, (blk_cell BK234.out 1).trans rfl, (blk_cell BK234.out 2).trans rfl, (blk_cell BK234.out 3).trans rfl, (blk_cell BK234.out 4).trans rfl, (blk_cell BK234.out 5).trans rfl, (blk_cell BK234.out 6).trans rfl, (blk_cell BK218.out 0).trans rfl, (blk_cell BK218.out 1).trans rfl, (blk_cell BK218.out 2).trans rfl, (blk_cell BK218.out 3).trans rfl, (blk_cell BK218.out 4).trans rfl, (blk_cell BK218.out 5).trans rfl, (blk_cell BK218.out 6).trans rfl, ((HB.out.cell (World.block_lt_of_cell? w _ hw235_0)).trans hw235_0)⟩ (fun hHeld => ?_); refine with_tabW latticeref07_Left.tab8 latticeref07_Left.bits8 (fun HT_ HW_ => ?_)
      generalize w26.drew = w27 at HO227 HO230 HO233 BK218 BK219 BK234 HB hx235_0 hHeld ⊢
      refine pure_ (i := 0) (N := some 29) (v := ?_) (a' := ?_) #[true, false, false, false, false, false, false, false, false, false] rfl rfl (any_of HT_.out (by kernel_rfl)) (fun _ _ _ h => h) (Or.inl ⟨by rfl, ?_⟩) ?_ ?_
      rotate_left
      ·intro w'
       go_simp
       with_reducible rfl
      rotate_left
      ·simp only [Act.put, List.setIfInBounds_toArray, List.set_cons_zero, List.set_cons_succ, i64_w, i32_w]
       rfl
      refine pure_ (i := 2) (N := some 31) (v := ?_) (a' := ?_) #[true, false, true, false, false, false, false, false, false, false] rfl rfl (any_of HT_.out (by kernel_rfl)) (fun _ _ _ h => h) (Or.inl ⟨by rfl, ?_⟩) ?_ ?_
      rotate_left
      ·intro w'
       go_simp
       with_reducible rfl
      rotate_left
      ·simp only [Act.put, List.setIfInBounds_toArray, List.set_cons_zero, List.set_cons_succ, i64_w, i32_w]
       rfl
      refine take_ (i := 1) (N := some 30) (v := ?_) (a' := ?_) #[true, true, true, false, false, false, false, false, false, false] rfl rfl (take_ofW HT_.out HW_.out (by kernel_rfl)) (fun _ _ _ h => h) (Or.inl ⟨by rfl, ?_⟩) hHeld ?_ ?_
      rotate_left
      ·rintro w' ⟨s0, s1, s2, s3, s4, s5, s6, s7, s8, s9, s10, s11, s12, s13, s14⟩
       go_simp
       with_reducible rfl
      rotate_left
      ·simp only [Act.put, List.setIfInBounds_toArray, List.set_cons_zero, List.set_cons_succ, i64_w, i32_w]
       rfl
      refine take_ (i := 3) (N := some 32) (v := ?_) (a' := ?_) #[true, true, true, true, false, false, false, false, false, false] rfl rfl (take_ofW HT_.out HW_.out (by kernel_rfl)) (fun _ _ _ h => h) (Or.inl ⟨by rfl, ?_⟩) hHeld ?_ ?_
      rotate_left
      ·rintro w' ⟨s0, s1, s2, s3, s4, s5, s6, s7, s8, s9, s10, s11, s12, s13, s14⟩
       go_simp
       with_reducible rfl
      rotate_left
      ·simp only [Act.put, List.setIfInBounds_toArray, List.set_cons_zero, List.set_cons_succ, i64_w, i32_w]
       rfl
      refine pure_ (i := 4) (N := some 33) (v := ?_) (a' := ?_) #[true, true, true, true, true, false, false, false, false, false] rfl rfl (any_of HT_.out (by kernel_rfl)) (fun _ _ _ h => h) (Or.inl ⟨by rfl, ?_⟩) ?_ ?_
      rotate_left
      ·intro w'
       go_simp
       with_reducible rfl
      rotate_left
      ·simp only [Act.put, List.setIfInBounds_toArray, List.set_cons_zero, List.set_cons_succ, i64_w, i32_w]
       rfl
      refine take_ (i := 5) (N := some 34) (v := ?_) (a' := ?_) #[true, true, true, true, true, true, false, false, false, false] rfl rfl (take_ofW HT_.out HW_.out (by kernel_rfl)) (fun _ _ _ h => h) (Or.inl ⟨by rfl, ?_⟩) hHeld ?_ ?_
      rotate_left
      ·rintro w' ⟨s0, s1, s2, s3, s4, s5, s6, s7, s8, s9, s10, s11, s12, s13, s14⟩
       go_simp
       with_reducible rfl
      rotate_left
      ·simp only [Act.put, List.setIfInBounds_toArray, List.set_cons_zero, List.set_cons_succ, i64_w, i32_w]
       rfl
      refine one_ (i := 6) (N := some 35) #[true, true, true, true, true, true, true, false, false, false] rfl rfl (one_of HT_.out (by kernel_rfl)) (by decide) (fun K hK => ?_)
      refine value_ (w1 := ?_) (v := ?_) (by rfl) rfl ?_ ?_
      rotate_left 2
      ·go_simp
       constructor
       ·rfl
       ·rfl
      refine hK.out _ _ ⟨(blk_cell (blk_alloc BK234.out _) 0).trans rfl, (blk_cell (blk_alloc BK234.out _) 1).trans rfl, (blk_cell (blk_alloc BK234.out _) 2).trans rfl, (blk_cell (blk_alloc BK234.out _) 3).trans rfl, (blk_cell (blk_alloc BK234.out _) 4).trans rfl, (blk_cell (blk_alloc BK234.out _) 5).trans rfl, (blk_cell (blk_alloc BK234.out _) 6).trans rfl, (blk_cell (blk_alloc BK218.out _) 0).trans rfl, (blk_cell (blk_alloc BK218.out _) 1).trans rfl, (blk_cell (blk_alloc BK218.out _) 2).trans rfl, (blk_cell (blk_alloc BK218.out _) 3).trans rfl, (blk_cell (blk_alloc BK218.out _) 4).trans rfl, (blk_cell (blk_alloc BK218.out _) 5).trans rfl, (blk_cell (blk_alloc BK218.out _) 6).trans rfl, (World.cell?_alloc_lt _ _ _ (World.block_lt_of_cell? _ _ (((HB.out.cell (World.block_lt_of_cell? w _ hw235_0)).trans hw235_0)))).trans (((HB.out.cell (World.block_lt_of_cell? w _ hw235_0)).trans hw235_0))⟩ (fun hHeld => ?_)
      clear hK K
      refine norm_ (a' := ?_) ?_ ?_
      rotate_left
      ·show Act.put _ (some 35) _ = _
       simp only [Act.put, List.setIfInBounds_toArray, List.set_cons_zero, List.set_cons_succ, i64_w, i32_w]
       rfl
      refine one_ (i := 7) (N := some 36) #[true, true, true, true, true, true, true, true, false, false] rfl rfl (one_of HT_.out (by kernel_rfl)) (by decide) (fun K hK => ?_)
      refine Kd.R_append_step (Kd.int .i64) (w0 := w) w.heap.size (by rfl) (.tmp 30) (.tmp 35) 23 3 (.int .i64 0) 8 rfl Try.underlying23 info3 rfl (by decide) (by omega) (.slice Ao21 t231.length co21) t231 (rd l0_6 0) [.int .i64 (rd l0_6 0)] (fun _ => True) (fun _ => False) rfl rfl ?aP (fun _ hk => hk.elim) ?aF ?aO ?aB ?aS ?aL ?_
      (case aP => exact rfl)
      (case aB => exact (by repeat (first | (with_reducible first | exact HB.out | apply below_alloc | apply pw_below_drewN | apply below_drew1 | refine below_set ?_ GE218.out | refine below_set ?_ GE219.out | refine below_set ?_ GE234.out) | exact HB.out)))
      (case aF => exact (fun _ _ => trivial))
      (case aO => exact (by (with_reducible repeat (first | apply Kd.R_alloc | apply Kd.R_drewN | apply Kd.R_drew)); exact HO233.out))
      (case aS => exact (below_size (by repeat (first | (with_reducible first | exact HB.out | apply below_alloc | apply pw_below_drewN | apply below_drew1 | refine below_set ?_ GE218.out | refine below_set ?_ GE219.out | refine below_set ?_ GE234.out) | exact HB.out))))
      (case aL => have := LMc25.out; omega)
      intro v237 w28 ho hb hg hat
      rw [← Ny236.out] at ho
      have n0_ := Aside0.mk (blk_grown (g := gb218) (o := .cells #[.int .i64 a0_0, .int .i64 a0_1, .int .i64 a0_2, .string a0_3, .slice A0_4 l0_4.length c0_4, .slice A0_5 l0_5.length c0_5, .slice (some ad235) l0_6.length c0_6] 25 (0, 0)) (by (with_reducible repeat (first | refine blk_drewN ?_ _ | refine blk_drew ?_ | refine blk_alloc ?_ _)); exact BK218.out) hg (Kd.R_ne HO233.out BK218.out (by decide)))
      have n1_ := Aside0.mk (blk_grown (g := gb219) (o := .cells #[.int .i64 0, .int .i64 0, .int .i64 0, .string (⟨#[]⟩ : ByteArray), .slice none 0 0, .slice none 0 0, .slice none 0 0] 25 (0, 0)) (by (with_reducible repeat (first | refine blk_drewN ?_ _ | refine blk_drew ?_ | refine blk_alloc ?_ _)); exact BK219.out) hg (Kd.R_ne HO233.out BK219.out (by decide)))
      have n2_ := Aside0.mk (Kd.R_over' (by (with_reducible repeat (first | apply Kd.R_alloc | apply Kd.R_drewN | apply Kd.R_drew)); exact HO227.out) (Kd.R_typed (by (with_reducible repeat (first | apply Kd.R_alloc | apply Kd.R_drewN | apply Kd.R_drew)); exact HO233.out)) (by decide) hg)
      have n3_ := Aside0.mk (Kd.R_over' (by (with_reducible repeat (first | apply Kd.R_alloc | apply Kd.R_drewN | apply Kd.R_drew)); exact HO230.out) (Kd.R_typed (by (with_reducible repeat (first | apply Kd.R_alloc | apply Kd.R_drewN | apply Kd.R_drew)); exact HO233.out)) (by decide) hg)
      have n4_ := Aside0.mk (blk_grown (g := gb234) (o := .cells #[.int .i64 t221, .int .i64 t222, .int .i64 a2, .string a1, .slice Ao19 t225.length co19, .slice Ao20 t228.length co20, .slice Ao21 t231.length co21] 25 (0, 0)) (by (with_reducible repeat (first | refine blk_drewN ?_ _ | refine blk_drew ?_ | refine blk_alloc ?_ _)); exact BK234.out) hg (Kd.R_ne HO233.out BK234.out (by decide)))
      have n5_ := Aside0.mk (hb)
      have n6_ := Aside0.mk (ho)
      clear BK218
      clear BK219
      clear HO227
      clear HO230
      clear BK234
      clear HB
      clear HO233
      have BK218 := n0_
      have BK219 := n1_
      have HO227 := n2_
      have HO230 := n3_
      have BK234 := n4_
      have HB := n5_
      have HO238 := n6_
      clear n0_ n1_ n2_ n3_ n4_ n5_ n6_
      clear ho hb hg hat
      obtain ⟨Ao29, co29, eo29⟩ := Kd.R_slice HO238.out
      (first | subst eo29 | (injection eo29 with f1_ f2_ f3_; have f4_ := f1_.symm; have f5_ := f3_.symm; clear f1_ f2_ f3_; subst f4_; subst f5_))
      refine hK.out _ _ ⟨(blk_cell BK234.out 0).trans rfl, (blk_cell BK234.out 1).trans rfl, (blk_cell BK234.out 2).trans rfl, (blk_cell BK234.out 3).trans rfl, (blk_cell BK234.out 4).trans rfl, (blk_cell BK234.out 5).trans rfl, (blk_cell BK234.out 6).trans rfl, (blk_cell BK218.out 0).trans rfl, (blk_cell BK218.out 1).trans rfl, (blk_cell BK218.out 2).trans rfl, (blk_cell BK218.out 3).trans rfl, (blk_cell BK218.out 4).trans rfl, (blk_cell BK218.out 5).trans rfl, (blk_cell BK218.out 6).trans rfl, ((HB.out.cell (World.block_lt_of_cell? w _ hw235_0)).trans hw235_0)⟩ (fun hHeld => ?_)
      clear hK K
      refine norm_ (a' := ?_) ?_ ?_
      rotate_left
      ·show Act.put _ (some 36) _ = _
       simp only [Act.put, List.setIfInBounds_toArray, List.set_cons_zero, List.set_cons_succ, i64_w, i32_w]
       rfl
      refine pure_ (i := 8) (N := some 37) (v := ?_) (a' := ?_) #[true, true, true, true, true, true, true, true, true, false] rfl rfl (any_of HT_.out (by kernel_rfl)) (fun _ _ _ h => h) (Or.inl ⟨by rfl, ?_⟩) ?_ ?_
      rotate_left
      ·intro w'
       go_simp
       with_reducible rfl
      rotate_left
      ·simp only [Act.put, List.setIfInBounds_toArray, List.set_cons_zero, List.set_cons_succ, i64_w, i32_w]
       rfl
      refine last_ (i := 9) (N := none) #[true, true, true, true, true, true, true, true, true, true] rfl rfl (one_of HT_.out (by kernel_rfl)) (by decide) (fun K hK => ?_)
      have hs30 : w28.cell? ⟨gb234, 6, none⟩ = some (.slice Ao21 t231.length co21) := (blk_cell BK234.out 6).trans rfl
      have hfs30 := blk_frozen BK234.out 6
      have hns30_0 := NB218_234.out
      have hns30_1 := NB219_234.out
      have hms30_0 := NB234_218.out
      have hms30_1 := NB234_219.out
      refine skip_ (w1 := ?_) (by rfl) rfl ?_ ?_
      rotate_left
      ·go_simp
       rfl
      refine hK.out _ _ ?_
      clear hK K
      refine done_ (done_of HT_.out (by kernel_rfl)) ?_
      try go_wp2
      go_meet
      case rel => exact ⟨_, (y236), (.slice Ao29 y236.length co29), H', ⟨by first | omega | exact Nat.le_refl _⟩, ⟨by (with_reducible repeat (first | apply Kd.R_alloc | apply Kd.R_drewN | apply Kd.R_drew)); exact Kd.R_mono (Kd.R_far (p := ⟨gb234, 6, none⟩) (Kd.R_types HO227.out BK234.out (by decide)) (fun _ hk => hk.2) (.slice Ao29 y236.length co29)) (fun _ hk => hk.1)⟩, ⟨by (with_reducible repeat (first | apply Kd.R_alloc | apply Kd.R_drewN | apply Kd.R_drew)); exact Kd.R_mono (Kd.R_far (p := ⟨gb234, 6, none⟩) (Kd.R_types HO230.out BK234.out (by decide)) (fun _ hk => hk.2) (.slice Ao29 y236.length co29)) (fun _ hk => hk.1)⟩, ⟨by (with_reducible repeat (first | apply Kd.R_alloc | apply Kd.R_drewN | apply Kd.R_drew)); exact Kd.R_mono (Kd.R_far (p := ⟨gb234, 6, none⟩) (Kd.R_types HO238.out BK234.out (by decide)) (fun _ hk => hk.2) (.slice Ao29 y236.length co29)) (fun _ hk => trivial)⟩, ⟨by (with_reducible repeat (first | refine blk_drewN ?_ _ | refine blk_drew ?_ | refine blk_alloc ?_ _)); refine blk_far ?_ NB218_234.out _; (with_reducible repeat (first | refine blk_drewN ?_ _ | refine blk_drew ?_ | refine blk_alloc ?_ _)); exact BK218.out⟩, ⟨by (with_reducible repeat (first | refine blk_drewN ?_ _ | refine blk_drew ?_ | refine blk_alloc ?_ _)); refine blk_far ?_ NB219_234.out _; (with_reducible repeat (first | refine blk_drewN ?_ _ | refine blk_drew ?_ | refine blk_alloc ?_ _)); exact BK219.out⟩, ⟨by (with_reducible repeat (first | refine blk_drewN ?_ _ | refine blk_drew ?_ | refine blk_alloc ?_ _)); refine blk_put (cs := #[.int .i64 t221, .int .i64 t222, .int .i64 a2, .string a1, .slice Ao19 t225.length co19, .slice Ao20 t228.length co20, .slice Ao21 t231.length co21]) ?_ 6 _ rfl; (with_reducible repeat (first | refine blk_drewN ?_ _ | refine blk_drew ?_ | refine blk_alloc ?_ _)); exact BK234.out⟩, ⟨by repeat (first | (with_reducible first | exact HB.out | apply below_alloc | apply pw_below_drewN | apply below_drew1 | refine below_set ?_ GE218.out | refine below_set ?_ GE219.out | refine below_set ?_ GE234.out) | exact HB.out)⟩⟩
     ·rw [if_neg c25] at H
      exact absurd H (by simp)
    ·rw [if_neg c24] at H
     exact absurd H (by simp)
   ·rw [if_neg c23] at H
    have c23b0 : decide (0 < a0_0) = false := decide_eq_false c23
    clear c23
    (first | rw [c23b0] | (simp only [i64_w, i32_w]; rw [c23b0]) | skip)
    have H' := Aside0.mk H
    clear H
    go_wp2
    go_meet
    case rel => exact ⟨_, (t231), (.slice Ao21 t231.length co21), H', ⟨by first | omega | exact Nat.le_refl _⟩, ⟨by (with_reducible repeat (first | apply Kd.R_alloc | apply Kd.R_drewN | apply Kd.R_drew)); exact Kd.R_mono (Kd.R_far (p := ⟨gb234, 3, none⟩) (Kd.R_far (p := ⟨gb234, 2, none⟩) (Kd.R_far (p := ⟨gb234, 6, none⟩) (Kd.R_far (p := ⟨gb234, 5, none⟩) (Kd.R_far (p := ⟨gb234, 4, none⟩) (Kd.R_far (p := ⟨gb234, 3, none⟩) (Kd.R_far (p := ⟨gb234, 2, none⟩) (Kd.R_far (p := ⟨gb234, 1, none⟩) (Kd.R_far (p := ⟨gb234, 0, none⟩) (Kd.R_types HO227.out BK234.out (by decide)) (fun _ hk => hk.2) (.int .i64 t221)) (fun _ hk => hk.2) (.int .i64 t222)) (fun _ hk => hk.2) (.int .i64 t223)) (fun _ hk => hk.2) (.string t224)) (fun _ hk => hk.2) (.slice Ao19 t225.length co19)) (fun _ hk => hk.2) (.slice Ao20 t228.length co20)) (fun _ hk => hk.2) (.slice Ao21 t231.length co21)) (fun _ hk => hk.2) (.int .i64 a2)) (fun _ hk => hk.2) (.string a1)) (fun _ hk => hk.1)⟩, ⟨by (with_reducible repeat (first | apply Kd.R_alloc | apply Kd.R_drewN | apply Kd.R_drew)); exact Kd.R_mono (Kd.R_far (p := ⟨gb234, 3, none⟩) (Kd.R_far (p := ⟨gb234, 2, none⟩) (Kd.R_far (p := ⟨gb234, 6, none⟩) (Kd.R_far (p := ⟨gb234, 5, none⟩) (Kd.R_far (p := ⟨gb234, 4, none⟩) (Kd.R_far (p := ⟨gb234, 3, none⟩) (Kd.R_far (p := ⟨gb234, 2, none⟩) (Kd.R_far (p := ⟨gb234, 1, none⟩) (Kd.R_far (p := ⟨gb234, 0, none⟩) (Kd.R_types HO230.out BK234.out (by decide)) (fun _ hk => hk.2) (.int .i64 t221)) (fun _ hk => hk.2) (.int .i64 t222)) (fun _ hk => hk.2) (.int .i64 t223)) (fun _ hk => hk.2) (.string t224)) (fun _ hk => hk.2) (.slice Ao19 t225.length co19)) (fun _ hk => hk.2) (.slice Ao20 t228.length co20)) (fun _ hk => hk.2) (.slice Ao21 t231.length co21)) (fun _ hk => hk.2) (.int .i64 a2)) (fun _ hk => hk.2) (.string a1)) (fun _ hk => hk.1)⟩, ⟨by (with_reducible repeat (first | apply Kd.R_alloc | apply Kd.R_drewN | apply Kd.R_drew)); exact Kd.R_mono (Kd.R_far (p := ⟨gb234, 3, none⟩) (Kd.R_far (p := ⟨gb234, 2, none⟩) (Kd.R_far (p := ⟨gb234, 6, none⟩) (Kd.R_far (p := ⟨gb234, 5, none⟩) (Kd.R_far (p := ⟨gb234, 4, none⟩) (Kd.R_far (p := ⟨gb234, 3, none⟩) (Kd.R_far (p := ⟨gb234, 2, none⟩) (Kd.R_far (p := ⟨gb234, 1, none⟩) (Kd.R_far (p := ⟨gb234, 0, none⟩) (Kd.R_types HO233.out BK234.out (by decide)) (fun _ hk => hk.2) (.int .i64 t221)) (fun _ hk => hk.2) (.int .i64 t222)) (fun _ hk => hk.2) (.int .i64 t223)) (fun _ hk => hk.2) (.string t224)) (fun _ hk => hk.2) (.slice Ao19 t225.length co19)) (fun _ hk => hk.2) (.slice Ao20 t228.length co20)) (fun _ hk => hk.2) (.slice Ao21 t231.length co21)) (fun _ hk => hk.2) (.int .i64 a2)) (fun _ hk => hk.2) (.string a1)) (fun _ hk => trivial)⟩, ⟨by (with_reducible repeat (first | refine blk_drewN ?_ _ | refine blk_drew ?_ | refine blk_alloc ?_ _)); refine blk_far ?_ NB218_234.out _; (with_reducible repeat (first | refine blk_drewN ?_ _ | refine blk_drew ?_ | refine blk_alloc ?_ _)); refine blk_far ?_ NB218_234.out _; (with_reducible repeat (first | refine blk_drewN ?_ _ | refine blk_drew ?_ | refine blk_alloc ?_ _)); refine blk_far ?_ NB218_234.out _; (with_reducible repeat (first | refine blk_drewN ?_ _ | refine blk_drew ?_ | refine blk_alloc ?_ _)); refine blk_far ?_ NB218_234.out _; (with_reducible repeat (first | refine blk_drewN ?_ _ | refine blk_drew ?_ | refine blk_alloc ?_ _)); refine blk_far ?_ NB218_234.out _; (with_reducible repeat (first | refine blk_drewN ?_ _ | refine blk_drew ?_ | refine blk_alloc ?_ _)); refine blk_far ?_ NB218_234.out _; (with_reducible repeat (first | refine blk_drewN ?_ _ | refine blk_drew ?_ | refine blk_alloc ?_ _)); refine blk_far ?_ NB218_234.out _; (with_reducible repeat (first | refine blk_drewN ?_ _ | refine blk_drew ?_ | refine blk_alloc ?_ _)); refine blk_far ?_ NB218_234.out _; (with_reducible repeat (first | refine blk_drewN ?_ _ | refine blk_drew ?_ | refine blk_alloc ?_ _)); refine blk_far ?_ NB218_234.out _; (with_reducible repeat (first | refine blk_drewN ?_ _ | refine blk_drew ?_ | refine blk_alloc ?_ _)); exact BK218.out⟩, ⟨by (with_reducible repeat (first | refine blk_drewN ?_ _ | refine blk_drew ?_ | refine blk_alloc ?_ _)); refine blk_far ?_ NB219_234.out _; (with_reducible repeat (first | refine blk_drewN ?_ _ | refine blk_drew ?_ | refine blk_alloc ?_ _)); refine blk_far ?_ NB219_234.out _; (with_reducible repeat (first | refine blk_drewN ?_ _ | refine blk_drew ?_ | refine blk_alloc ?_ _)); refine blk_far ?_ NB219_234.out _; (with_reducible repeat (first | refine blk_drewN ?_ _ | refine blk_drew ?_ | refine blk_alloc ?_ _)); refine blk_far ?_ NB219_234.out _; (with_reducible repeat (first | refine blk_drewN ?_ _ | refine blk_drew ?_ | refine blk_alloc ?_ _)); refine blk_far ?_ NB219_234.out _; (with_reducible repeat (first | refine blk_drewN ?_ _ | refine blk_drew ?_ | refine blk_alloc ?_ _)); refine blk_far ?_ NB219_234.out _; (with_reducible repeat (first | refine blk_drewN ?_ _ | refine blk_drew ?_ | refine blk_alloc ?_ _)); refine blk_far ?_ NB219_234.out _; (with_reducible repeat (first | refine blk_drewN ?_ _ | refine blk_drew ?_ | refine blk_alloc ?_ _)); refine blk_far ?_ NB219_234.out _; (with_reducible repeat (first | refine blk_drewN ?_ _ | refine blk_drew ?_ | refine blk_alloc ?_ _)); refine blk_far ?_ NB219_234.out _; (with_reducible repeat (first | refine blk_drewN ?_ _ | refine blk_drew ?_ | refine blk_alloc ?_ _)); exact BK219.out⟩, ⟨by (with_reducible repeat (first | refine blk_drewN ?_ _ | refine blk_drew ?_ | refine blk_alloc ?_ _)); refine blk_put (cs := #[.int .i64 t221, .int .i64 t222, .int .i64 a2, .string t224, .slice Ao19 t225.length co19, .slice Ao20 t228.length co20, .slice Ao21 t231.length co21]) ?_ 3 _ rfl; (with_reducible repeat (first | refine blk_drewN ?_ _ | refine blk_drew ?_ | refine blk_alloc ?_ _)); refine blk_put (cs := #[.int .i64 t221, .int .i64 t222, .int .i64 t223, .string t224, .slice Ao19 t225.length co19, .slice Ao20 t228.length co20, .slice Ao21 t231.length co21]) ?_ 2 _ rfl; (with_reducible repeat (first | refine blk_drewN ?_ _ | refine blk_drew ?_ | refine blk_alloc ?_ _)); refine blk_put (cs := #[.int .i64 t221, .int .i64 t222, .int .i64 t223, .string t224, .slice Ao19 t225.length co19, .slice Ao20 t228.length co20, .slice none 0 0]) ?_ 6 _ rfl; (with_reducible repeat (first | refine blk_drewN ?_ _ | refine blk_drew ?_ | refine blk_alloc ?_ _)); refine blk_put (cs := #[.int .i64 t221, .int .i64 t222, .int .i64 t223, .string t224, .slice Ao19 t225.length co19, .slice none 0 0, .slice none 0 0]) ?_ 5 _ rfl; (with_reducible repeat (first | refine blk_drewN ?_ _ | refine blk_drew ?_ | refine blk_alloc ?_ _)); refine blk_put (cs := #[.int .i64 t221, .int .i64 t222, .int .i64 t223, .string t224, .slice none 0 0, .slice none 0 0, .slice none 0 0]) ?_ 4 _ rfl; (with_reducible repeat (first | refine blk_drewN ?_ _ | refine blk_drew ?_ | refine blk_alloc ?_ _)); refine blk_put (cs := #[.int .i64 t221, .int .i64 t222, .int .i64 t223, .string (⟨#[]⟩ : ByteArray), .slice none 0 0, .slice none 0 0, .slice none 0 0]) ?_ 3 _ rfl; (with_reducible repeat (first | refine blk_drewN ?_ _ | refine blk_drew ?_ | refine blk_alloc ?_ _)); refine blk_put (cs := #[.int .i64 t221, .int .i64 t222, .int .i64 0, .string (⟨#[]⟩ : ByteArray), .slice none 0 0, .slice none 0 0, .slice none 0 0]) ?_ 2 _ rfl; (with_reducible repeat (first | refine blk_drewN ?_ _ | refine blk_drew ?_ | refine blk_alloc ?_ _)); refine blk_put (cs := #[.int .i64 t221, .int .i64 0, .int .i64 0, .string (⟨#[]⟩ : ByteArray), .slice none 0 0, .slice none 0 0, .slice none 0 0]) ?_ 1 _ rfl; (with_reducible repeat (first | refine blk_drewN ?_ _ | refine blk_drew ?_ | refine blk_alloc ?_ _)); refine blk_put (cs := #[.int .i64 0, .int .i64 0, .int .i64 0, .string (⟨#[]⟩ : ByteArray), .slice none 0 0, .slice none 0 0, .slice none 0 0]) ?_ 0 _ rfl; (with_reducible repeat (first | refine blk_drewN ?_ _ | refine blk_drew ?_ | refine blk_alloc ?_ _)); exact BK234.out⟩, ⟨by repeat (first | (with_reducible first | exact HB.out | apply below_alloc | apply pw_below_drewN | apply below_drew1 | refine below_set ?_ GE218.out | refine below_set ?_ GE219.out | refine below_set ?_ GE234.out) | exact HB.out)⟩⟩
  case rest =>
   clear HC7
   try clear c1
   try clear c2
   try clear p2
   try clear q2
   try clear hx2
   try clear qi2
   try clear c3
   try clear c4
   try clear c5
   try clear c5b0
   try clear c5b1
   try clear c10
   try clear c13
   try clear c16
   try clear c17
   try clear c23
   try clear c23b0
   try clear p23
   try clear q23
   try clear hx23
   try clear qi23
   try clear c24
   try clear c24b0
   try clear c24b1
   try clear c25
   try clear hcz11_0
   try clear hcz11_1
   try clear hcz11_2
   try clear hcz11_3
   try clear hcz11_4
   try clear hcz11_5
   try clear hcz11_6
   try clear hcz13_0
   try clear hcz13_1
   try clear hcz13_2
   try clear hcz13_3
   try clear hcz13_4
   try clear hcz13_5
   try clear hcz13_6
   try clear hcz18_0
   try clear hcz18_1
   try clear hcz18_2
   try clear hcz18_3
   try clear hcz18_4
   try clear hcz18_5
   try clear hcz18_6
   try clear hcz22_0
   try clear hcz22_1
   try clear hcz22_2
   try clear hcz22_3
   try clear hcz22_4
   try clear hcz22_5
   try clear hcz22_6
   try clear hfz11_0
   try clear hfz11_1
   try clear hfz11_2
   try clear hfz11_3
   try clear hfz11_4
   try clear hfz11_5
   try clear hfz11_6
   try clear hfz13_0
   try clear hfz13_1
   try clear hfz13_2
   try clear hfz13_3
   try clear hfz13_4
   try clear hfz13_5
   try clear hfz13_6
   try clear hfz18_0
   try clear hfz18_1
   try clear hfz18_2
   try clear hfz18_3
   try clear hfz18_4
   try clear hfz18_5
   try clear hfz18_6
   try clear hfz22_0
   try clear hfz22_1
   try clear hfz22_2
   try clear hfz22_3
   try clear hfz22_4
   try clear hfz22_5
   try clear hfz22_6
   try clear hx235_0
   try clear p235
   try clear q235
   obtain ⟨kq, x235006_6, u235006, HA, HJ6, HO_235004, HO_235005, HO_235006, BK218, BK219, BK234, HB⟩ := hcut
   cases kq with
   | zero => exact absurd HA.out (by simp [latticeref07_Left.j0])
   | succ kj6 =>
    have H := HA.out
    clear HA
    simp only [latticeref07_Left.j0] at H
    have H' := Aside0.mk H
    clear H
    have hnb31 := NB218_219.out
    have hnc31 := NB219_218.out
    have hnb32 := NB218_234.out
    have hnc32 := NB234_218.out
    have hcz33_0 : wc.cell? ⟨gb218, 0, none⟩ = some (.int .i64 a0_0) := (blk_cell BK218.out 0).trans rfl
    have hcz33_1 : wc.cell? ⟨gb218, 1, none⟩ = some (.int .i64 a0_1) := (blk_cell BK218.out 1).trans rfl
    have hcz33_2 : wc.cell? ⟨gb218, 2, none⟩ = some (.int .i64 a0_2) := (blk_cell BK218.out 2).trans rfl
    have hcz33_3 : wc.cell? ⟨gb218, 3, none⟩ = some (.string a0_3) := (blk_cell BK218.out 3).trans rfl
    have hcz33_4 : wc.cell? ⟨gb218, 4, none⟩ = some (.slice A0_4 l0_4.length c0_4) := (blk_cell BK218.out 4).trans rfl
    have hcz33_5 : wc.cell? ⟨gb218, 5, none⟩ = some (.slice A0_5 l0_5.length c0_5) := (blk_cell BK218.out 5).trans rfl
    have hcz33_6 : wc.cell? ⟨gb218, 6, none⟩ = some (.slice A0_6 l0_6.length c0_6) := (blk_cell BK218.out 6).trans rfl
    have hfz33_0 := blk_frozen BK218.out 0
    have hfz33_1 := blk_frozen BK218.out 1
    have hfz33_2 := blk_frozen BK218.out 2
    have hfz33_3 := blk_frozen BK218.out 3
    have hfz33_4 := blk_frozen BK218.out 4
    have hfz33_5 := blk_frozen BK218.out 5
    have hfz33_6 := blk_frozen BK218.out 6
    go_wp2
    go_loopg [41] kj6 (fun kq v41 w' => ∃ (x41_2 : Int) (x235004_2 : List ByteArray) (x235005_2 : List ByteArray) (x235006_2 : List Int) (u235004 : Value) (u235005 : Value) (u235006 : Value), v41 = .int .i64 x41_2 ∧ Aside0 (latticeref07_Left.l0 kq a1 l0_4 (l0_4.length : Int) x41_2 a0_0 a0_1 a0_2 a0_3 l0_4 l0_5 l0_6 t221 t222 a2 a1 x235004_2 x235005_2 x235006_2 = some (r1, r2, r3, r4, r5, r6, r7, r8)) ∧ Aside0 (kq ≤ kj6) ∧ Aside0 (Kd.R Kd.string 9 w' w.heap.size (fun k_ => some k_ ≠ (u235005 : Value).ownBlock) u235004 x235004_2) ∧ Aside0 (Kd.R Kd.string 9 w' w.heap.size (fun k_ => some k_ ≠ (u235004 : Value).ownBlock) u235005 x235005_2) ∧ Aside0 (Kd.R (Kd.int .i64) 3 w' w.heap.size (fun _ => True) u235006 x235006_2) ∧ Aside0 (w'.heap[gb218]? = some (.cells #[.int .i64 a0_0, .int .i64 a0_1, .int .i64 a0_2, .string a0_3, (.slice A0_4 l0_4.length c0_4), (.slice A0_5 l0_5.length c0_5), (.slice A0_6 l0_6.length c0_6)] 25 (0, 0))) ∧ Aside0 (w'.heap[gb219]? = some (.cells #[.int .i64 0, .int .i64 0, .int .i64 0, .string (⟨#[]⟩ : ByteArray), (.slice none 0 0), (.slice none 0 0), (.slice none 0 0)] 25 (0, 0))) ∧ Aside0 (w'.heap[gb234]? = some (.cells #[.int .i64 t221, .int .i64 t222, .int .i64 a2, .string a1, u235004, u235005, u235006] 25 (0, 0))) ∧ Aside0 (Below w.heap.size w w'))
    case atStart => exact ⟨(0), (t225), (t228), (x235006_6), (.slice Ao19 t225.length co19), (.slice Ao20 t228.length co20), (u235006), (by first | rfl | (simp; done) | (simp [*]; done)), H', ⟨Nat.le_refl _⟩, ⟨by (with_reducible repeat (first | apply Kd.R_alloc | apply Kd.R_drewN | apply Kd.R_drew)); exact HO_235004.out⟩, ⟨by (with_reducible repeat (first | apply Kd.R_alloc | apply Kd.R_drewN | apply Kd.R_drew)); exact HO_235005.out⟩, ⟨by (with_reducible repeat (first | apply Kd.R_alloc | apply Kd.R_drewN | apply Kd.R_drew)); exact HO_235006.out⟩, ⟨by (with_reducible repeat (first | refine blk_drewN ?_ _ | refine blk_drew ?_ | refine blk_alloc ?_ _)); exact BK218.out⟩, ⟨by (with_reducible repeat (first | refine blk_drewN ?_ _ | refine blk_drew ?_ | refine blk_alloc ?_ _)); exact BK219.out⟩, ⟨by (with_reducible repeat (first | refine blk_drewN ?_ _ | refine blk_drew ?_ | refine blk_alloc ?_ _)); exact BK234.out⟩, ⟨by repeat (first | (with_reducible first | exact HB.out | apply below_alloc | apply pw_below_drewN | apply below_drew1 | refine below_set ?_ GE218.out | refine below_set ?_ GE219.out | refine below_set ?_ GE234.out) | exact HB.out)⟩⟩
    case round =>
     clear H'
     try clear c1
     try clear c2
     try clear p2
     try clear q2
     try clear hx2
     try clear qi2
     try clear c3
     try clear c4
     try clear c5
     try clear c5b0
     try clear c5b1
     try clear c10
     try clear c13
     try clear c16
     try clear c17
     try clear c23
     try clear c23b0
     try clear p23
     try clear q23
     try clear hx23
     try clear qi23
     try clear c24
     try clear c24b0
     try clear c24b1
     try clear c25
     try clear c31
     try clear c32
     try clear hcz11_0
     try clear hcz11_1
     try clear hcz11_2
     try clear hcz11_3
     try clear hcz11_4
     try clear hcz11_5
     try clear hcz11_6
     try clear hcz13_0
     try clear hcz13_1
     try clear hcz13_2
     try clear hcz13_3
     try clear hcz13_4
     try clear hcz13_5
     try clear hcz13_6
     try clear hcz18_0
     try clear hcz18_1
     try clear hcz18_2
     try clear hcz18_3
     try clear hcz18_4
     try clear hcz18_5
     try clear hcz18_6
     try clear hcz22_0
     try clear hcz22_1
     try clear hcz22_2
     try clear hcz22_3
     try clear hcz22_4
     try clear hcz22_5
     try clear hcz22_6
     try clear hcz33_0
     try clear hcz33_1
     try clear hcz33_2
     try clear hcz33_3
     try clear hcz33_4
     try clear hcz33_5
     try clear hcz33_6
     try clear hfz11_0
     try clear hfz11_1
     try clear hfz11_2
     try clear hfz11_3
     try clear hfz11_4
     try clear hfz11_5
     try clear hfz11_6
     try clear hfz13_0
     try clear hfz13_1
     try clear hfz13_2
     try clear hfz13_3
     try clear hfz13_4
     try clear hfz13_5
     try clear hfz13_6
     try clear hfz18_0
     try clear hfz18_1
     try clear hfz18_2
     try clear hfz18_3
     try clear hfz18_4
     try clear hfz18_5
     try clear hfz18_6
     try clear hfz22_0
     try clear hfz22_1
     try clear hfz22_2
     try clear hfz22_3
     try clear hfz22_4
     try clear hfz22_5
     try clear hfz22_6
     try clear hfz33_0
     try clear hfz33_1
     try clear hfz33_2
     try clear hfz33_3
     try clear hfz33_4
     try clear hfz33_5
     try clear hfz33_6
     try clear hx235_0
     try clear p2
     try clear p23
     try clear p235
     try clear q2
     try clear q23
     try clear q235
     obtain ⟨x41_2, x235004_2, x235005_2, x235006_2, u235004, u235005, u235006, rfl, HA, HK2, HO_235004, HO_235005, HO_235006, BK218, BK219, BK234, HB⟩ := hrel
     cases gk with
     | zero => exact absurd HA.out (by simp [latticeref07_Left.l0])
     | succ k2 =>
      have H := HA.out
      clear HA
      simp only [latticeref07_Left.l0] at H
      by_cases c34 : x41_2 < (l0_4.length : Int)
      ·rw [if_pos c34] at H
       have c34b0 : decide (x41_2 < (l0_4.length : Int)) = true := decide_eq_true c34
       clear c34
       by_cases c35 : 0 ≤ x41_2
       ·rw [if_pos c35] at H
        have c35b0 : decide (0 ≤ x41_2) = true := decide_eq_true c35
        clear c35
        by_cases c36 : x41_2 < (l0_4.length : Int)
        ·rw [if_pos c36] at H
         have c36b0 : decide (x41_2 < (l0_4.length : Int)) = true := decide_eq_true c36
         clear c36
         replace H := Option.bind_eq_some_iff.mp H
         obtain ⟨t241, A370, H⟩ := H
         try dsimp only at H
         have A37 := Aside0.mk A370
         clear A370
         by_cases c38 : t241 ≥ 0
         ·rw [if_pos c38] at H
          have c38b0 : decide (0 ≤ t241) = true := decide_eq_true c38
          clear c38
          replace H := Option.bind_eq_some_iff.mp H
          obtain ⟨t242, A390, H⟩ := H
          try dsimp only at H
          have A39 := Aside0.mk A390
          clear A390
          by_cases c40 : t242 = true
          ·subst c40
           have H1 : (some (t221, t222, a2, a1, x235004_2, x235005_2, x235006_2, 0)) = some (r1, r2, r3, r4, r5, r6, r7, r8) := by rw [if_pos rfl] at H; exact H
           clear H
           have H := H1
           clear H1
           simp only [Option.some.injEq, Prod.mk.injEq] at H
           obtain ⟨rfl, rfl, rfl, rfl, rfl, rfl, rfl, rfl⟩ := H
           have p240 : 0 ≤ (x41_2 : Int) := of_decide_eq_true (by first | (with_reducible assumption) | assumption)
           have q240 : x41_2 < (l0_4.length : Int) := of_decide_eq_true (by first | (with_reducible assumption) | assumption)
           obtain ⟨ad240, e240, hx240_0⟩ := Kd.at_string HR0_4.out x41_2 p240 q240
           cases e240
           replace hx240_0 := (HB.out.cell (World.block_lt_of_cell? w _ hx240_0)).trans hx240_0
           replace p240 := eq_true p240
           replace q240 := eq_true q240
           go_wp2_with (first | ((with_reducible refine gate_callee (f := 41) rfl ?_); refine goesL_ (some 48) rfl rfl Try.func41 (by kernel_rfl) rfl #[.string (rdOf ByteArray.empty l0_4 x41_2), .string a1] rfl (by (try simp only [List.map_toArray, List.map_cons, List.map_nil]); first | done | rfl | (simp only [List.length_drop, List.length_take]; rfl)) ?_; (with_reducible refine (latticeref05_Compare.calls k2 (rdOf ByteArray.empty l0_4 x41_2) a1 t241 _ A37.out).mono ?_); rintro e w' ⟨rfl, ⟨nd, rfl⟩⟩; refine ⟨_, rfl, ?_⟩; (try (rw [drewN_self wr]; generalize hq_ : World.drewN wr _ = wr; have n0_ : Aside0 (Kd.R Kd.string 9 wr w.heap.size (fun k_ => some k_ ≠ (u235005 : Value).ownBlock) u235004 x235004_2) := ⟨by rw [← hq_]; exact (by (with_reducible repeat (first | apply Kd.R_alloc | apply Kd.R_drewN | apply Kd.R_drew)); exact HO_235004.out)⟩; have n1_ : Aside0 (Kd.R Kd.string 9 wr w.heap.size (fun k_ => some k_ ≠ (u235004 : Value).ownBlock) u235005 x235005_2) := ⟨by rw [← hq_]; exact (by (with_reducible repeat (first | apply Kd.R_alloc | apply Kd.R_drewN | apply Kd.R_drew)); exact HO_235005.out)⟩; have n2_ : Aside0 (Kd.R (Kd.int .i64) 3 wr w.heap.size (fun _ => True) u235006 x235006_2) := ⟨by rw [← hq_]; exact (by (with_reducible repeat (first | apply Kd.R_alloc | apply Kd.R_drewN | apply Kd.R_drew)); exact HO_235006.out)⟩; have n3_ : Aside0 (wr.heap[gb218]? = some (.cells #[.int .i64 a0_0, .int .i64 a0_1, .int .i64 a0_2, .string a0_3, .slice (some ad240) l0_4.length c0_4, .slice A0_5 l0_5.length c0_5, .slice A0_6 l0_6.length c0_6] 25 (0, 0))) := ⟨by rw [← hq_]; exact (by (with_reducible repeat (first | refine blk_drewN ?_ _ | refine blk_drew ?_ | refine blk_alloc ?_ _)); exact BK218.out)⟩; have n4_ : Aside0 (wr.heap[gb219]? = some (.cells #[.int .i64 0, .int .i64 0, .int .i64 0, .string (⟨#[]⟩ : ByteArray), .slice none 0 0, .slice none 0 0, .slice none 0 0] 25 (0, 0))) := ⟨by rw [← hq_]; exact (by (with_reducible repeat (first | refine blk_drewN ?_ _ | refine blk_drew ?_ | refine blk_alloc ?_ _)); exact BK219.out)⟩; have n5_ : Aside0 (wr.heap[gb234]? = some (.cells #[.int .i64 t221, .int .i64 t222, .int .i64 a2, .string a1, u235004, u235005, u235006] 25 (0, 0))) := ⟨by rw [← hq_]; exact (by (with_reducible repeat (first | refine blk_drewN ?_ _ | refine blk_drew ?_ | refine blk_alloc ?_ _)); exact BK234.out)⟩; have n6_ : Aside0 (Below w.heap.size w wr) := ⟨by rw [← hq_]; exact (by repeat (first | (with_reducible first | exact HB.out | apply below_alloc | apply pw_below_drewN | apply below_drew1 | refine below_set ?_ GE218.out | refine below_set ?_ GE219.out | refine below_set ?_ GE234.out) | exact HB.out))⟩; clear HO_235004 HO_235005 HO_235006 BK218 BK219 BK234 HB hq_; have HO_235004 := n0_; have HO_235005 := n1_; have HO_235006 := n2_; have BK218 := n3_; have BK219 := n4_; have BK234 := n5_; have HB := n6_; clear n0_ n1_ n2_ n3_ n4_ n5_ n6_)); have hnb41 := NB234_218.out; have hnc41 := NB218_234.out; have hnb42 := NB234_219.out; have hnc42 := NB219_234.out; have hcz43_0 : wr.cell? ⟨gb234, 0, none⟩ = some (.int .i64 t221) := (blk_cell BK234.out 0).trans rfl; have hcz43_1 : wr.cell? ⟨gb234, 1, none⟩ = some (.int .i64 t222) := (blk_cell BK234.out 1).trans rfl; have hcz43_2 : wr.cell? ⟨gb234, 2, none⟩ = some (.int .i64 a2) := (blk_cell BK234.out 2).trans rfl; have hcz43_3 : wr.cell? ⟨gb234, 3, none⟩ = some (.string a1) := (blk_cell BK234.out 3).trans rfl; have hcz43_4 : wr.cell? ⟨gb234, 4, none⟩ = some (u235004) := (blk_cell BK234.out 4).trans rfl; have hcz43_5 : wr.cell? ⟨gb234, 5, none⟩ = some (u235005) := (blk_cell BK234.out 5).trans rfl; have hcz43_6 : wr.cell? ⟨gb234, 6, none⟩ = some (u235006) := (blk_cell BK234.out 6).trans rfl; have hfz43_0 := blk_frozen BK234.out 0; have hfz43_1 := blk_frozen BK234.out 1; have hfz43_2 := blk_frozen BK234.out 2; have hfz43_3 := blk_frozen BK234.out 3; have hfz43_4 := blk_frozen BK234.out 4; have hfz43_5 := blk_frozen BK234.out 5; have hfz43_6 := blk_frozen BK234.out 6; obtain ⟨Ao44, co44, eo44⟩ := Kd.R_slice HO_235004.out; subst eo44; obtain ⟨Ao45, co45, eo45⟩ := Kd.R_slice HO_235005.out; subst eo45; obtain ⟨Ao46, co46, eo46⟩ := Kd.R_slice HO_235006.out; subst eo46) | ((with_reducible refine gate_callee (f := 24) rfl ?_); refine goesL_ (some 82) rfl rfl Try.func24 (by kernel_rfl) rfl #[.agg #[.int .i64 t221, .int .i64 t222, .int .i64 a2, .string a1, .slice Ao44 x235004_2.length co44, .slice Ao45 x235005_2.length co45, .slice Ao46 x235006_2.length co46]] rfl (by (try simp only [List.map_toArray, List.map_cons, List.map_nil]); first | done | rfl | (simp only [List.length_drop, List.length_take]; rfl)) ?_; (with_reducible refine (latticeref06_Right.calls k2 t221 t222 a2 a1 _ _ x235004_2 _ _ x235005_2 _ _ x235006_2 true _ ?side1 ?side2 ?side3 ?side4 ?side5 ?side6 A39.out).mono ?_); (case side1 => repeat (first | exact (Kd.R_reads' HO_235004.out).2.2 | (with_reducible refine Kd.C_alloc ?_ _) | (with_reducible refine Kd.C_drewN ?_ _) | (with_reducible refine Kd.C_drew ?_))); (case side2 => exact (Kd.R_reads' HO_235004.out).2.1); (case side3 => repeat (first | exact (Kd.R_reads' HO_235005.out).2.2 | (with_reducible refine Kd.C_alloc ?_ _) | (with_reducible refine Kd.C_drewN ?_ _) | (with_reducible refine Kd.C_drew ?_))); (case side4 => exact (Kd.R_reads' HO_235005.out).2.1); (case side5 => repeat (first | exact (Kd.R_reads' HO_235006.out).2.2 | (with_reducible refine Kd.C_alloc ?_ _) | (with_reducible refine Kd.C_drewN ?_ _) | (with_reducible refine Kd.C_drew ?_))); (case side6 => exact (Kd.R_reads' HO_235006.out).2.1); rintro e w47 ⟨rfl, hb⟩; refine ⟨_, rfl, ?_⟩; have n0_ := Aside0.mk (Kd.R_below (by (with_reducible repeat (first | apply Kd.R_alloc | apply Kd.R_drewN | apply Kd.R_drew)); exact HO_235004.out) hb); have n1_ := Aside0.mk (Kd.R_below (by (with_reducible repeat (first | apply Kd.R_alloc | apply Kd.R_drewN | apply Kd.R_drew)); exact HO_235005.out) hb); have n2_ := Aside0.mk (Kd.R_below (by (with_reducible repeat (first | apply Kd.R_alloc | apply Kd.R_drewN | apply Kd.R_drew)); exact HO_235006.out) hb); have n3_ := Aside0.mk (blk_below (g := gb218) (o := .cells #[.int .i64 a0_0, .int .i64 a0_1, .int .i64 a0_2, .string a0_3, .slice (some ad240) l0_4.length c0_4, .slice A0_5 l0_5.length c0_5, .slice A0_6 l0_6.length c0_6] 25 (0, 0)) (by (with_reducible repeat (first | refine blk_drewN ?_ _ | refine blk_drew ?_ | refine blk_alloc ?_ _)); exact BK218.out) hb); have n4_ := Aside0.mk (blk_below (g := gb219) (o := .cells #[.int .i64 0, .int .i64 0, .int .i64 0, .string (⟨#[]⟩ : ByteArray), .slice none 0 0, .slice none 0 0, .slice none 0 0] 25 (0, 0)) (by (with_reducible repeat (first | refine blk_drewN ?_ _ | refine blk_drew ?_ | refine blk_alloc ?_ _)); exact BK219.out) hb); have n5_ := Aside0.mk (blk_below (g := gb234) (o := .cells #[.int .i64 t221, .int .i64 t222, .int .i64 a2, .string a1, .slice Ao44 x235004_2.length co44, .slice Ao45 x235005_2.length co45, .slice Ao46 x235006_2.length co46] 25 (0, 0)) (by (with_reducible repeat (first | refine blk_drewN ?_ _ | refine blk_drew ?_ | refine blk_alloc ?_ _)); exact BK234.out) hb); have n6_ := Aside0.mk (below_step (by repeat (first | (with_reducible first | exact HB.out | apply below_alloc | apply pw_below_drewN | apply below_drew1 | refine below_set ?_ GE218.out | refine below_set ?_ GE219.out | refine below_set ?_ GE234.out) | exact HB.out)) hb); clear HO_235004; clear HO_235005; clear HO_235006; clear BK218; clear BK219; clear BK234; clear HB; have HO_235004 := n0_; have HO_235005 := n1_; have HO_235006 := n2_; have BK218 := n3_; have BK219 := n4_; have BK234 := n5_; have HB := n6_; clear n0_ n1_ n2_ n3_ n4_ n5_ n6_; (try clear hb); (try clear hb2); (try clear hk); (try clear hi); have hcz48_0 : w47.cell? ⟨gb234, 0, none⟩ = some (.int .i64 t221) := (blk_cell BK234.out 0).trans rfl; have hcz48_1 : w47.cell? ⟨gb234, 1, none⟩ = some (.int .i64 t222) := (blk_cell BK234.out 1).trans rfl; have hcz48_2 : w47.cell? ⟨gb234, 2, none⟩ = some (.int .i64 a2) := (blk_cell BK234.out 2).trans rfl; have hcz48_3 : w47.cell? ⟨gb234, 3, none⟩ = some (.string a1) := (blk_cell BK234.out 3).trans rfl; have hcz48_4 : w47.cell? ⟨gb234, 4, none⟩ = some (.slice Ao44 x235004_2.length co44) := (blk_cell BK234.out 4).trans rfl; have hcz48_5 : w47.cell? ⟨gb234, 5, none⟩ = some (.slice Ao45 x235005_2.length co45) := (blk_cell BK234.out 5).trans rfl; have hcz48_6 : w47.cell? ⟨gb234, 6, none⟩ = some (.slice Ao46 x235006_2.length co46) := (blk_cell BK234.out 6).trans rfl; have hfz48_0 := blk_frozen BK234.out 0; have hfz48_1 := blk_frozen BK234.out 1; have hfz48_2 := blk_frozen BK234.out 2; have hfz48_3 := blk_frozen BK234.out 3; have hfz48_4 := blk_frozen BK234.out 4; have hfz48_5 := blk_frozen BK234.out 5; have hfz48_6 := blk_frozen BK234.out 6; have hnb49 := NB219_218.out; have hnc49 := NB218_219.out; have hcz50_0 : w47.cell? ⟨gb219, 0, none⟩ = some (.int .i64 0) := (blk_cell BK219.out 0).trans rfl; have hcz50_1 : w47.cell? ⟨gb219, 1, none⟩ = some (.int .i64 0) := (blk_cell BK219.out 1).trans rfl; have hcz50_2 : w47.cell? ⟨gb219, 2, none⟩ = some (.int .i64 0) := (blk_cell BK219.out 2).trans rfl; have hcz50_3 : w47.cell? ⟨gb219, 3, none⟩ = some (.string (⟨#[]⟩ : ByteArray)) := (blk_cell BK219.out 3).trans rfl; have hcz50_4 : w47.cell? ⟨gb219, 4, none⟩ = some (.slice none 0 0) := (blk_cell BK219.out 4).trans rfl; have hcz50_5 : w47.cell? ⟨gb219, 5, none⟩ = some (.slice none 0 0) := (blk_cell BK219.out 5).trans rfl; have hcz50_6 : w47.cell? ⟨gb219, 6, none⟩ = some (.slice none 0 0) := (blk_cell BK219.out 6).trans rfl; have hfz50_0 := blk_frozen BK219.out 0; have hfz50_1 := blk_frozen BK219.out 1; have hfz50_2 := blk_frozen BK219.out 2; have hfz50_3 := blk_frozen BK219.out 3; have hfz50_4 := blk_frozen BK219.out 4; have hfz50_5 := blk_frozen BK219.out 5; have hfz50_6 := blk_frozen BK219.out 6))
           refine bodyPost_ret (results_ct rfl _ _ gb219 25 #[.int .i64 t221, .int .i64 t222, .int .i64 a2, .string a1, .slice Ao44 x235004_2.length co44, .slice Ao45 x235005_2.length co45, .slice Ao46 x235006_2.length co46] (0, 0) _ rfl (by (with_reducible repeat (first | refine blk_drewN ?_ _ | refine blk_drew ?_ | refine blk_alloc ?_ _)); refine blk_put (cs := #[.int .i64 t221, .int .i64 t222, .int .i64 a2, .string a1, .slice Ao44 x235004_2.length co44, .slice Ao45 x235005_2.length co45, .slice none 0 0]) ?_ 6 _ rfl; (with_reducible repeat (first | refine blk_drewN ?_ _ | refine blk_drew ?_ | refine blk_alloc ?_ _)); refine blk_put (cs := #[.int .i64 t221, .int .i64 t222, .int .i64 a2, .string a1, .slice Ao44 x235004_2.length co44, .slice none 0 0, .slice none 0 0]) ?_ 5 _ rfl; (with_reducible repeat (first | refine blk_drewN ?_ _ | refine blk_drew ?_ | refine blk_alloc ?_ _)); refine blk_put (cs := #[.int .i64 t221, .int .i64 t222, .int .i64 a2, .string a1, .slice none 0 0, .slice none 0 0, .slice none 0 0]) ?_ 4 _ rfl; (with_reducible repeat (first | refine blk_drewN ?_ _ | refine blk_drew ?_ | refine blk_alloc ?_ _)); refine blk_put (cs := #[.int .i64 t221, .int .i64 t222, .int .i64 a2, .string (⟨#[]⟩ : ByteArray), .slice none 0 0, .slice none 0 0, .slice none 0 0]) ?_ 3 _ rfl; (with_reducible repeat (first | refine blk_drewN ?_ _ | refine blk_drew ?_ | refine blk_alloc ?_ _)); refine blk_put (cs := #[.int .i64 t221, .int .i64 t222, .int .i64 0, .string (⟨#[]⟩ : ByteArray), .slice none 0 0, .slice none 0 0, .slice none 0 0]) ?_ 2 _ rfl; (with_reducible repeat (first | refine blk_drewN ?_ _ | refine blk_drew ?_ | refine blk_alloc ?_ _)); refine blk_put (cs := #[.int .i64 t221, .int .i64 0, .int .i64 0, .string (⟨#[]⟩ : ByteArray), .slice none 0 0, .slice none 0 0, .slice none 0 0]) ?_ 1 _ rfl; (with_reducible repeat (first | refine blk_drewN ?_ _ | refine blk_drew ?_ | refine blk_alloc ?_ _)); refine blk_put (cs := #[.int .i64 0, .int .i64 0, .int .i64 0, .string (⟨#[]⟩ : ByteArray), .slice none 0 0, .slice none 0 0, .slice none 0 0]) ?_ 0 _ rfl; (with_reducible repeat (first | refine blk_drewN ?_ _ | refine blk_drew ?_ | refine blk_alloc ?_ _)); exact BK219.out) Try.underlying25 rfl (by kernel_rfl)) rfl ?_
           exact ⟨_, _, _, by first | rfl | (simp [errW_none, errW_some] <;> rfl) | (simp [*, errW_none, errW_some] <;> rfl), by (with_reducible repeat (first | apply Kd.R_alloc | apply Kd.R_drewN | apply Kd.R_drew)); exact Kd.R_mono (Kd.R_far (p := ⟨gb219, 6, none⟩) (Kd.R_far (p := ⟨gb219, 5, none⟩) (Kd.R_far (p := ⟨gb219, 4, none⟩) (Kd.R_far (p := ⟨gb219, 3, none⟩) (Kd.R_far (p := ⟨gb219, 2, none⟩) (Kd.R_far (p := ⟨gb219, 1, none⟩) (Kd.R_far (p := ⟨gb219, 0, none⟩) (Kd.R_types HO_235004.out BK219.out (by decide)) (fun _ hk => hk.2) (.int .i64 t221)) (fun _ hk => hk.2) (.int .i64 t222)) (fun _ hk => hk.2) (.int .i64 a2)) (fun _ hk => hk.2) (.string a1)) (fun _ hk => hk.2) (.slice Ao44 x235004_2.length co44)) (fun _ hk => hk.2) (.slice Ao45 x235005_2.length co45)) (fun _ hk => hk.2) (.slice Ao46 x235006_2.length co46)) (fun _ hk => hk.1), by (with_reducible repeat (first | apply Kd.R_alloc | apply Kd.R_drewN | apply Kd.R_drew)); exact Kd.R_mono (Kd.R_far (p := ⟨gb219, 6, none⟩) (Kd.R_far (p := ⟨gb219, 5, none⟩) (Kd.R_far (p := ⟨gb219, 4, none⟩) (Kd.R_far (p := ⟨gb219, 3, none⟩) (Kd.R_far (p := ⟨gb219, 2, none⟩) (Kd.R_far (p := ⟨gb219, 1, none⟩) (Kd.R_far (p := ⟨gb219, 0, none⟩) (Kd.R_types HO_235005.out BK219.out (by decide)) (fun _ hk => hk.2) (.int .i64 t221)) (fun _ hk => hk.2) (.int .i64 t222)) (fun _ hk => hk.2) (.int .i64 a2)) (fun _ hk => hk.2) (.string a1)) (fun _ hk => hk.2) (.slice Ao44 x235004_2.length co44)) (fun _ hk => hk.2) (.slice Ao45 x235005_2.length co45)) (fun _ hk => hk.2) (.slice Ao46 x235006_2.length co46)) (fun _ hk => hk.1), by (with_reducible repeat (first | apply Kd.R_alloc | apply Kd.R_drewN | apply Kd.R_drew)); exact Kd.R_mono (Kd.R_far (p := ⟨gb219, 6, none⟩) (Kd.R_far (p := ⟨gb219, 5, none⟩) (Kd.R_far (p := ⟨gb219, 4, none⟩) (Kd.R_far (p := ⟨gb219, 3, none⟩) (Kd.R_far (p := ⟨gb219, 2, none⟩) (Kd.R_far (p := ⟨gb219, 1, none⟩) (Kd.R_far (p := ⟨gb219, 0, none⟩) (Kd.R_types HO_235006.out BK219.out (by decide)) (fun _ hk => hk.2) (.int .i64 t221)) (fun _ hk => hk.2) (.int .i64 t222)) (fun _ hk => hk.2) (.int .i64 a2)) (fun _ hk => hk.2) (.string a1)) (fun _ hk => hk.2) (.slice Ao44 x235004_2.length co44)) (fun _ hk => hk.2) (.slice Ao45 x235005_2.length co45)) (fun _ hk => hk.2) (.slice Ao46 x235006_2.length co46)) (fun _ hk => trivial), by repeat (first | (with_reducible first | exact HB.out | apply below_alloc | apply pw_below_drewN | apply below_drew1 | refine below_set ?_ GE218.out | refine below_set ?_ GE219.out | refine below_set ?_ GE234.out) | exact HB.out)⟩
          ·replace c40 := Bool.eq_false_iff.mpr c40
           subst c40
           have H1 : (some (0, 0, 0, (⟨#[]⟩ : ByteArray), ([] : List ByteArray), ([] : List ByteArray), ([] : List Int), 5)) = some (r1, r2, r3, r4, r5, r6, r7, r8) := by rw [if_neg (show ¬ (false = true) by decide)] at H; exact H
           clear H
           have H := H1
           clear H1
           simp only [Option.some.injEq, Prod.mk.injEq] at H
           obtain ⟨rfl, rfl, rfl, rfl, rfl, rfl, rfl, rfl⟩ := H
           have p240 : 0 ≤ (x41_2 : Int) := of_decide_eq_true (by first | (with_reducible assumption) | assumption)
           have q240 : x41_2 < (l0_4.length : Int) := of_decide_eq_true (by first | (with_reducible assumption) | assumption)
           obtain ⟨ad240, e240, hx240_0⟩ := Kd.at_string HR0_4.out x41_2 p240 q240
           cases e240
           replace hx240_0 := (HB.out.cell (World.block_lt_of_cell? w _ hx240_0)).trans hx240_0
           replace p240 := eq_true p240
           replace q240 := eq_true q240
           go_wp2_with (first | ((with_reducible refine gate_callee (f := 41) rfl ?_); refine goesL_ (some 48) rfl rfl Try.func41 (by kernel_rfl) rfl #[.string (rdOf ByteArray.empty l0_4 x41_2), .string a1] rfl (by (try simp only [List.map_toArray, List.map_cons, List.map_nil]); first | done | rfl | (simp only [List.length_drop, List.length_take]; rfl)) ?_; (with_reducible refine (latticeref05_Compare.calls k2 (rdOf ByteArray.empty l0_4 x41_2) a1 t241 _ A37.out).mono ?_); rintro e w' ⟨rfl, ⟨nd, rfl⟩⟩; refine ⟨_, rfl, ?_⟩; (try (rw [drewN_self wr]; generalize hq_ : World.drewN wr _ = wr; have n0_ : Aside0 (Kd.R Kd.string 9 wr w.heap.size (fun k_ => some k_ ≠ (u235005 : Value).ownBlock) u235004 x235004_2) := ⟨by rw [← hq_]; exact (by (with_reducible repeat (first | apply Kd.R_alloc | apply Kd.R_drewN | apply Kd.R_drew)); exact HO_235004.out)⟩; have n1_ : Aside0 (Kd.R Kd.string 9 wr w.heap.size (fun k_ => some k_ ≠ (u235004 : Value).ownBlock) u235005 x235005_2) := ⟨by rw [← hq_]; exact (by (with_reducible repeat (first | apply Kd.R_alloc | apply Kd.R_drewN | apply Kd.R_drew)); exact HO_235005.out)⟩; have n2_ : Aside0 (Kd.R (Kd.int .i64) 3 wr w.heap.size (fun _ => True) u235006 x235006_2) := ⟨by rw [← hq_]; exact (by (with_reducible repeat (first | apply Kd.R_alloc | apply Kd.R_drewN | apply Kd.R_drew)); exact HO_235006.out)⟩; have n3_ : Aside0 (wr.heap[gb218]? = some (.cells #[.int .i64 a0_0, .int .i64 a0_1, .int .i64 a0_2, .string a0_3, .slice (some ad240) l0_4.length c0_4, .slice A0_5 l0_5.length c0_5, .slice A0_6 l0_6.length c0_6] 25 (0, 0))) := ⟨by rw [← hq_]; exact (by (with_reducible repeat (first | refine blk_drewN ?_ _ | refine blk_drew ?_ | refine blk_alloc ?_ _)); exact BK218.out)⟩; have n4_ : Aside0 (wr.heap[gb219]? = some (.cells #[.int .i64 0, .int .i64 0, .int .i64 0, .string (⟨#[]⟩ : ByteArray), .slice none 0 0, .slice none 0 0, .slice none 0 0] 25 (0, 0))) := ⟨by rw [← hq_]; exact (by (with_reducible repeat (first | refine blk_drewN ?_ _ | refine blk_drew ?_ | refine blk_alloc ?_ _)); exact BK219.out)⟩; have n5_ : Aside0 (wr.heap[gb234]? = some (.cells #[.int .i64 t221, .int .i64 t222, .int .i64 a2, .string a1, u235004, u235005, u235006] 25 (0, 0))) := ⟨by rw [← hq_]; exact (by (with_reducible repeat (first | refine blk_drewN ?_ _ | refine blk_drew ?_ | refine blk_alloc ?_ _)); exact BK234.out)⟩; have n6_ : Aside0 (Below w.heap.size w wr) := ⟨by rw [← hq_]; exact (by repeat (first | (with_reducible first | exact HB.out | apply below_alloc | apply pw_below_drewN | apply below_drew1 | refine below_set ?_ GE218.out | refine below_set ?_ GE219.out | refine below_set ?_ GE234.out) | exact HB.out))⟩; clear HO_235004 HO_235005 HO_235006 BK218 BK219 BK234 HB hq_; have HO_235004 := n0_; have HO_235005 := n1_; have HO_235006 := n2_; have BK218 := n3_; have BK219 := n4_; have BK234 := n5_; have HB := n6_; clear n0_ n1_ n2_ n3_ n4_ n5_ n6_)); have hnb51 := NB234_218.out; have hnc51 := NB218_234.out; have hnb52 := NB234_219.out; have hnc52 := NB219_234.out; have hcz53_0 : wr.cell? ⟨gb234, 0, none⟩ = some (.int .i64 t221) := (blk_cell BK234.out 0).trans rfl; have hcz53_1 : wr.cell? ⟨gb234, 1, none⟩ = some (.int .i64 t222) := (blk_cell BK234.out 1).trans rfl; have hcz53_2 : wr.cell? ⟨gb234, 2, none⟩ = some (.int .i64 a2) := (blk_cell BK234.out 2).trans rfl; have hcz53_3 : wr.cell? ⟨gb234, 3, none⟩ = some (.string a1) := (blk_cell BK234.out 3).trans rfl; have hcz53_4 : wr.cell? ⟨gb234, 4, none⟩ = some (u235004) := (blk_cell BK234.out 4).trans rfl; have hcz53_5 : wr.cell? ⟨gb234, 5, none⟩ = some (u235005) := (blk_cell BK234.out 5).trans rfl; have hcz53_6 : wr.cell? ⟨gb234, 6, none⟩ = some (u235006) := (blk_cell BK234.out 6).trans rfl; have hfz53_0 := blk_frozen BK234.out 0; have hfz53_1 := blk_frozen BK234.out 1; have hfz53_2 := blk_frozen BK234.out 2; have hfz53_3 := blk_frozen BK234.out 3; have hfz53_4 := blk_frozen BK234.out 4; have hfz53_5 := blk_frozen BK234.out 5; have hfz53_6 := blk_frozen BK234.out 6; obtain ⟨Ao54, co54, eo54⟩ := Kd.R_slice HO_235004.out; subst eo54; obtain ⟨Ao55, co55, eo55⟩ := Kd.R_slice HO_235005.out; subst eo55; obtain ⟨Ao56, co56, eo56⟩ := Kd.R_slice HO_235006.out; subst eo56) | ((with_reducible refine gate_callee (f := 24) rfl ?_); refine goesL_ (some 82) rfl rfl Try.func24 (by kernel_rfl) rfl #[.agg #[.int .i64 t221, .int .i64 t222, .int .i64 a2, .string a1, .slice Ao54 x235004_2.length co54, .slice Ao55 x235005_2.length co55, .slice Ao56 x235006_2.length co56]] rfl (by (try simp only [List.map_toArray, List.map_cons, List.map_nil]); first | done | rfl | (simp only [List.length_drop, List.length_take]; rfl)) ?_; (with_reducible refine (latticeref06_Right.calls k2 t221 t222 a2 a1 _ _ x235004_2 _ _ x235005_2 _ _ x235006_2 false _ ?side1 ?side2 ?side3 ?side4 ?side5 ?side6 A39.out).mono ?_); (case side1 => repeat (first | exact (Kd.R_reads' HO_235004.out).2.2 | (with_reducible refine Kd.C_alloc ?_ _) | (with_reducible refine Kd.C_drewN ?_ _) | (with_reducible refine Kd.C_drew ?_))); (case side2 => exact (Kd.R_reads' HO_235004.out).2.1); (case side3 => repeat (first | exact (Kd.R_reads' HO_235005.out).2.2 | (with_reducible refine Kd.C_alloc ?_ _) | (with_reducible refine Kd.C_drewN ?_ _) | (with_reducible refine Kd.C_drew ?_))); (case side4 => exact (Kd.R_reads' HO_235005.out).2.1); (case side5 => repeat (first | exact (Kd.R_reads' HO_235006.out).2.2 | (with_reducible refine Kd.C_alloc ?_ _) | (with_reducible refine Kd.C_drewN ?_ _) | (with_reducible refine Kd.C_drew ?_))); (case side6 => exact (Kd.R_reads' HO_235006.out).2.1); rintro e w57 ⟨rfl, hb⟩; refine ⟨_, rfl, ?_⟩; have n0_ := Aside0.mk (Kd.R_below (by (with_reducible repeat (first | apply Kd.R_alloc | apply Kd.R_drewN | apply Kd.R_drew)); exact HO_235004.out) hb); have n1_ := Aside0.mk (Kd.R_below (by (with_reducible repeat (first | apply Kd.R_alloc | apply Kd.R_drewN | apply Kd.R_drew)); exact HO_235005.out) hb); have n2_ := Aside0.mk (Kd.R_below (by (with_reducible repeat (first | apply Kd.R_alloc | apply Kd.R_drewN | apply Kd.R_drew)); exact HO_235006.out) hb); have n3_ := Aside0.mk (blk_below (g := gb218) (o := .cells #[.int .i64 a0_0, .int .i64 a0_1, .int .i64 a0_2, .string a0_3, .slice (some ad240) l0_4.length c0_4, .slice A0_5 l0_5.length c0_5, .slice A0_6 l0_6.length c0_6] 25 (0, 0)) (by (with_reducible repeat (first | refine blk_drewN ?_ _ | refine blk_drew ?_ | refine blk_alloc ?_ _)); exact BK218.out) hb); have n4_ := Aside0.mk (blk_below (g := gb219) (o := .cells #[.int .i64 0, .int .i64 0, .int .i64 0, .string (⟨#[]⟩ : ByteArray), .slice none 0 0, .slice none 0 0, .slice none 0 0] 25 (0, 0)) (by (with_reducible repeat (first | refine blk_drewN ?_ _ | refine blk_drew ?_ | refine blk_alloc ?_ _)); exact BK219.out) hb); have n5_ := Aside0.mk (blk_below (g := gb234) (o := .cells #[.int .i64 t221, .int .i64 t222, .int .i64 a2, .string a1, .slice Ao54 x235004_2.length co54, .slice Ao55 x235005_2.length co55, .slice Ao56 x235006_2.length co56] 25 (0, 0)) (by (with_reducible repeat (first | refine blk_drewN ?_ _ | refine blk_drew ?_ | refine blk_alloc ?_ _)); exact BK234.out) hb); have n6_ := Aside0.mk (below_step (by repeat (first | (with_reducible first | exact HB.out | apply below_alloc | apply pw_below_drewN | apply below_drew1 | refine below_set ?_ GE218.out | refine below_set ?_ GE219.out | refine below_set ?_ GE234.out) | exact HB.out)) hb); clear HO_235004; clear HO_235005; clear HO_235006; clear BK218; clear BK219; clear BK234; clear HB; have HO_235004 := n0_; have HO_235005 := n1_; have HO_235006 := n2_; have BK218 := n3_; have BK219 := n4_; have BK234 := n5_; have HB := n6_; clear n0_ n1_ n2_ n3_ n4_ n5_ n6_; (try clear hb); (try clear hb2); (try clear hk); (try clear hi); have hnb58 := NB219_218.out; have hnc58 := NB218_219.out; have hcz59_0 : w57.cell? ⟨gb219, 0, none⟩ = some (.int .i64 0) := (blk_cell BK219.out 0).trans rfl; have hcz59_1 : w57.cell? ⟨gb219, 1, none⟩ = some (.int .i64 0) := (blk_cell BK219.out 1).trans rfl; have hcz59_2 : w57.cell? ⟨gb219, 2, none⟩ = some (.int .i64 0) := (blk_cell BK219.out 2).trans rfl; have hcz59_3 : w57.cell? ⟨gb219, 3, none⟩ = some (.string (⟨#[]⟩ : ByteArray)) := (blk_cell BK219.out 3).trans rfl; have hcz59_4 : w57.cell? ⟨gb219, 4, none⟩ = some (.slice none 0 0) := (blk_cell BK219.out 4).trans rfl; have hcz59_5 : w57.cell? ⟨gb219, 5, none⟩ = some (.slice none 0 0) := (blk_cell BK219.out 5).trans rfl; have hcz59_6 : w57.cell? ⟨gb219, 6, none⟩ = some (.slice none 0 0) := (blk_cell BK219.out 6).trans rfl; have hfz59_0 := blk_frozen BK219.out 0; have hfz59_1 := blk_frozen BK219.out 1; have hfz59_2 := blk_frozen BK219.out 2; have hfz59_3 := blk_frozen BK219.out 3; have hfz59_4 := blk_frozen BK219.out 4; have hfz59_5 := blk_frozen BK219.out 5; have hfz59_6 := blk_frozen BK219.out 6))
           refine bodyPost_ret (results_ct rfl _ _ gb219 25 #[.int .i64 0, .int .i64 0, .int .i64 0, .string (⟨#[]⟩ : ByteArray), .slice none 0 0, .slice none 0 0, .slice none 0 0] (0, 0) _ rfl (by (with_reducible repeat (first | refine blk_drewN ?_ _ | refine blk_drew ?_ | refine blk_alloc ?_ _)); refine blk_put (cs := #[.int .i64 0, .int .i64 0, .int .i64 0, .string (⟨#[]⟩ : ByteArray), .slice none 0 0, .slice none 0 0, .slice none 0 0]) ?_ 6 _ rfl; (with_reducible repeat (first | refine blk_drewN ?_ _ | refine blk_drew ?_ | refine blk_alloc ?_ _)); refine blk_put (cs := #[.int .i64 0, .int .i64 0, .int .i64 0, .string (⟨#[]⟩ : ByteArray), .slice none 0 0, .slice none 0 0, .slice none 0 0]) ?_ 5 _ rfl; (with_reducible repeat (first | refine blk_drewN ?_ _ | refine blk_drew ?_ | refine blk_alloc ?_ _)); refine blk_put (cs := #[.int .i64 0, .int .i64 0, .int .i64 0, .string (⟨#[]⟩ : ByteArray), .slice none 0 0, .slice none 0 0, .slice none 0 0]) ?_ 4 _ rfl; (with_reducible repeat (first | refine blk_drewN ?_ _ | refine blk_drew ?_ | refine blk_alloc ?_ _)); refine blk_put (cs := #[.int .i64 0, .int .i64 0, .int .i64 0, .string (⟨#[]⟩ : ByteArray), .slice none 0 0, .slice none 0 0, .slice none 0 0]) ?_ 3 _ rfl; (with_reducible repeat (first | refine blk_drewN ?_ _ | refine blk_drew ?_ | refine blk_alloc ?_ _)); refine blk_put (cs := #[.int .i64 0, .int .i64 0, .int .i64 0, .string (⟨#[]⟩ : ByteArray), .slice none 0 0, .slice none 0 0, .slice none 0 0]) ?_ 2 _ rfl; (with_reducible repeat (first | refine blk_drewN ?_ _ | refine blk_drew ?_ | refine blk_alloc ?_ _)); refine blk_put (cs := #[.int .i64 0, .int .i64 0, .int .i64 0, .string (⟨#[]⟩ : ByteArray), .slice none 0 0, .slice none 0 0, .slice none 0 0]) ?_ 1 _ rfl; (with_reducible repeat (first | refine blk_drewN ?_ _ | refine blk_drew ?_ | refine blk_alloc ?_ _)); refine blk_put (cs := #[.int .i64 0, .int .i64 0, .int .i64 0, .string (⟨#[]⟩ : ByteArray), .slice none 0 0, .slice none 0 0, .slice none 0 0]) ?_ 0 _ rfl; (with_reducible repeat (first | refine blk_drewN ?_ _ | refine blk_drew ?_ | refine blk_alloc ?_ _)); exact BK219.out) Try.underlying25 rfl (by kernel_rfl)) rfl ?_
           exact ⟨_, _, _, by first | rfl | (simp [errW_none, errW_some] <;> rfl) | (simp [*, errW_none, errW_some] <;> rfl), by first | exact Kd.R_nil _ _ _ _ _ | exact Kd.N_nil _ _ _ _ _ | exact Kd.V_nil _ _ _ _ _ | exact Kd.Q_nil _ _ _ _ _ | exact Kd.S_nil _ _ _ _ _, by first | exact Kd.R_nil _ _ _ _ _ | exact Kd.N_nil _ _ _ _ _ | exact Kd.V_nil _ _ _ _ _ | exact Kd.Q_nil _ _ _ _ _ | exact Kd.S_nil _ _ _ _ _, by first | exact Kd.R_nil _ _ _ _ _ | exact Kd.N_nil _ _ _ _ _ | exact Kd.V_nil _ _ _ _ _ | exact Kd.Q_nil _ _ _ _ _ | exact Kd.S_nil _ _ _ _ _, by repeat (first | (with_reducible first | exact HB.out | apply below_alloc | apply pw_below_drewN | apply below_drew1 | refine below_set ?_ GE218.out | refine below_set ?_ GE219.out | refine below_set ?_ GE234.out) | exact HB.out)⟩
         ·rw [if_neg c38] at H
          have c38b0 : decide (0 ≤ t241) = false := decide_eq_false c38
          clear c38
          by_cases c60 : x235004_2.length < 8796093022208
          ·rw [if_pos c60] at H
           have LMc60 := Aside0.mk c60
           clear c60
           obtain ⟨y243, hy243⟩ : ∃ y_ : List ByteArray, y_ = (x235004_2 ++ [rdOf ByteArray.empty l0_4 x41_2]) := ⟨_, rfl⟩
           replace H : (if a0_0 > 0 then (if 0 ≤ (wrap64 (x41_2 + 1)) then (if (wrap64 (x41_2 + 1)) < (l0_6.length : Int) then (if x235006_2.length < 17592186044416 then (latticeref07_Left.l0 k2 a1 l0_4 (l0_4.length : Int) (wrap64 (x41_2 + 1)) a0_0 a0_1 a0_2 a0_3 l0_4 l0_5 l0_6 t221 t222 a2 a1 y243 x235005_2 (x235006_2 ++ [rd l0_6 (wrap64 (x41_2 + 1))])) else (none)) else (none)) else (none)) else (if x41_2 < (l0_5.length : Int) then (if x235005_2.length < 8796093022208 then (latticeref07_Left.l0 k2 a1 l0_4 (l0_4.length : Int) (wrap64 (x41_2 + 1)) a0_0 a0_1 a0_2 a0_3 l0_4 l0_5 l0_6 t221 t222 a2 a1 y243 (x235005_2 ++ [rdOf ByteArray.empty l0_5 x41_2]) x235006_2) else (none)) else (none))) = some (r1, r2, r3, r4, r5, r6, r7, r8) := by first | (rw [hy243]; with_reducible exact H) | (have H2_ := (Option.bind_some _ _).symm.trans H; rw [hy243]; with_reducible exact H2_) | (have H2_ := (Option.bind_some _ _).symm.trans H; with_reducible exact H2_) | with_reducible exact H | (rw [hy243]; exact H) | exact H
           have Ny243 := Aside0.mk hy243
           clear hy243
           by_cases c61 : a0_0 > 0
           ·rw [if_pos c61] at H
            have c61b0 : decide (0 < a0_0) = true := decide_eq_true c61
            clear c61
            obtain ⟨ji62, hji62⟩ : ∃ j_ : Int, (wrap64 (x41_2 + 1)) = j_ := ⟨_, rfl⟩
            replace H : (if 0 ≤ (ji62) then (if (ji62) < (l0_6.length : Int) then (if x235006_2.length < 17592186044416 then (latticeref07_Left.l0 k2 a1 l0_4 (l0_4.length : Int) ji62 a0_0 a0_1 a0_2 a0_3 l0_4 l0_5 l0_6 t221 t222 a2 a1 y243 x235005_2 (x235006_2 ++ [rd l0_6 (ji62)])) else (none)) else (none)) else (none)) = some (r1, r2, r3, r4, r5, r6, r7, r8) := by first | (rw [hji62] at H; exact H) | (simp only [hji62] at H ⊢; exact H)
            (try rw [hji62] at A37)
            have hji62w : (IntKind.i64.wrap (x41_2 + 1)) = ji62 := (i64_w _).trans hji62
            by_cases c63 : 0 ≤ (ji62)
            ·rw [if_pos c63] at H
             have c63b0 : decide (0 ≤ (ji62)) = true := decide_eq_true c63
             clear c63
             by_cases c64 : (ji62) < (l0_6.length : Int)
             ·rw [if_pos c64] at H
              have c64b0 : decide ((ji62) < (l0_6.length : Int)) = true := decide_eq_true c64
              clear c64
              by_cases c65 : x235006_2.length < 17592186044416
              ·rw [if_pos c65] at H
               have LMc65 := Aside0.mk c65
               clear c65
               obtain ⟨y247, hy247⟩ : ∃ y_ : List Int, y_ = (x235006_2 ++ [rd l0_6 (ji62)]) := ⟨_, rfl⟩
               replace H : (latticeref07_Left.l0 k2 a1 l0_4 (l0_4.length : Int) ji62 a0_0 a0_1 a0_2 a0_3 l0_4 l0_5 l0_6 t221 t222 a2 a1 y243 x235005_2 y247) = some (r1, r2, r3, r4, r5, r6, r7, r8) := by first | (rw [hy247]; with_reducible exact H) | (have H2_ := (Option.bind_some _ _).symm.trans H; rw [hy247]; with_reducible exact H2_) | (have H2_ := (Option.bind_some _ _).symm.trans H; with_reducible exact H2_) | with_reducible exact H | (rw [hy247]; exact H) | exact H
               have Ny247 := Aside0.mk hy247
               clear hy247
               have H' := Aside0.mk H
               clear H
               have p240 : 0 ≤ (x41_2 : Int) := of_decide_eq_true (by first | (with_reducible assumption) | assumption)
               have q240 : x41_2 < (l0_4.length : Int) := of_decide_eq_true (by first | (with_reducible assumption) | assumption)
               obtain ⟨ad240, e240, hx240_0⟩ := Kd.at_string HR0_4.out x41_2 p240 q240
               cases e240
               replace hx240_0 := (HB.out.cell (World.block_lt_of_cell? w _ hx240_0)).trans hx240_0
               replace p240 := eq_true p240
               replace q240 := eq_true q240
               try go_wp2_with (first | ((with_reducible refine gate_callee (f := 41) rfl ?_); refine goesL_ (some 48) rfl rfl Try.func41 (by kernel_rfl) rfl #[.string (rdOf ByteArray.empty l0_4 x41_2), .string a1] rfl (by (try simp only [List.map_toArray, List.map_cons, List.map_nil]); first | done | rfl | (simp only [List.length_drop, List.length_take]; rfl)) ?_; (with_reducible refine (latticeref05_Compare.calls k2 (rdOf ByteArray.empty l0_4 x41_2) a1 t241 _ A37.out).mono ?_); rintro e w' ⟨rfl, ⟨nd, rfl⟩⟩; refine ⟨_, rfl, ?_⟩; (try (rw [drewN_self wr]; generalize hq_ : World.drewN wr _ = wr; have n0_ : Aside0 (Kd.R Kd.string 9 wr w.heap.size (fun k_ => some k_ ≠ (u235005 : Value).ownBlock) u235004 x235004_2) := ⟨by rw [← hq_]; exact (by (with_reducible repeat (first | apply Kd.R_alloc | apply Kd.R_drewN | apply Kd.R_drew)); exact HO_235004.out)⟩; have n1_ : Aside0 (Kd.R Kd.string 9 wr w.heap.size (fun k_ => some k_ ≠ (u235004 : Value).ownBlock) u235005 x235005_2) := ⟨by rw [← hq_]; exact (by (with_reducible repeat (first | apply Kd.R_alloc | apply Kd.R_drewN | apply Kd.R_drew)); exact HO_235005.out)⟩; have n2_ : Aside0 (Kd.R (Kd.int .i64) 3 wr w.heap.size (fun _ => True) u235006 x235006_2) := ⟨by rw [← hq_]; exact (by (with_reducible repeat (first | apply Kd.R_alloc | apply Kd.R_drewN | apply Kd.R_drew)); exact HO_235006.out)⟩; have n3_ : Aside0 (wr.heap[gb218]? = some (.cells #[.int .i64 a0_0, .int .i64 a0_1, .int .i64 a0_2, .string a0_3, .slice (some ad240) l0_4.length c0_4, .slice A0_5 l0_5.length c0_5, .slice A0_6 l0_6.length c0_6] 25 (0, 0))) := ⟨by rw [← hq_]; exact (by (with_reducible repeat (first | refine blk_drewN ?_ _ | refine blk_drew ?_ | refine blk_alloc ?_ _)); exact BK218.out)⟩; have n4_ : Aside0 (wr.heap[gb219]? = some (.cells #[.int .i64 0, .int .i64 0, .int .i64 0, .string (⟨#[]⟩ : ByteArray), .slice none 0 0, .slice none 0 0, .slice none 0 0] 25 (0, 0))) := ⟨by rw [← hq_]; exact (by (with_reducible repeat (first | refine blk_drewN ?_ _ | refine blk_drew ?_ | refine blk_alloc ?_ _)); exact BK219.out)⟩; have n5_ : Aside0 (wr.heap[gb234]? = some (.cells #[.int .i64 t221, .int .i64 t222, .int .i64 a2, .string a1, u235004, u235005, u235006] 25 (0, 0))) := ⟨by rw [← hq_]; exact (by (with_reducible repeat (first | refine blk_drewN ?_ _ | refine blk_drew ?_ | refine blk_alloc ?_ _)); exact BK234.out)⟩; have n6_ : Aside0 (Below w.heap.size w wr) := ⟨by rw [← hq_]; exact (by repeat (first | (with_reducible first | exact HB.out | apply below_alloc | apply pw_below_drewN | apply below_drew1 | refine below_set ?_ GE218.out | refine below_set ?_ GE219.out | refine below_set ?_ GE234.out) | exact HB.out))⟩; clear HO_235004 HO_235005 HO_235006 BK218 BK219 BK234 HB hq_; have HO_235004 := n0_; have HO_235005 := n1_; have HO_235006 := n2_; have BK218 := n3_; have BK219 := n4_; have BK234 := n5_; have HB := n6_; clear n0_ n1_ n2_ n3_ n4_ n5_ n6_)); have hnb66 := NB234_218.out; have hnc66 := NB218_234.out; have hnb67 := NB234_219.out; have hnc67 := NB219_234.out; have hcz68_0 : wr.cell? ⟨gb234, 0, none⟩ = some (.int .i64 t221) := (blk_cell BK234.out 0).trans rfl; have hcz68_1 : wr.cell? ⟨gb234, 1, none⟩ = some (.int .i64 t222) := (blk_cell BK234.out 1).trans rfl; have hcz68_2 : wr.cell? ⟨gb234, 2, none⟩ = some (.int .i64 a2) := (blk_cell BK234.out 2).trans rfl; have hcz68_3 : wr.cell? ⟨gb234, 3, none⟩ = some (.string a1) := (blk_cell BK234.out 3).trans rfl; have hcz68_4 : wr.cell? ⟨gb234, 4, none⟩ = some (u235004) := (blk_cell BK234.out 4).trans rfl; have hcz68_5 : wr.cell? ⟨gb234, 5, none⟩ = some (u235005) := (blk_cell BK234.out 5).trans rfl; have hcz68_6 : wr.cell? ⟨gb234, 6, none⟩ = some (u235006) := (blk_cell BK234.out 6).trans rfl; have hfz68_0 := blk_frozen BK234.out 0; have hfz68_1 := blk_frozen BK234.out 1; have hfz68_2 := blk_frozen BK234.out 2; have hfz68_3 := blk_frozen BK234.out 3; have hfz68_4 := blk_frozen BK234.out 4; have hfz68_5 := blk_frozen BK234.out 5; have hfz68_6 := blk_frozen BK234.out 6) | ((with_reducible refine gate_builtin (b := .append) (xs := #[.tmp 51, .tmp 53]) rfl ?_); at_builtin; refine Kd.R_append Kd.string (w0 := w) w.heap.size rfl (.tmp 51) (.tmp 53) 22 9 (.string ⟨#[]⟩) 16 rfl Try.underlying22 info9 rfl (by decide) (by omega) u235004 x235004_2 (rdOf ByteArray.empty l0_4 x41_2) [.string (rdOf ByteArray.empty l0_4 x41_2)] (fun k_ => some k_ ≠ (u235005 : Value).ownBlock) (fun _ => False) rfl rfl ?aP (fun _ hk => hk.elim) ?aF ?aO ?aB ?aS ?aL ?_; (case aP => exact rfl); (case aB => exact (by repeat (first | (with_reducible first | exact HB.out | apply below_alloc | apply pw_below_drewN | apply below_drew1 | refine below_set ?_ GE218.out | refine below_set ?_ GE219.out | refine below_set ?_ GE234.out) | exact HB.out))); (case aF => exact (fun k_ hk => Kd.fresh' (Kd.R_lt (by (with_reducible repeat (first | apply Kd.R_alloc | apply Kd.R_drewN | apply Kd.R_drew)); exact HO_235005.out)) k_ hk)); (case aO => exact (by (with_reducible repeat (first | apply Kd.R_alloc | apply Kd.R_drewN | apply Kd.R_drew)); exact HO_235004.out)); (case aS => exact (below_size (by repeat (first | (with_reducible first | exact HB.out | apply below_alloc | apply pw_below_drewN | apply below_drew1 | refine below_set ?_ GE218.out | refine below_set ?_ GE219.out | refine below_set ?_ GE234.out) | exact HB.out)))); (case aL => have := LMc60.out; omega); intro v244 w69 ho hb hg hat; rw [← Ny243.out] at ho; have n0_ := Aside0.mk (Kd.R_after (ok := (fun _ => True)) (by (with_reducible repeat (first | apply Kd.R_alloc | apply Kd.R_drewN | apply Kd.R_drew)); exact Kd.R_mono HO_235005.out (fun _ hk => ⟨trivial, hk⟩)) hg hat); have n1_ := Aside0.mk (Kd.R_over' (by (with_reducible repeat (first | apply Kd.R_alloc | apply Kd.R_drewN | apply Kd.R_drew)); exact HO_235006.out) (Kd.R_typed (by (with_reducible repeat (first | apply Kd.R_alloc | apply Kd.R_drewN | apply Kd.R_drew)); exact HO_235004.out)) (by decide) hg); have n2_ := Aside0.mk (blk_grown (g := gb218) (o := .cells #[.int .i64 a0_0, .int .i64 a0_1, .int .i64 a0_2, .string a0_3, .slice (some ad240) l0_4.length c0_4, .slice A0_5 l0_5.length c0_5, .slice A0_6 l0_6.length c0_6] 25 (0, 0)) (by (with_reducible repeat (first | refine blk_drewN ?_ _ | refine blk_drew ?_ | refine blk_alloc ?_ _)); exact BK218.out) hg (Kd.R_ne HO_235004.out BK218.out (by decide))); have n3_ := Aside0.mk (blk_grown (g := gb219) (o := .cells #[.int .i64 0, .int .i64 0, .int .i64 0, .string (⟨#[]⟩ : ByteArray), .slice none 0 0, .slice none 0 0, .slice none 0 0] 25 (0, 0)) (by (with_reducible repeat (first | refine blk_drewN ?_ _ | refine blk_drew ?_ | refine blk_alloc ?_ _)); exact BK219.out) hg (Kd.R_ne HO_235004.out BK219.out (by decide))); have n4_ := Aside0.mk (blk_grown (g := gb234) (o := .cells #[.int .i64 t221, .int .i64 t222, .int .i64 a2, .string a1, u235004, u235005, u235006] 25 (0, 0)) (by (with_reducible repeat (first | refine blk_drewN ?_ _ | refine blk_drew ?_ | refine blk_alloc ?_ _)); exact BK234.out) hg (Kd.R_ne HO_235004.out BK234.out (by decide))); have n5_ := Aside0.mk (hb); have n6_ := Aside0.mk (ho); clear HO_235005; clear HO_235006; clear BK218; clear BK219; clear BK234; clear HB; clear HO_235004; have HO_235005 := n0_; have HO_235006 := n1_; have BK218 := n2_; have BK219 := n3_; have BK234 := n4_; have HB := n5_; have HO245 := n6_; clear n0_ n1_ n2_ n3_ n4_ n5_ n6_; clear ho hb hg hat; obtain ⟨Ao70, co70, eo70⟩ := Kd.R_slice HO245.out; subst eo70; have hcz71_0 : w69.cell? ⟨gb234, 0, none⟩ = some (.int .i64 t221) := (blk_cell BK234.out 0).trans rfl; have hcz71_1 : w69.cell? ⟨gb234, 1, none⟩ = some (.int .i64 t222) := (blk_cell BK234.out 1).trans rfl; have hcz71_2 : w69.cell? ⟨gb234, 2, none⟩ = some (.int .i64 a2) := (blk_cell BK234.out 2).trans rfl; have hcz71_3 : w69.cell? ⟨gb234, 3, none⟩ = some (.string a1) := (blk_cell BK234.out 3).trans rfl; have hcz71_4 : w69.cell? ⟨gb234, 4, none⟩ = some (u235004) := (blk_cell BK234.out 4).trans rfl; have hcz71_5 : w69.cell? ⟨gb234, 5, none⟩ = some (u235005) := (blk_cell BK234.out 5).trans rfl; have hcz71_6 : w69.cell? ⟨gb234, 6, none⟩ = some (u235006) := (blk_cell BK234.out 6).trans rfl; have hfz71_0 := blk_frozen BK234.out 0; have hfz71_1 := blk_frozen BK234.out 1; have hfz71_2 := blk_frozen BK234.out 2; have hfz71_3 := blk_frozen BK234.out 3; have hfz71_4 := blk_frozen BK234.out 4; have hfz71_5 := blk_frozen BK234.out 5; have hfz71_6 := blk_frozen BK234.out 6; have hnb72 := NB218_219.out; have hnc72 := NB219_218.out; have hcz73_0 : w69.cell? ⟨gb218, 0, none⟩ = some (.int .i64 a0_0) := (blk_cell BK218.out 0).trans rfl; have hcz73_1 : w69.cell? ⟨gb218, 1, none⟩ = some (.int .i64 a0_1) := (blk_cell BK218.out 1).trans rfl; have hcz73_2 : w69.cell? ⟨gb218, 2, none⟩ = some (.int .i64 a0_2) := (blk_cell BK218.out 2).trans rfl; have hcz73_3 : w69.cell? ⟨gb218, 3, none⟩ = some (.string a0_3) := (blk_cell BK218.out 3).trans rfl; have hcz73_4 : w69.cell? ⟨gb218, 4, none⟩ = some (.slice (some ad240) l0_4.length c0_4) := (blk_cell BK218.out 4).trans rfl; have hcz73_5 : w69.cell? ⟨gb218, 5, none⟩ = some (.slice A0_5 l0_5.length c0_5) := (blk_cell BK218.out 5).trans rfl; have hcz73_6 : w69.cell? ⟨gb218, 6, none⟩ = some (.slice A0_6 l0_6.length c0_6) := (blk_cell BK218.out 6).trans rfl; have hfz73_0 := blk_frozen BK218.out 0; have hfz73_1 := blk_frozen BK218.out 1; have hfz73_2 := blk_frozen BK218.out 2; have hfz73_3 := blk_frozen BK218.out 3; have hfz73_4 := blk_frozen BK218.out 4; have hfz73_5 := blk_frozen BK218.out 5; have hfz73_6 := blk_frozen BK218.out 6))
               have n0_ : Aside0 (Kd.R Kd.string 9 (w69.setCell ⟨gb234, 4, none⟩ (.slice Ao70 y243.length co70)) w.heap.size (fun k_ => some k_ ≠ (.slice Ao70 y243.length co70 : Value).ownBlock) u235005 x235005_2) := ⟨by (with_reducible repeat (first | apply Kd.R_alloc | apply Kd.R_drewN | apply Kd.R_drew)); exact Kd.R_mono (Kd.R_far (p := ⟨gb234, 4, none⟩) (Kd.R_types HO_235005.out BK234.out (by decide)) (fun _ hk => hk.2) (.slice Ao70 y243.length co70)) (fun _ hk => hk.1.2)⟩
               have n1_ : Aside0 (Kd.R (Kd.int .i64) 3 (w69.setCell ⟨gb234, 4, none⟩ (.slice Ao70 y243.length co70)) w.heap.size (fun _ => True) u235006 x235006_2) := ⟨by (with_reducible repeat (first | apply Kd.R_alloc | apply Kd.R_drewN | apply Kd.R_drew)); exact Kd.R_mono (Kd.R_far (p := ⟨gb234, 4, none⟩) (Kd.R_types HO_235006.out BK234.out (by decide)) (fun _ hk => hk.2) (.slice Ao70 y243.length co70)) (fun _ hk => trivial)⟩
               have n2_ : Aside0 (Kd.R Kd.string 9 (w69.setCell ⟨gb234, 4, none⟩ (.slice Ao70 y243.length co70)) w.heap.size (fun k_ => some k_ ≠ (u235005 : Value).ownBlock) (.slice Ao70 y243.length co70) y243) := ⟨by (with_reducible repeat (first | apply Kd.R_alloc | apply Kd.R_drewN | apply Kd.R_drew)); exact Kd.R_mono (Kd.R_far (p := ⟨gb234, 4, none⟩) (Kd.R_types HO245.out BK234.out (by decide)) (fun _ hk => hk.2) (.slice Ao70 y243.length co70)) (fun _ hk => hk.1)⟩
               have n3_ : Aside0 ((w69.setCell ⟨gb234, 4, none⟩ (.slice Ao70 y243.length co70)).heap[gb218]? = some (.cells #[.int .i64 a0_0, .int .i64 a0_1, .int .i64 a0_2, .string a0_3, .slice (some ad240) l0_4.length c0_4, .slice A0_5 l0_5.length c0_5, .slice A0_6 l0_6.length c0_6] 25 (0, 0))) := ⟨by (with_reducible repeat (first | refine blk_drewN ?_ _ | refine blk_drew ?_ | refine blk_alloc ?_ _)); refine blk_far ?_ NB218_234.out _; (with_reducible repeat (first | refine blk_drewN ?_ _ | refine blk_drew ?_ | refine blk_alloc ?_ _)); exact BK218.out⟩
               have n4_ : Aside0 ((w69.setCell ⟨gb234, 4, none⟩ (.slice Ao70 y243.length co70)).heap[gb219]? = some (.cells #[.int .i64 0, .int .i64 0, .int .i64 0, .string (⟨#[]⟩ : ByteArray), .slice none 0 0, .slice none 0 0, .slice none 0 0] 25 (0, 0))) := ⟨by (with_reducible repeat (first | refine blk_drewN ?_ _ | refine blk_drew ?_ | refine blk_alloc ?_ _)); refine blk_far ?_ NB219_234.out _; (with_reducible repeat (first | refine blk_drewN ?_ _ | refine blk_drew ?_ | refine blk_alloc ?_ _)); exact BK219.out⟩
               have n5_ : Aside0 ((w69.setCell ⟨gb234, 4, none⟩ (.slice Ao70 y243.length co70)).heap[gb234]? = some (.cells #[.int .i64 t221, .int .i64 t222, .int .i64 a2, .string a1, .slice Ao70 y243.length co70, u235005, u235006] 25 (0, 0))) := ⟨by (with_reducible repeat (first | refine blk_drewN ?_ _ | refine blk_drew ?_ | refine blk_alloc ?_ _)); refine blk_put (cs := #[.int .i64 t221, .int .i64 t222, .int .i64 a2, .string a1, u235004, u235005, u235006]) ?_ 4 _ rfl; (with_reducible repeat (first | refine blk_drewN ?_ _ | refine blk_drew ?_ | refine blk_alloc ?_ _)); exact BK234.out⟩
               have n6_ : Aside0 (Below w.heap.size w (w69.setCell ⟨gb234, 4, none⟩ (.slice Ao70 y243.length co70))) := ⟨by repeat (first | (with_reducible first | exact HB.out | apply below_alloc | apply pw_below_drewN | apply below_drew1 | refine below_set ?_ GE218.out | refine below_set ?_ GE219.out | refine below_set ?_ GE234.out) | exact HB.out)⟩
               (try clear HO_235005)
               (try clear HO_235006)
               (try clear HO245)
               (try clear BK218)
               (try clear BK219)
               (try clear BK234)
               (try clear HB)
               generalize (w69.setCell ⟨gb234, 4, none⟩ (.slice Ao70 y243.length co70)) = w74 at n0_ n1_ n2_ n3_ n4_ n5_ n6_ ⊢
               have HO_235005 := n0_
               have HO_235006 := n1_
               have HO245 := n2_
               have BK218 := n3_
               have BK219 := n4_
               have BK234 := n5_
               have HB := n6_
               clear n0_ n1_ n2_ n3_ n4_ n5_ n6_
               have n0_ := Aside0.mk (Kd.R_drew HO_235005.out)
               have n1_ := Aside0.mk (Kd.R_drew HO_235006.out)
               have n2_ := Aside0.mk (Kd.R_drew HO245.out)
               have n3_ := Aside0.mk (blk_drew BK218.out)
               have n4_ := Aside0.mk (blk_drew BK219.out)
               have n5_ := Aside0.mk (blk_drew BK234.out)
               have n6_ := Aside0.mk (below_drew1 HB.out)
               clear HO_235005
               clear HO_235006
               clear HO245
               clear BK218
               clear BK219
               clear BK234
               clear HB
               have HO_235005 := n0_
               have HO_235006 := n1_
               have HO245 := n2_
               have BK218 := n3_
               have BK219 := n4_
               have BK234 := n5_
               have HB := n6_
               clear n0_ n1_ n2_ n3_ n4_ n5_ n6_
               have p246 : 0 ≤ ((ji62) : Int) := of_decide_eq_true (by first | (with_reducible assumption) | assumption)
               have q246 : (ji62) < (l0_6.length : Int) := of_decide_eq_true (by first | (with_reducible assumption) | assumption)
               obtain ⟨ad246, e246, hx246_0⟩ := Kd.at_int HR0_6.out (ji62) p246 q246
               have hw246_0 := hx246_0
               cases e246
               replace hx246_0 := (HB.out.cell (World.block_lt_of_cell? w _ hx246_0)).trans hx246_0
               replace p246 := eq_true p246
               replace q246 := eq_true q246
               refine start_ (n := 12) (S := fun w' => w'.cell? ⟨gb234, 0, none⟩ = some (.int .i64 t221) ∧ w'.cell? ⟨gb234, 1, none⟩ = some (.int .i64 t222) ∧ w'.cell? ⟨gb234, 2, none⟩ = some (.int .i64 a2) ∧ w'.cell? ⟨gb234, 3, none⟩ = some (.string a1) ∧ w'.cell? ⟨gb234, 4, none⟩ = some (.slice Ao70 y243.length co70) ∧ w'.cell? ⟨gb234, 5, none⟩ = some (u235005) ∧ w'.cell? ⟨gb234, 6, none⟩ = some (u235006) ∧ w'.cell? ⟨gb218, 0, none⟩ = some (.int .i64 a0_0) ∧ w'.cell? ⟨gb218, 1, none⟩ = some (.int .i64 a0_1) ∧ w'.cell? ⟨gb218, 2, none⟩ = some (.int .i64 a0_2) ∧ w'.cell? ⟨gb218, 3, none⟩ = some (.string a0_3) ∧ w'.cell? ⟨gb218, 4, none⟩ = some (.slice (some ad240) l0_4.length c0_4) ∧ w'.cell? ⟨gb218, 5, none⟩ = some (.slice A0_5 l0_5.length c0_5) ∧ w'.cell? ⟨gb218, 6, none⟩ = some (.slice (some ad246) l0_6.length c0_6) ∧ w'.cell? (ad246.add ((ji62)).toNat) = some (.int .i64 (rd l0_6 (ji62)))) (ds := [11]) #[false, false, false, false, false, false, false, false, false, false, false, false] (by kernel_rfl) rfl rfl ⟨(blk_cell BK234.out 0).trans rfl, (blk_cell BK234.out 1).trans rfl, (blk_cell BK234.out 2).trans rfl, (blk_cell BK234.out 3).trans rfl, (blk_cell BK234.out 4).trans rfl, (blk_cell BK234.out 5).trans rfl, (blk_cell BK234.out 6).trans rfl, (blk_cell BK218.out 0).trans rfl, (blk_cell BK218.out 1).trans rfl, (blk_cell BK218.out 2).trans rfl, (blk_cell BK218.out 3).trans rfl, (blk_cell BK218.out 4).trans rfl, (blk_cell BK218.out 5).trans rfl, (blk_cell BK218.out 6).trans rfl, ((HB.out.cell (World.block_lt_of_cell? w _ hw246_0)).trans hw246_0)⟩ (fun hHeld => ?_); refine with_tabW latticeref07_Left.tab15 latticeref07_Left.bits15 (fun HT_ HW_ => ?_)
               generalize w74.drew = w75 at HO_235005 HO_235006 HO245 BK218 BK219 BK234 HB hx246_0 hHeld ⊢
               refine pure_ (i := 0) (N := some 59) (v := ?_) (a' := ?_) #[true, false, false, false, false, false, false, false, false, false, false, false] rfl rfl (any_of HT_.out (by kernel_rfl)) (fun _ _ _ h => h) (Or.inl ⟨by rfl, ?_⟩) ?_ ?_
               rotate_left
               ·intro w'
                go_simp
                with_reducible rfl
               rotate_left
               ·simp only [Act.put, List.setIfInBounds_toArray, List.set_cons_zero, List.set_cons_succ, i64_w, i32_w]
                rfl
               refine pure_ (i := 2) (N := some 61) (v := ?_) (a' := ?_) #[true, false, true, false, false, false, false, false, false, false, false, false] rfl rfl (any_of HT_.out (by kernel_rfl)) (fun _ _ _ h => h) (Or.inl ⟨by rfl, ?_⟩) ?_ ?_
               rotate_left
               ·intro w'
                go_simp
                with_reducible rfl
               rotate_left
               ·simp only [Act.put, List.setIfInBounds_toArray, List.set_cons_zero, List.set_cons_succ, i64_w, i32_w]
                rfl
               refine pure_ (i := 4) (N := some 63) (v := ?_) (a' := ?_) #[true, false, true, false, true, false, false, false, false, false, false, false] rfl rfl (any_of HT_.out (by kernel_rfl)) (fun _ _ _ h => h) (Or.inl ⟨by rfl, ?_⟩) ?_ ?_
               rotate_left
               ·intro w'
                go_simp
                with_reducible rfl
               rotate_left
               ·simp only [Act.put, List.setIfInBounds_toArray, List.set_cons_zero, List.set_cons_succ, i64_w, i32_w]
                rfl
               refine pure_ (i := 5) (N := some 64) (v := ?_) (a' := ?_) #[true, false, true, false, true, true, false, false, false, false, false, false] rfl rfl (any_of HT_.out (by kernel_rfl)) (fun _ _ _ h => h) (Or.inl ⟨by rfl, ?_⟩) ?_ ?_
               rotate_left
               ·intro w'
                go_simp
                with_reducible rfl
               rotate_left
               ·simp only [Act.put, List.setIfInBounds_toArray, List.set_cons_zero, List.set_cons_succ, i64_w, i32_w]
                rfl
               refine take_ (i := 1) (N := some 60) (v := ?_) (a' := ?_) #[true, true, true, false, true, true, false, false, false, false, false, false] rfl rfl (take_ofW HT_.out HW_.out (by kernel_rfl)) (fun _ _ _ h => h) (Or.inl ⟨by rfl, ?_⟩) hHeld ?_ ?_
               rotate_left
               ·rintro w' ⟨s0, s1, s2, s3, s4, s5, s6, s7, s8, s9, s10, s11, s12, s13, s14⟩
                go_simp
                with_reducible rfl
               rotate_left
               ·simp only [Act.put, List.setIfInBounds_toArray, List.set_cons_zero, List.set_cons_succ, i64_w, i32_w]
                rfl
               refine take_ (i := 3) (N := some 62) (v := ?_) (a' := ?_) #[true, true, true, true, true, true, false, false, false, false, false, false] rfl rfl (take_ofW HT_.out HW_.out (by kernel_rfl)) (fun _ _ _ h => h) (Or.inl ⟨by rfl, ?_⟩) hHeld ?_ ?_
               rotate_left
               ·rintro w' ⟨s0, s1, s2, s3, s4, s5, s6, s7, s8, s9, s10, s11, s12, s13, s14⟩
                go_simp
                with_reducible rfl
               rotate_left
               ·simp only [Act.put, List.setIfInBounds_toArray, List.set_cons_zero, List.set_cons_succ, i64_w, i32_w]
                rfl
               refine pure_ (i := 6) (N := some 65) (v := ?_) (a' := ?_) #[true, true, true, true, true, true, true, false, false, false, false, false] rfl rfl (any_of HT_.out (by kernel_rfl)) (fun _ _ _ h => h) (Or.inl ⟨by rfl, ?_⟩) ?_ ?_
               rotate_left
               ·intro w'
                go_simp
                with_reducible rfl
               rotate_left
               ·simp only [Act.put, List.setIfInBounds_toArray, List.set_cons_zero, List.set_cons_succ, i64_w, i32_w]
                rfl
               refine take_ (i := 7) (N := some 66) (v := ?_) (a' := ?_) #[true, true, true, true, true, true, true, true, false, false, false, false] rfl rfl (take_ofW HT_.out HW_.out (by kernel_rfl)) (fun _ _ _ h => h) (Or.inl ⟨by rfl, ?_⟩) hHeld ?_ ?_
               rotate_left
               ·rintro w' ⟨s0, s1, s2, s3, s4, s5, s6, s7, s8, s9, s10, s11, s12, s13, s14⟩
                go_simp
                with_reducible rfl
               rotate_left
               ·simp only [Act.put, List.setIfInBounds_toArray, List.set_cons_zero, List.set_cons_succ, i64_w, i32_w]
                rfl
               refine one_ (i := 8) (N := some 67) #[true, true, true, true, true, true, true, true, true, false, false, false] rfl rfl (one_of HT_.out (by kernel_rfl)) (by decide) (fun K hK => ?_)
               refine value_ (w1 := ?_) (v := ?_) (by rfl) rfl ?_ ?_
               rotate_left 2
               ·go_simp
                constructor
                ·rfl
                ·rfl
               refine hK.out _ _ ⟨(blk_cell (blk_alloc BK234.out _) 0).trans rfl, (blk_cell (blk_alloc BK234.out _) 1).trans rfl, (blk_cell (blk_alloc BK234.out _) 2).trans rfl, (blk_cell (blk_alloc BK234.out _) 3).trans rfl, (blk_cell (blk_alloc BK234.out _) 4).trans rfl, (blk_cell (blk_alloc BK234.out _) 5).trans rfl, (blk_cell (blk_alloc BK234.out _) 6).trans rfl, (blk_cell (blk_alloc BK218.out _) 0).trans rfl, (blk_cell (blk_alloc BK218.out _) 1).trans rfl, (blk_cell (blk_alloc BK218.out _) 2).trans rfl, (blk_cell (blk_alloc BK218.out _) 3).trans rfl, (blk_cell (blk_alloc BK218.out _) 4).trans rfl, (blk_cell (blk_alloc BK218.out _) 5).trans rfl, (blk_cell (blk_alloc BK218.out _) 6).trans rfl, (World.cell?_alloc_lt _ _ _ (World.block_lt_of_cell? _ _ (((HB.out.cell (World.block_lt_of_cell? w _ hw246_0)).trans hw246_0)))).trans (((HB.out.cell (World.block_lt_of_cell? w _ hw246_0)).trans hw246_0))⟩ (fun hHeld => ?_)
               clear hK K
               refine norm_ (a' := ?_) ?_ ?_
               rotate_left
               ·show Act.put _ (some 67) _ = _
                simp only [Act.put, List.setIfInBounds_toArray, List.set_cons_zero, List.set_cons_succ, i64_w, i32_w]
                rfl
               refine one_ (i := 9) (N := some 68) #[true, true, true, true, true, true, true, true, true, true, false, false] rfl rfl (one_of HT_.out (by kernel_rfl)) (by decide) (fun K hK => ?_)
               refine Kd.R_append_step (Kd.int .i64) (w0 := w) w.heap.size (by rfl) (.tmp 60) (.tmp 67) 23 3 (.int .i64 0) 8 rfl Try.underlying23 info3 rfl (by decide) (by omega) u235006 x235006_2 (rd l0_6 (ji62)) [.int .i64 (rd l0_6 (ji62))] (fun _ => True) (fun _ => False) rfl rfl ?aP (fun _ hk => hk.elim) ?aF ?aO ?aB ?aS ?aL ?_
               (case aP => exact rfl)
               (case aB => exact (by repeat (first | (with_reducible first | exact HB.out | apply below_alloc | apply pw_below_drewN | apply below_drew1 | refine below_set ?_ GE218.out | refine below_set ?_ GE219.out | refine below_set ?_ GE234.out) | exact HB.out)))
               (case aF => exact (fun _ _ => trivial))
               (case aO => exact (by (with_reducible repeat (first | apply Kd.R_alloc | apply Kd.R_drewN | apply Kd.R_drew)); exact HO_235006.out))
               (case aS => exact (below_size (by repeat (first | (with_reducible first | exact HB.out | apply below_alloc | apply pw_below_drewN | apply below_drew1 | refine below_set ?_ GE218.out | refine below_set ?_ GE219.out | refine below_set ?_ GE234.out) | exact HB.out))))
               (case aL => have := LMc65.out; omega)
               intro v248 w76 ho hb hg hat
               rw [← Ny247.out] at ho
               have n0_ := Aside0.mk (Kd.R_over' (by (with_reducible repeat (first | apply Kd.R_alloc | apply Kd.R_drewN | apply Kd.R_drew)); exact HO_235005.out) (Kd.R_typed (by (with_reducible repeat (first | apply Kd.R_alloc | apply Kd.R_drewN | apply Kd.R_drew)); exact HO_235006.out)) (by decide) hg)
               have n1_ := Aside0.mk (blk_grown (g := gb218) (o := .cells #[.int .i64 a0_0, .int .i64 a0_1, .int .i64 a0_2, .string a0_3, .slice (some ad240) l0_4.length c0_4, .slice A0_5 l0_5.length c0_5, .slice (some ad246) l0_6.length c0_6] 25 (0, 0)) (by (with_reducible repeat (first | refine blk_drewN ?_ _ | refine blk_drew ?_ | refine blk_alloc ?_ _)); exact BK218.out) hg (Kd.R_ne HO_235006.out BK218.out (by decide)))
               have n2_ := Aside0.mk (blk_grown (g := gb219) (o := .cells #[.int .i64 0, .int .i64 0, .int .i64 0, .string (⟨#[]⟩ : ByteArray), .slice none 0 0, .slice none 0 0, .slice none 0 0] 25 (0, 0)) (by (with_reducible repeat (first | refine blk_drewN ?_ _ | refine blk_drew ?_ | refine blk_alloc ?_ _)); exact BK219.out) hg (Kd.R_ne HO_235006.out BK219.out (by decide)))
               have n3_ := Aside0.mk (blk_grown (g := gb234) (o := .cells #[.int .i64 t221, .int .i64 t222, .int .i64 a2, .string a1, .slice Ao70 y243.length co70, u235005, u235006] 25 (0, 0)) (by (with_reducible repeat (first | refine blk_drewN ?_ _ | refine blk_drew ?_ | refine blk_alloc ?_ _)); exact BK234.out) hg (Kd.R_ne HO_235006.out BK234.out (by decide)))
               have n4_ := Aside0.mk (Kd.R_over' (by (with_reducible repeat (first | apply Kd.R_alloc | apply Kd.R_drewN | apply Kd.R_drew)); exact HO245.out) (Kd.R_typed (by (with_reducible repeat (first | apply Kd.R_alloc | apply Kd.R_drewN | apply Kd.R_drew)); exact HO_235006.out)) (by decide) hg)
               have n5_ := Aside0.mk (hb)
               have n6_ := Aside0.mk (ho)
               clear HO_235005
               clear BK218
               clear BK219
               clear BK234
               clear HO245
               clear HB
               clear HO_235006
               have HO_235005 := n0_
               have BK218 := n1_
               have BK219 := n2_
               have BK234 := n3_
               have HO245 := n4_
               have HB := n5_
               have HO249 := n6_
               clear n0_ n1_ n2_ n3_ n4_ n5_ n6_
               clear ho hb hg hat
               obtain ⟨Ao77, co77, eo77⟩ := Kd.R_slice HO249.out
               (first | subst eo77 | (injection eo77 with f1_ f2_ f3_; have f4_ := f1_.symm; have f5_ := f3_.symm; clear f1_ f2_ f3_; subst f4_; subst f5_))
               refine hK.out _ _ ⟨(blk_cell BK234.out 0).trans rfl, (blk_cell BK234.out 1).trans rfl, (blk_cell BK234.out 2).trans rfl, (blk_cell BK234.out 3).trans rfl, (blk_cell BK234.out 4).trans rfl, (blk_cell BK234.out 5).trans rfl, (blk_cell BK234.out 6).trans rfl, (blk_cell BK218.out 0).trans rfl, (blk_cell BK218.out 1).trans rfl, (blk_cell BK218.out 2).trans rfl, (blk_cell BK218.out 3).trans rfl, (blk_cell BK218.out 4).trans rfl, (blk_cell BK218.out 5).trans rfl, (blk_cell BK218.out 6).trans rfl, ((HB.out.cell (World.block_lt_of_cell? w _ hw246_0)).trans hw246_0)⟩ (fun hHeld => ?_)
               clear hK K
               refine norm_ (a' := ?_) ?_ ?_
               rotate_left
               ·show Act.put _ (some 68) _ = _
                simp only [Act.put, List.setIfInBounds_toArray, List.set_cons_zero, List.set_cons_succ, i64_w, i32_w]
                rfl
               refine pure_ (i := 10) (N := some 69) (v := ?_) (a' := ?_) #[true, true, true, true, true, true, true, true, true, true, true, false] rfl rfl (any_of HT_.out (by kernel_rfl)) (fun _ _ _ h => h) (Or.inl ⟨by rfl, ?_⟩) ?_ ?_
               rotate_left
               ·intro w'
                go_simp
                with_reducible rfl
               rotate_left
               ·simp only [Act.put, List.setIfInBounds_toArray, List.set_cons_zero, List.set_cons_succ, i64_w, i32_w]
                rfl
               refine last_ (i := 11) (N := none) #[true, true, true, true, true, true, true, true, true, true, true, true] rfl rfl (one_of HT_.out (by kernel_rfl)) (by decide) (fun K hK => ?_)
               have hs78 : w76.cell? ⟨gb234, 6, none⟩ = some (u235006) := (blk_cell BK234.out 6).trans rfl
               have hfs78 := blk_frozen BK234.out 6
               have hns78_0 := NB218_234.out
               have hns78_1 := NB219_234.out
               have hms78_0 := NB234_218.out
               have hms78_1 := NB234_219.out
               refine skip_ (w1 := ?_) (by rfl) rfl ?_ ?_
               rotate_left
               ·go_simp
                rfl
               refine hK.out _ _ ?_
               clear hK K
               refine done_ (done_of HT_.out (by kernel_rfl)) ?_
               try go_wp2
               go_roundg k2
               case measure => have := HJ6.out; have := HK2.out; omega
               case rel => exact ⟨(ji62), (y243), (x235005_2), (y247), (.slice Ao70 y243.length co70), (u235005), (.slice Ao77 y247.length co77), (by first | rfl | (simp; done) | (simp only [← hji62] <;> (first | rfl | simp)) | (simp [*]; done)), H', ⟨by have := HJ6.out; have := HK2.out; omega⟩, ⟨by (with_reducible repeat (first | apply Kd.R_alloc | apply Kd.R_drewN | apply Kd.R_drew)); exact Kd.R_mono (Kd.R_far (p := ⟨gb234, 6, none⟩) (Kd.R_types HO245.out BK234.out (by decide)) (fun _ hk => hk.2) (.slice Ao77 y247.length co77)) (fun _ hk => hk.1)⟩, ⟨by (with_reducible repeat (first | apply Kd.R_alloc | apply Kd.R_drewN | apply Kd.R_drew)); exact Kd.R_mono (Kd.R_far (p := ⟨gb234, 6, none⟩) (Kd.R_types HO_235005.out BK234.out (by decide)) (fun _ hk => hk.2) (.slice Ao77 y247.length co77)) (fun _ hk => hk.1)⟩, ⟨by (with_reducible repeat (first | apply Kd.R_alloc | apply Kd.R_drewN | apply Kd.R_drew)); exact Kd.R_mono (Kd.R_far (p := ⟨gb234, 6, none⟩) (Kd.R_types HO249.out BK234.out (by decide)) (fun _ hk => hk.2) (.slice Ao77 y247.length co77)) (fun _ hk => trivial)⟩, ⟨by (with_reducible repeat (first | refine blk_drewN ?_ _ | refine blk_drew ?_ | refine blk_alloc ?_ _)); refine blk_far ?_ NB218_234.out _; (with_reducible repeat (first | refine blk_drewN ?_ _ | refine blk_drew ?_ | refine blk_alloc ?_ _)); exact BK218.out⟩, ⟨by (with_reducible repeat (first | refine blk_drewN ?_ _ | refine blk_drew ?_ | refine blk_alloc ?_ _)); refine blk_far ?_ NB219_234.out _; (with_reducible repeat (first | refine blk_drewN ?_ _ | refine blk_drew ?_ | refine blk_alloc ?_ _)); exact BK219.out⟩, ⟨by (with_reducible repeat (first | refine blk_drewN ?_ _ | refine blk_drew ?_ | refine blk_alloc ?_ _)); refine blk_put (cs := #[.int .i64 t221, .int .i64 t222, .int .i64 a2, .string a1, .slice Ao70 y243.length co70, u235005, u235006]) ?_ 6 _ rfl; (with_reducible repeat (first | refine blk_drewN ?_ _ | refine blk_drew ?_ | refine blk_alloc ?_ _)); exact BK234.out⟩, ⟨by repeat (first | (with_reducible first | exact HB.out | apply below_alloc | apply pw_below_drewN | apply below_drew1 | refine below_set ?_ GE218.out | refine below_set ?_ GE219.out | refine below_set ?_ GE234.out) | exact HB.out)⟩⟩
              ·rw [if_neg c65] at H
               exact absurd H (by simp)
             ·rw [if_neg c64] at H
              exact absurd H (by simp)
            ·rw [if_neg c63] at H
             exact absurd H (by simp)
           ·rw [if_neg c61] at H
            have c61b0 : decide (0 < a0_0) = false := decide_eq_false c61
            clear c61
            by_cases c79 : x41_2 < (l0_5.length : Int)
            ·rw [if_pos c79] at H
             have c79b0 : decide (x41_2 < (l0_5.length : Int)) = true := decide_eq_true c79
             clear c79
             by_cases c80 : x235005_2.length < 8796093022208
             ·rw [if_pos c80] at H
              have LMc80 := Aside0.mk c80
              clear c80
              obtain ⟨y251, hy251⟩ : ∃ y_ : List ByteArray, y_ = (x235005_2 ++ [rdOf ByteArray.empty l0_5 x41_2]) := ⟨_, rfl⟩
              replace H : (latticeref07_Left.l0 k2 a1 l0_4 (l0_4.length : Int) (wrap64 (x41_2 + 1)) a0_0 a0_1 a0_2 a0_3 l0_4 l0_5 l0_6 t221 t222 a2 a1 y243 y251 x235006_2) = some (r1, r2, r3, r4, r5, r6, r7, r8) := by first | (rw [hy251]; with_reducible exact H) | (have H2_ := (Option.bind_some _ _).symm.trans H; rw [hy251]; with_reducible exact H2_) | (have H2_ := (Option.bind_some _ _).symm.trans H; with_reducible exact H2_) | with_reducible exact H | (rw [hy251]; exact H) | exact H
              have Ny251 := Aside0.mk hy251
              clear hy251
              have H' := Aside0.mk H
              clear H
              have p240 : 0 ≤ (x41_2 : Int) := of_decide_eq_true (by first | (with_reducible assumption) | assumption)
              have q240 : x41_2 < (l0_4.length : Int) := of_decide_eq_true (by first | (with_reducible assumption) | assumption)
              obtain ⟨ad240, e240, hx240_0⟩ := Kd.at_string HR0_4.out x41_2 p240 q240
              cases e240
              replace hx240_0 := (HB.out.cell (World.block_lt_of_cell? w _ hx240_0)).trans hx240_0
              replace p240 := eq_true p240
              replace q240 := eq_true q240
              try go_wp2_with (first | ((with_reducible refine gate_callee (f := 41) rfl ?_); refine goesL_ (some 48) rfl rfl Try.func41 (by kernel_rfl) rfl #[.string (rdOf ByteArray.empty l0_4 x41_2), .string a1] rfl (by (try simp only [List.map_toArray, List.map_cons, List.map_nil]); first | done | rfl | (simp only [List.length_drop, List.length_take]; rfl)) ?_; (with_reducible refine (latticeref05_Compare.calls k2 (rdOf ByteArray.empty l0_4 x41_2) a1 t241 _ A37.out).mono ?_); rintro e w' ⟨rfl, ⟨nd, rfl⟩⟩; refine ⟨_, rfl, ?_⟩; (try (rw [drewN_self wr]; generalize hq_ : World.drewN wr _ = wr; have n0_ : Aside0 (Kd.R Kd.string 9 wr w.heap.size (fun k_ => some k_ ≠ (u235005 : Value).ownBlock) u235004 x235004_2) := ⟨by rw [← hq_]; exact (by (with_reducible repeat (first | apply Kd.R_alloc | apply Kd.R_drewN | apply Kd.R_drew)); exact HO_235004.out)⟩; have n1_ : Aside0 (Kd.R Kd.string 9 wr w.heap.size (fun k_ => some k_ ≠ (u235004 : Value).ownBlock) u235005 x235005_2) := ⟨by rw [← hq_]; exact (by (with_reducible repeat (first | apply Kd.R_alloc | apply Kd.R_drewN | apply Kd.R_drew)); exact HO_235005.out)⟩; have n2_ : Aside0 (Kd.R (Kd.int .i64) 3 wr w.heap.size (fun _ => True) u235006 x235006_2) := ⟨by rw [← hq_]; exact (by (with_reducible repeat (first | apply Kd.R_alloc | apply Kd.R_drewN | apply Kd.R_drew)); exact HO_235006.out)⟩; have n3_ : Aside0 (wr.heap[gb218]? = some (.cells #[.int .i64 a0_0, .int .i64 a0_1, .int .i64 a0_2, .string a0_3, .slice (some ad240) l0_4.length c0_4, .slice A0_5 l0_5.length c0_5, .slice A0_6 l0_6.length c0_6] 25 (0, 0))) := ⟨by rw [← hq_]; exact (by (with_reducible repeat (first | refine blk_drewN ?_ _ | refine blk_drew ?_ | refine blk_alloc ?_ _)); exact BK218.out)⟩; have n4_ : Aside0 (wr.heap[gb219]? = some (.cells #[.int .i64 0, .int .i64 0, .int .i64 0, .string (⟨#[]⟩ : ByteArray), .slice none 0 0, .slice none 0 0, .slice none 0 0] 25 (0, 0))) := ⟨by rw [← hq_]; exact (by (with_reducible repeat (first | refine blk_drewN ?_ _ | refine blk_drew ?_ | refine blk_alloc ?_ _)); exact BK219.out)⟩; have n5_ : Aside0 (wr.heap[gb234]? = some (.cells #[.int .i64 t221, .int .i64 t222, .int .i64 a2, .string a1, u235004, u235005, u235006] 25 (0, 0))) := ⟨by rw [← hq_]; exact (by (with_reducible repeat (first | refine blk_drewN ?_ _ | refine blk_drew ?_ | refine blk_alloc ?_ _)); exact BK234.out)⟩; have n6_ : Aside0 (Below w.heap.size w wr) := ⟨by rw [← hq_]; exact (by repeat (first | (with_reducible first | exact HB.out | apply below_alloc | apply pw_below_drewN | apply below_drew1 | refine below_set ?_ GE218.out | refine below_set ?_ GE219.out | refine below_set ?_ GE234.out) | exact HB.out))⟩; clear HO_235004 HO_235005 HO_235006 BK218 BK219 BK234 HB hq_; have HO_235004 := n0_; have HO_235005 := n1_; have HO_235006 := n2_; have BK218 := n3_; have BK219 := n4_; have BK234 := n5_; have HB := n6_; clear n0_ n1_ n2_ n3_ n4_ n5_ n6_)); have hnb81 := NB234_218.out; have hnc81 := NB218_234.out; have hnb82 := NB234_219.out; have hnc82 := NB219_234.out; have hcz83_0 : wr.cell? ⟨gb234, 0, none⟩ = some (.int .i64 t221) := (blk_cell BK234.out 0).trans rfl; have hcz83_1 : wr.cell? ⟨gb234, 1, none⟩ = some (.int .i64 t222) := (blk_cell BK234.out 1).trans rfl; have hcz83_2 : wr.cell? ⟨gb234, 2, none⟩ = some (.int .i64 a2) := (blk_cell BK234.out 2).trans rfl; have hcz83_3 : wr.cell? ⟨gb234, 3, none⟩ = some (.string a1) := (blk_cell BK234.out 3).trans rfl; have hcz83_4 : wr.cell? ⟨gb234, 4, none⟩ = some (u235004) := (blk_cell BK234.out 4).trans rfl; have hcz83_5 : wr.cell? ⟨gb234, 5, none⟩ = some (u235005) := (blk_cell BK234.out 5).trans rfl; have hcz83_6 : wr.cell? ⟨gb234, 6, none⟩ = some (u235006) := (blk_cell BK234.out 6).trans rfl; have hfz83_0 := blk_frozen BK234.out 0; have hfz83_1 := blk_frozen BK234.out 1; have hfz83_2 := blk_frozen BK234.out 2; have hfz83_3 := blk_frozen BK234.out 3; have hfz83_4 := blk_frozen BK234.out 4; have hfz83_5 := blk_frozen BK234.out 5; have hfz83_6 := blk_frozen BK234.out 6) | ((with_reducible refine gate_builtin (b := .append) (xs := #[.tmp 51, .tmp 53]) rfl ?_); at_builtin; refine Kd.R_append Kd.string (w0 := w) w.heap.size rfl (.tmp 51) (.tmp 53) 22 9 (.string ⟨#[]⟩) 16 rfl Try.underlying22 info9 rfl (by decide) (by omega) u235004 x235004_2 (rdOf ByteArray.empty l0_4 x41_2) [.string (rdOf ByteArray.empty l0_4 x41_2)] (fun k_ => some k_ ≠ (u235005 : Value).ownBlock) (fun _ => False) rfl rfl ?aP (fun _ hk => hk.elim) ?aF ?aO ?aB ?aS ?aL ?_; (case aP => exact rfl); (case aB => exact (by repeat (first | (with_reducible first | exact HB.out | apply below_alloc | apply pw_below_drewN | apply below_drew1 | refine below_set ?_ GE218.out | refine below_set ?_ GE219.out | refine below_set ?_ GE234.out) | exact HB.out))); (case aF => exact (fun k_ hk => Kd.fresh' (Kd.R_lt (by (with_reducible repeat (first | apply Kd.R_alloc | apply Kd.R_drewN | apply Kd.R_drew)); exact HO_235005.out)) k_ hk)); (case aO => exact (by (with_reducible repeat (first | apply Kd.R_alloc | apply Kd.R_drewN | apply Kd.R_drew)); exact HO_235004.out)); (case aS => exact (below_size (by repeat (first | (with_reducible first | exact HB.out | apply below_alloc | apply pw_below_drewN | apply below_drew1 | refine below_set ?_ GE218.out | refine below_set ?_ GE219.out | refine below_set ?_ GE234.out) | exact HB.out)))); (case aL => have := LMc60.out; omega); intro v244 w84 ho hb hg hat; rw [← Ny243.out] at ho; have n0_ := Aside0.mk (Kd.R_after (ok := (fun _ => True)) (by (with_reducible repeat (first | apply Kd.R_alloc | apply Kd.R_drewN | apply Kd.R_drew)); exact Kd.R_mono HO_235005.out (fun _ hk => ⟨trivial, hk⟩)) hg hat); have n1_ := Aside0.mk (Kd.R_over' (by (with_reducible repeat (first | apply Kd.R_alloc | apply Kd.R_drewN | apply Kd.R_drew)); exact HO_235006.out) (Kd.R_typed (by (with_reducible repeat (first | apply Kd.R_alloc | apply Kd.R_drewN | apply Kd.R_drew)); exact HO_235004.out)) (by decide) hg); have n2_ := Aside0.mk (blk_grown (g := gb218) (o := .cells #[.int .i64 a0_0, .int .i64 a0_1, .int .i64 a0_2, .string a0_3, .slice (some ad240) l0_4.length c0_4, .slice A0_5 l0_5.length c0_5, .slice A0_6 l0_6.length c0_6] 25 (0, 0)) (by (with_reducible repeat (first | refine blk_drewN ?_ _ | refine blk_drew ?_ | refine blk_alloc ?_ _)); exact BK218.out) hg (Kd.R_ne HO_235004.out BK218.out (by decide))); have n3_ := Aside0.mk (blk_grown (g := gb219) (o := .cells #[.int .i64 0, .int .i64 0, .int .i64 0, .string (⟨#[]⟩ : ByteArray), .slice none 0 0, .slice none 0 0, .slice none 0 0] 25 (0, 0)) (by (with_reducible repeat (first | refine blk_drewN ?_ _ | refine blk_drew ?_ | refine blk_alloc ?_ _)); exact BK219.out) hg (Kd.R_ne HO_235004.out BK219.out (by decide))); have n4_ := Aside0.mk (blk_grown (g := gb234) (o := .cells #[.int .i64 t221, .int .i64 t222, .int .i64 a2, .string a1, u235004, u235005, u235006] 25 (0, 0)) (by (with_reducible repeat (first | refine blk_drewN ?_ _ | refine blk_drew ?_ | refine blk_alloc ?_ _)); exact BK234.out) hg (Kd.R_ne HO_235004.out BK234.out (by decide))); have n5_ := Aside0.mk (hb); have n6_ := Aside0.mk (ho); clear HO_235005; clear HO_235006; clear BK218; clear BK219; clear BK234; clear HB; clear HO_235004; have HO_235005 := n0_; have HO_235006 := n1_; have BK218 := n2_; have BK219 := n3_; have BK234 := n4_; have HB := n5_; have HO245 := n6_; clear n0_ n1_ n2_ n3_ n4_ n5_ n6_; clear ho hb hg hat; obtain ⟨Ao85, co85, eo85⟩ := Kd.R_slice HO245.out; subst eo85; have hcz86_0 : w84.cell? ⟨gb234, 0, none⟩ = some (.int .i64 t221) := (blk_cell BK234.out 0).trans rfl; have hcz86_1 : w84.cell? ⟨gb234, 1, none⟩ = some (.int .i64 t222) := (blk_cell BK234.out 1).trans rfl; have hcz86_2 : w84.cell? ⟨gb234, 2, none⟩ = some (.int .i64 a2) := (blk_cell BK234.out 2).trans rfl; have hcz86_3 : w84.cell? ⟨gb234, 3, none⟩ = some (.string a1) := (blk_cell BK234.out 3).trans rfl; have hcz86_4 : w84.cell? ⟨gb234, 4, none⟩ = some (u235004) := (blk_cell BK234.out 4).trans rfl; have hcz86_5 : w84.cell? ⟨gb234, 5, none⟩ = some (u235005) := (blk_cell BK234.out 5).trans rfl; have hcz86_6 : w84.cell? ⟨gb234, 6, none⟩ = some (u235006) := (blk_cell BK234.out 6).trans rfl; have hfz86_0 := blk_frozen BK234.out 0; have hfz86_1 := blk_frozen BK234.out 1; have hfz86_2 := blk_frozen BK234.out 2; have hfz86_3 := blk_frozen BK234.out 3; have hfz86_4 := blk_frozen BK234.out 4; have hfz86_5 := blk_frozen BK234.out 5; have hfz86_6 := blk_frozen BK234.out 6; have hnb87 := NB218_219.out; have hnc87 := NB219_218.out; have hcz88_0 : w84.cell? ⟨gb218, 0, none⟩ = some (.int .i64 a0_0) := (blk_cell BK218.out 0).trans rfl; have hcz88_1 : w84.cell? ⟨gb218, 1, none⟩ = some (.int .i64 a0_1) := (blk_cell BK218.out 1).trans rfl; have hcz88_2 : w84.cell? ⟨gb218, 2, none⟩ = some (.int .i64 a0_2) := (blk_cell BK218.out 2).trans rfl; have hcz88_3 : w84.cell? ⟨gb218, 3, none⟩ = some (.string a0_3) := (blk_cell BK218.out 3).trans rfl; have hcz88_4 : w84.cell? ⟨gb218, 4, none⟩ = some (.slice (some ad240) l0_4.length c0_4) := (blk_cell BK218.out 4).trans rfl; have hcz88_5 : w84.cell? ⟨gb218, 5, none⟩ = some (.slice A0_5 l0_5.length c0_5) := (blk_cell BK218.out 5).trans rfl; have hcz88_6 : w84.cell? ⟨gb218, 6, none⟩ = some (.slice A0_6 l0_6.length c0_6) := (blk_cell BK218.out 6).trans rfl; have hfz88_0 := blk_frozen BK218.out 0; have hfz88_1 := blk_frozen BK218.out 1; have hfz88_2 := blk_frozen BK218.out 2; have hfz88_3 := blk_frozen BK218.out 3; have hfz88_4 := blk_frozen BK218.out 4; have hfz88_5 := blk_frozen BK218.out 5; have hfz88_6 := blk_frozen BK218.out 6))
              have n0_ : Aside0 (Kd.R Kd.string 9 (w84.setCell ⟨gb234, 4, none⟩ (.slice Ao85 y243.length co85)) w.heap.size (fun k_ => some k_ ≠ (.slice Ao85 y243.length co85 : Value).ownBlock) u235005 x235005_2) := ⟨by (with_reducible repeat (first | apply Kd.R_alloc | apply Kd.R_drewN | apply Kd.R_drew)); exact Kd.R_mono (Kd.R_far (p := ⟨gb234, 4, none⟩) (Kd.R_types HO_235005.out BK234.out (by decide)) (fun _ hk => hk.2) (.slice Ao85 y243.length co85)) (fun _ hk => hk.1.2)⟩
              have n1_ : Aside0 (Kd.R (Kd.int .i64) 3 (w84.setCell ⟨gb234, 4, none⟩ (.slice Ao85 y243.length co85)) w.heap.size (fun _ => True) u235006 x235006_2) := ⟨by (with_reducible repeat (first | apply Kd.R_alloc | apply Kd.R_drewN | apply Kd.R_drew)); exact Kd.R_mono (Kd.R_far (p := ⟨gb234, 4, none⟩) (Kd.R_types HO_235006.out BK234.out (by decide)) (fun _ hk => hk.2) (.slice Ao85 y243.length co85)) (fun _ hk => trivial)⟩
              have n2_ : Aside0 (Kd.R Kd.string 9 (w84.setCell ⟨gb234, 4, none⟩ (.slice Ao85 y243.length co85)) w.heap.size (fun k_ => some k_ ≠ (u235005 : Value).ownBlock) (.slice Ao85 y243.length co85) y243) := ⟨by (with_reducible repeat (first | apply Kd.R_alloc | apply Kd.R_drewN | apply Kd.R_drew)); exact Kd.R_mono (Kd.R_far (p := ⟨gb234, 4, none⟩) (Kd.R_types HO245.out BK234.out (by decide)) (fun _ hk => hk.2) (.slice Ao85 y243.length co85)) (fun _ hk => hk.1)⟩
              have n3_ : Aside0 ((w84.setCell ⟨gb234, 4, none⟩ (.slice Ao85 y243.length co85)).heap[gb218]? = some (.cells #[.int .i64 a0_0, .int .i64 a0_1, .int .i64 a0_2, .string a0_3, .slice (some ad240) l0_4.length c0_4, .slice A0_5 l0_5.length c0_5, .slice A0_6 l0_6.length c0_6] 25 (0, 0))) := ⟨by (with_reducible repeat (first | refine blk_drewN ?_ _ | refine blk_drew ?_ | refine blk_alloc ?_ _)); refine blk_far ?_ NB218_234.out _; (with_reducible repeat (first | refine blk_drewN ?_ _ | refine blk_drew ?_ | refine blk_alloc ?_ _)); exact BK218.out⟩
              have n4_ : Aside0 ((w84.setCell ⟨gb234, 4, none⟩ (.slice Ao85 y243.length co85)).heap[gb219]? = some (.cells #[.int .i64 0, .int .i64 0, .int .i64 0, .string (⟨#[]⟩ : ByteArray), .slice none 0 0, .slice none 0 0, .slice none 0 0] 25 (0, 0))) := ⟨by (with_reducible repeat (first | refine blk_drewN ?_ _ | refine blk_drew ?_ | refine blk_alloc ?_ _)); refine blk_far ?_ NB219_234.out _; (with_reducible repeat (first | refine blk_drewN ?_ _ | refine blk_drew ?_ | refine blk_alloc ?_ _)); exact BK219.out⟩
              have n5_ : Aside0 ((w84.setCell ⟨gb234, 4, none⟩ (.slice Ao85 y243.length co85)).heap[gb234]? = some (.cells #[.int .i64 t221, .int .i64 t222, .int .i64 a2, .string a1, .slice Ao85 y243.length co85, u235005, u235006] 25 (0, 0))) := ⟨by (with_reducible repeat (first | refine blk_drewN ?_ _ | refine blk_drew ?_ | refine blk_alloc ?_ _)); refine blk_put (cs := #[.int .i64 t221, .int .i64 t222, .int .i64 a2, .string a1, u235004, u235005, u235006]) ?_ 4 _ rfl; (with_reducible repeat (first | refine blk_drewN ?_ _ | refine blk_drew ?_ | refine blk_alloc ?_ _)); exact BK234.out⟩
              have n6_ : Aside0 (Below w.heap.size w (w84.setCell ⟨gb234, 4, none⟩ (.slice Ao85 y243.length co85))) := ⟨by repeat (first | (with_reducible first | exact HB.out | apply below_alloc | apply pw_below_drewN | apply below_drew1 | refine below_set ?_ GE218.out | refine below_set ?_ GE219.out | refine below_set ?_ GE234.out) | exact HB.out)⟩
              (try clear HO_235005)
              (try clear HO_235006)
              (try clear HO245)
              (try clear BK218)
              (try clear BK219)
              (try clear BK234)
              (try clear HB)
              generalize (w84.setCell ⟨gb234, 4, none⟩ (.slice Ao85 y243.length co85)) = w89 at n0_ n1_ n2_ n3_ n4_ n5_ n6_ ⊢
              have HO_235005 := n0_
              have HO_235006 := n1_
              have HO245 := n2_
              have BK218 := n3_
              have BK219 := n4_
              have BK234 := n5_
              have HB := n6_
              clear n0_ n1_ n2_ n3_ n4_ n5_ n6_
              have n0_ := Aside0.mk (Kd.R_drew HO_235005.out)
              have n1_ := Aside0.mk (Kd.R_drew HO_235006.out)
              have n2_ := Aside0.mk (Kd.R_drew HO245.out)
              have n3_ := Aside0.mk (blk_drew BK218.out)
              have n4_ := Aside0.mk (blk_drew BK219.out)
              have n5_ := Aside0.mk (blk_drew BK234.out)
              have n6_ := Aside0.mk (below_drew1 HB.out)
              clear HO_235005
              clear HO_235006
              clear HO245
              clear BK218
              clear BK219
              clear BK234
              clear HB
              have HO_235005 := n0_
              have HO_235006 := n1_
              have HO245 := n2_
              have BK218 := n3_
              have BK219 := n4_
              have BK234 := n5_
              have HB := n6_
              clear n0_ n1_ n2_ n3_ n4_ n5_ n6_
              have p250 : 0 ≤ (x41_2 : Int) := of_decide_eq_true (by first | (with_reducible assumption) | assumption)
              have q250 : x41_2 < (l0_5.length : Int) := of_decide_eq_true (by first | (with_reducible assumption) | assumption)
              obtain ⟨ad250, e250, hx250_0⟩ := Kd.at_string HR0_5.out x41_2 p250 q250
              have hw250_0 := hx250_0
              cases e250
              replace hx250_0 := (HB.out.cell (World.block_lt_of_cell? w _ hx250_0)).trans hx250_0
              replace p250 := eq_true p250
              replace q250 := eq_true q250
              refine start_ (n := 11) (S := fun w' => w'.cell? ⟨gb234, 0, none⟩ = some (.int .i64 t221) ∧ w'.cell? ⟨gb234, 1, none⟩ = some (.int .i64 t222) ∧ w'.cell? ⟨gb234, 2, none⟩ = some (.int .i64 a2) ∧ w'.cell? ⟨gb234, 3, none⟩ = some (.string a1) ∧ w'.cell? ⟨gb234, 4, none⟩ = some (.slice Ao85 y243.length co85) ∧ w'.cell? ⟨gb234, 5, none⟩ = some (u235005) ∧ w'.cell? ⟨gb234, 6, none⟩ = some (u235006) ∧ w'.cell? ⟨gb218, 0, none⟩ = some (.int .i64 a0_0) ∧ w'.cell? ⟨gb218, 1, none⟩ = some (.int .i64 a0_1) ∧ w'.cell? ⟨gb218, 2, none⟩ = some (.int .i64 a0_2) ∧ w'.cell? ⟨gb218, 3, none⟩ = some (.string a0_3) ∧ w'.cell? ⟨gb218, 4, none⟩ = some (.slice (some ad240) l0_4.length c0_4) ∧ w'.cell? ⟨gb218, 5, none⟩ = some (.slice (some ad250) l0_5.length c0_5) ∧ w'.cell? ⟨gb218, 6, none⟩ = some (.slice A0_6 l0_6.length c0_6) ∧ w'.cell? (ad250.add (x41_2).toNat) = some (.string (rdOf ByteArray.empty l0_5 x41_2))) (ds := [10]) #[false, false, false, false, false, false, false, false, false, false, false] (by kernel_rfl) rfl rfl ⟨(blk_cell BK234.out 0).trans rfl, (blk_cell BK234.out 1).trans rfl, (blk_cell BK234.out 2).trans rfl, (blk_cell BK234.out 3).trans rfl, (blk_cell BK234.out 4).trans rfl, (blk_cell BK234.out 5).trans rfl, (blk_cell BK234.out 6).trans rfl, (blk_cell BK218.out 0).trans rfl, (blk_cell BK218.out 1).trans rfl, (blk_cell BK218.out 2).trans rfl, (blk_cell BK218.out 3).trans rfl, (blk_cell BK218.out 4).trans rfl, (blk_cell BK218.out 5).trans rfl, (blk_cell BK218.out 6).trans rfl, ((HB.out.cell (World.block_lt_of_cell? w _ hw250_0)).trans hw250_0)⟩ (fun hHeld => ?_); refine with_tabW latticeref07_Left.tab16 latticeref07_Left.bits16 (fun HT_ HW_ => ?_)
              generalize w89.drew = w90 at HO_235005 HO_235006 HO245 BK218 BK219 BK234 HB hx250_0 hHeld ⊢
              refine pure_ (i := 0) (N := some 70) (v := ?_) (a' := ?_) #[true, false, false, false, false, false, false, false, false, false, false] rfl rfl (any_of HT_.out (by kernel_rfl)) (fun _ _ _ h => h) (Or.inl ⟨by rfl, ?_⟩) ?_ ?_
              rotate_left
              ·intro w'
               go_simp
               with_reducible rfl
              rotate_left
              ·simp only [Act.put, List.setIfInBounds_toArray, List.set_cons_zero, List.set_cons_succ, i64_w, i32_w]
               rfl
              refine pure_ (i := 2) (N := some 72) (v := ?_) (a' := ?_) #[true, false, true, false, false, false, false, false, false, false, false] rfl rfl (any_of HT_.out (by kernel_rfl)) (fun _ _ _ h => h) (Or.inl ⟨by rfl, ?_⟩) ?_ ?_
              rotate_left
              ·intro w'
               go_simp
               with_reducible rfl
              rotate_left
              ·simp only [Act.put, List.setIfInBounds_toArray, List.set_cons_zero, List.set_cons_succ, i64_w, i32_w]
               rfl
              refine pure_ (i := 4) (N := some 74) (v := ?_) (a' := ?_) #[true, false, true, false, true, false, false, false, false, false, false] rfl rfl (any_of HT_.out (by kernel_rfl)) (fun _ _ _ h => h) (Or.inl ⟨by rfl, ?_⟩) ?_ ?_
              rotate_left
              ·intro w'
               go_simp
               with_reducible rfl
              rotate_left
              ·simp only [Act.put, List.setIfInBounds_toArray, List.set_cons_zero, List.set_cons_succ, i64_w, i32_w]
               rfl
              refine take_ (i := 1) (N := some 71) (v := ?_) (a' := ?_) #[true, true, true, false, true, false, false, false, false, false, false] rfl rfl (take_ofW HT_.out HW_.out (by kernel_rfl)) (fun _ _ _ h => h) (Or.inl ⟨by rfl, ?_⟩) hHeld ?_ ?_
              rotate_left
              ·rintro w' ⟨s0, s1, s2, s3, s4, s5, s6, s7, s8, s9, s10, s11, s12, s13, s14⟩
               go_simp
               with_reducible rfl
              rotate_left
              ·simp only [Act.put, List.setIfInBounds_toArray, List.set_cons_zero, List.set_cons_succ, i64_w, i32_w]
               rfl
              refine take_ (i := 3) (N := some 73) (v := ?_) (a' := ?_) #[true, true, true, true, true, false, false, false, false, false, false] rfl rfl (take_ofW HT_.out HW_.out (by kernel_rfl)) (fun _ _ _ h => h) (Or.inl ⟨by rfl, ?_⟩) hHeld ?_ ?_
              rotate_left
              ·rintro w' ⟨s0, s1, s2, s3, s4, s5, s6, s7, s8, s9, s10, s11, s12, s13, s14⟩
               go_simp
               with_reducible rfl
              rotate_left
              ·simp only [Act.put, List.setIfInBounds_toArray, List.set_cons_zero, List.set_cons_succ, i64_w, i32_w]
               rfl
              refine pure_ (i := 5) (N := some 75) (v := ?_) (a' := ?_) #[true, true, true, true, true, true, false, false, false, false, false] rfl rfl (any_of HT_.out (by kernel_rfl)) (fun _ _ _ h => h) (Or.inl ⟨by rfl, ?_⟩) ?_ ?_
              rotate_left
              ·intro w'
               go_simp
               with_reducible rfl
              rotate_left
              ·simp only [Act.put, List.setIfInBounds_toArray, List.set_cons_zero, List.set_cons_succ, i64_w, i32_w]
               rfl
              refine take_ (i := 6) (N := some 76) (v := ?_) (a' := ?_) #[true, true, true, true, true, true, true, false, false, false, false] rfl rfl (take_ofW HT_.out HW_.out (by kernel_rfl)) (fun _ _ _ h => h) (Or.inl ⟨by rfl, ?_⟩) hHeld ?_ ?_
              rotate_left
              ·rintro w' ⟨s0, s1, s2, s3, s4, s5, s6, s7, s8, s9, s10, s11, s12, s13, s14⟩
               go_simp
               with_reducible rfl
              rotate_left
              ·simp only [Act.put, List.setIfInBounds_toArray, List.set_cons_zero, List.set_cons_succ, i64_w, i32_w]
               rfl
              refine one_ (i := 7) (N := some 77) #[true, true, true, true, true, true, true, true, false, false, false] rfl rfl (one_of HT_.out (by kernel_rfl)) (by decide) (fun K hK => ?_)
              refine value_ (w1 := ?_) (v := ?_) (by rfl) rfl ?_ ?_
              rotate_left 2
              ·go_simp
               constructor
               ·rfl
               ·rfl
              refine hK.out _ _ ⟨(blk_cell (blk_alloc BK234.out _) 0).trans rfl, (blk_cell (blk_alloc BK234.out _) 1).trans rfl, (blk_cell (blk_alloc BK234.out _) 2).trans rfl, (blk_cell (blk_alloc BK234.out _) 3).trans rfl, (blk_cell (blk_alloc BK234.out _) 4).trans rfl, (blk_cell (blk_alloc BK234.out _) 5).trans rfl, (blk_cell (blk_alloc BK234.out _) 6).trans rfl, (blk_cell (blk_alloc BK218.out _) 0).trans rfl, (blk_cell (blk_alloc BK218.out _) 1).trans rfl, (blk_cell (blk_alloc BK218.out _) 2).trans rfl, (blk_cell (blk_alloc BK218.out _) 3).trans rfl, (blk_cell (blk_alloc BK218.out _) 4).trans rfl, (blk_cell (blk_alloc BK218.out _) 5).trans rfl, (blk_cell (blk_alloc BK218.out _) 6).trans rfl, (World.cell?_alloc_lt _ _ _ (World.block_lt_of_cell? _ _ (((HB.out.cell (World.block_lt_of_cell? w _ hw250_0)).trans hw250_0)))).trans (((HB.out.cell (World.block_lt_of_cell? w _ hw250_0)).trans hw250_0))⟩ (fun hHeld => ?_)
              clear hK K
              refine norm_ (a' := ?_) ?_ ?_
              rotate_left
              ·show Act.put _ (some 77) _ = _
               simp only [Act.put, List.setIfInBounds_toArray, List.set_cons_zero, List.set_cons_succ, i64_w, i32_w]
               rfl
              refine one_ (i := 8) (N := some 78) #[true, true, true, true, true, true, true, true, true, false, false] rfl rfl (one_of HT_.out (by kernel_rfl)) (by decide) (fun K hK => ?_)
              refine Kd.R_append_step Kd.string (w0 := w) w.heap.size (by rfl) (.tmp 71) (.tmp 77) 22 9 (.string ⟨#[]⟩) 16 rfl Try.underlying22 info9 rfl (by decide) (by omega) u235005 x235005_2 (rdOf ByteArray.empty l0_5 x41_2) [.string (rdOf ByteArray.empty l0_5 x41_2)] (fun k_ => some k_ ≠ (.slice Ao85 y243.length co85 : Value).ownBlock) (fun _ => False) rfl rfl ?aP (fun _ hk => hk.elim) ?aF ?aO ?aB ?aS ?aL ?_
              (case aP => exact rfl)
              (case aB => exact (by repeat (first | (with_reducible first | exact HB.out | apply below_alloc | apply pw_below_drewN | apply below_drew1 | refine below_set ?_ GE218.out | refine below_set ?_ GE219.out | refine below_set ?_ GE234.out) | exact HB.out)))
              (case aF => exact (fun k_ hk => Kd.fresh' (Kd.R_lt (by (with_reducible repeat (first | apply Kd.R_alloc | apply Kd.R_drewN | apply Kd.R_drew)); exact HO245.out)) k_ hk))
              (case aO => exact (by (with_reducible repeat (first | apply Kd.R_alloc | apply Kd.R_drewN | apply Kd.R_drew)); exact HO_235005.out))
              (case aS => exact (below_size (by repeat (first | (with_reducible first | exact HB.out | apply below_alloc | apply pw_below_drewN | apply below_drew1 | refine below_set ?_ GE218.out | refine below_set ?_ GE219.out | refine below_set ?_ GE234.out) | exact HB.out))))
              (case aL => have := LMc80.out; omega)
              intro v252 w91 ho hb hg hat
              rw [← Ny251.out] at ho
              have n0_ := Aside0.mk (Kd.R_over' (by (with_reducible repeat (first | apply Kd.R_alloc | apply Kd.R_drewN | apply Kd.R_drew)); exact HO_235006.out) (Kd.R_typed (by (with_reducible repeat (first | apply Kd.R_alloc | apply Kd.R_drewN | apply Kd.R_drew)); exact HO_235005.out)) (by decide) hg)
              have n1_ := Aside0.mk (blk_grown (g := gb218) (o := .cells #[.int .i64 a0_0, .int .i64 a0_1, .int .i64 a0_2, .string a0_3, .slice (some ad240) l0_4.length c0_4, .slice (some ad250) l0_5.length c0_5, .slice A0_6 l0_6.length c0_6] 25 (0, 0)) (by (with_reducible repeat (first | refine blk_drewN ?_ _ | refine blk_drew ?_ | refine blk_alloc ?_ _)); exact BK218.out) hg (Kd.R_ne HO_235005.out BK218.out (by decide)))
              have n2_ := Aside0.mk (blk_grown (g := gb219) (o := .cells #[.int .i64 0, .int .i64 0, .int .i64 0, .string (⟨#[]⟩ : ByteArray), .slice none 0 0, .slice none 0 0, .slice none 0 0] 25 (0, 0)) (by (with_reducible repeat (first | refine blk_drewN ?_ _ | refine blk_drew ?_ | refine blk_alloc ?_ _)); exact BK219.out) hg (Kd.R_ne HO_235005.out BK219.out (by decide)))
              have n3_ := Aside0.mk (blk_grown (g := gb234) (o := .cells #[.int .i64 t221, .int .i64 t222, .int .i64 a2, .string a1, .slice Ao85 y243.length co85, u235005, u235006] 25 (0, 0)) (by (with_reducible repeat (first | refine blk_drewN ?_ _ | refine blk_drew ?_ | refine blk_alloc ?_ _)); exact BK234.out) hg (Kd.R_ne HO_235005.out BK234.out (by decide)))
              have n4_ := Aside0.mk (Kd.R_after (ok := (fun _ => True)) (by (with_reducible repeat (first | apply Kd.R_alloc | apply Kd.R_drewN | apply Kd.R_drew)); exact Kd.R_mono HO245.out (fun _ hk => ⟨trivial, hk⟩)) hg hat)
              have n5_ := Aside0.mk (hb)
              have n6_ := Aside0.mk (ho)
              clear HO_235006
              clear BK218
              clear BK219
              clear BK234
              clear HO245
              clear HB
              clear HO_235005
              have HO_235006 := n0_
              have BK218 := n1_
              have BK219 := n2_
              have BK234 := n3_
              have HO245 := n4_
              have HB := n5_
              have HO253 := n6_
              clear n0_ n1_ n2_ n3_ n4_ n5_ n6_
              clear ho hb hg hat
              obtain ⟨Ao92, co92, eo92⟩ := Kd.R_slice HO253.out
              (first | subst eo92 | (injection eo92 with f1_ f2_ f3_; have f4_ := f1_.symm; have f5_ := f3_.symm; clear f1_ f2_ f3_; subst f4_; subst f5_))
              refine hK.out _ _ ⟨(blk_cell BK234.out 0).trans rfl, (blk_cell BK234.out 1).trans rfl, (blk_cell BK234.out 2).trans rfl, (blk_cell BK234.out 3).trans rfl, (blk_cell BK234.out 4).trans rfl, (blk_cell BK234.out 5).trans rfl, (blk_cell BK234.out 6).trans rfl, (blk_cell BK218.out 0).trans rfl, (blk_cell BK218.out 1).trans rfl, (blk_cell BK218.out 2).trans rfl, (blk_cell BK218.out 3).trans rfl, (blk_cell BK218.out 4).trans rfl, (blk_cell BK218.out 5).trans rfl, (blk_cell BK218.out 6).trans rfl, ((HB.out.cell (World.block_lt_of_cell? w _ hw250_0)).trans hw250_0)⟩ (fun hHeld => ?_)
              clear hK K
              refine norm_ (a' := ?_) ?_ ?_
              rotate_left
              ·show Act.put _ (some 78) _ = _
               simp only [Act.put, List.setIfInBounds_toArray, List.set_cons_zero, List.set_cons_succ, i64_w, i32_w]
               rfl
              refine pure_ (i := 9) (N := some 79) (v := ?_) (a' := ?_) #[true, true, true, true, true, true, true, true, true, true, false] rfl rfl (any_of HT_.out (by kernel_rfl)) (fun _ _ _ h => h) (Or.inl ⟨by rfl, ?_⟩) ?_ ?_
              rotate_left
              ·intro w'
               go_simp
               with_reducible rfl
              rotate_left
              ·simp only [Act.put, List.setIfInBounds_toArray, List.set_cons_zero, List.set_cons_succ, i64_w, i32_w]
               rfl
              refine last_ (i := 10) (N := none) #[true, true, true, true, true, true, true, true, true, true, true] rfl rfl (one_of HT_.out (by kernel_rfl)) (by decide) (fun K hK => ?_)
              have hs93 : w91.cell? ⟨gb234, 5, none⟩ = some (u235005) := (blk_cell BK234.out 5).trans rfl
              have hfs93 := blk_frozen BK234.out 5
              have hns93_0 := NB218_234.out
              have hns93_1 := NB219_234.out
              have hms93_0 := NB234_218.out
              have hms93_1 := NB234_219.out
              refine skip_ (w1 := ?_) (by rfl) rfl ?_ ?_
              rotate_left
              ·go_simp
               rfl
              refine hK.out _ _ ?_
              clear hK K
              refine done_ (done_of HT_.out (by kernel_rfl)) ?_
              try go_wp2
              go_roundg k2
              case measure => have := HJ6.out; have := HK2.out; omega
              case rel => exact ⟨(wrap64 (x41_2 + 1)), (y243), (y251), (x235006_2), (.slice Ao85 y243.length co85), (.slice Ao92 y251.length co92), (u235006), (by first | rfl | (simp; done) | (simp [*]; done)), H', ⟨by have := HJ6.out; have := HK2.out; omega⟩, ⟨by (with_reducible repeat (first | apply Kd.R_alloc | apply Kd.R_drewN | apply Kd.R_drew)); exact Kd.R_mono (Kd.R_far (p := ⟨gb234, 5, none⟩) (Kd.R_types HO245.out BK234.out (by decide)) (fun _ hk => hk.2) (.slice Ao92 y251.length co92)) (fun _ hk => hk.1.2)⟩, ⟨by (with_reducible repeat (first | apply Kd.R_alloc | apply Kd.R_drewN | apply Kd.R_drew)); exact Kd.R_mono (Kd.R_far (p := ⟨gb234, 5, none⟩) (Kd.R_types HO253.out BK234.out (by decide)) (fun _ hk => hk.2) (.slice Ao92 y251.length co92)) (fun _ hk => hk.1)⟩, ⟨by (with_reducible repeat (first | apply Kd.R_alloc | apply Kd.R_drewN | apply Kd.R_drew)); exact Kd.R_mono (Kd.R_far (p := ⟨gb234, 5, none⟩) (Kd.R_types HO_235006.out BK234.out (by decide)) (fun _ hk => hk.2) (.slice Ao92 y251.length co92)) (fun _ hk => trivial)⟩, ⟨by (with_reducible repeat (first | refine blk_drewN ?_ _ | refine blk_drew ?_ | refine blk_alloc ?_ _)); refine blk_far ?_ NB218_234.out _; (with_reducible repeat (first | refine blk_drewN ?_ _ | refine blk_drew ?_ | refine blk_alloc ?_ _)); exact BK218.out⟩, ⟨by (with_reducible repeat (first | refine blk_drewN ?_ _ | refine blk_drew ?_ | refine blk_alloc ?_ _)); refine blk_far ?_ NB219_234.out _; (with_reducible repeat (first | refine blk_drewN ?_ _ | refine blk_drew ?_ | refine blk_alloc ?_ _)); exact BK219.out⟩, ⟨by (with_reducible repeat (first | refine blk_drewN ?_ _ | refine blk_drew ?_ | refine blk_alloc ?_ _)); refine blk_put (cs := #[.int .i64 t221, .int .i64 t222, .int .i64 a2, .string a1, .slice Ao85 y243.length co85, u235005, u235006]) ?_ 5 _ rfl; (with_reducible repeat (first | refine blk_drewN ?_ _ | refine blk_drew ?_ | refine blk_alloc ?_ _)); exact BK234.out⟩, ⟨by repeat (first | (with_reducible first | exact HB.out | apply below_alloc | apply pw_below_drewN | apply below_drew1 | refine below_set ?_ GE218.out | refine below_set ?_ GE219.out | refine below_set ?_ GE234.out) | exact HB.out)⟩⟩
             ·rw [if_neg c80] at H
              exact absurd H (by simp)
            ·rw [if_neg c79] at H
             exact absurd H (by simp)
          ·rw [if_neg c60] at H
           exact absurd H (by simp)
        ·rw [if_neg c36] at H
         exact absurd H (by simp)
       ·rw [if_neg c35] at H
        exact absurd H (by simp)
      ·rw [if_neg c34] at H
       have c34b0 : decide (x41_2 < (l0_4.length : Int)) = false := decide_eq_false c34
       clear c34
       replace H := Option.bind_eq_some_iff.mp H
       obtain ⟨t239, A940, H⟩ := H
       try dsimp only at H
       have A94 := Aside0.mk A940
       clear A940
       by_cases c95 : t239 = true
       ·subst c95
        have H1 : (some (t221, t222, a2, a1, x235004_2, x235005_2, x235006_2, 0)) = some (r1, r2, r3, r4, r5, r6, r7, r8) := by rw [if_pos rfl] at H; exact H
        clear H
        have H := H1
        clear H1
        simp only [Option.some.injEq, Prod.mk.injEq] at H
        obtain ⟨rfl, rfl, rfl, rfl, rfl, rfl, rfl, rfl⟩ := H
        have hnb96 := NB234_218.out
        have hnc96 := NB218_234.out
        have hnb97 := NB234_219.out
        have hnc97 := NB219_234.out
        have hcz98_0 : wr.cell? ⟨gb234, 0, none⟩ = some (.int .i64 t221) := (blk_cell BK234.out 0).trans rfl
        have hcz98_1 : wr.cell? ⟨gb234, 1, none⟩ = some (.int .i64 t222) := (blk_cell BK234.out 1).trans rfl
        have hcz98_2 : wr.cell? ⟨gb234, 2, none⟩ = some (.int .i64 a2) := (blk_cell BK234.out 2).trans rfl
        have hcz98_3 : wr.cell? ⟨gb234, 3, none⟩ = some (.string a1) := (blk_cell BK234.out 3).trans rfl
        have hcz98_4 : wr.cell? ⟨gb234, 4, none⟩ = some (u235004) := (blk_cell BK234.out 4).trans rfl
        have hcz98_5 : wr.cell? ⟨gb234, 5, none⟩ = some (u235005) := (blk_cell BK234.out 5).trans rfl
        have hcz98_6 : wr.cell? ⟨gb234, 6, none⟩ = some (u235006) := (blk_cell BK234.out 6).trans rfl
        have hfz98_0 := blk_frozen BK234.out 0
        have hfz98_1 := blk_frozen BK234.out 1
        have hfz98_2 := blk_frozen BK234.out 2
        have hfz98_3 := blk_frozen BK234.out 3
        have hfz98_4 := blk_frozen BK234.out 4
        have hfz98_5 := blk_frozen BK234.out 5
        have hfz98_6 := blk_frozen BK234.out 6
        obtain ⟨Ao99, co99, eo99⟩ := Kd.R_slice HO_235004.out
        subst eo99
        obtain ⟨Ao100, co100, eo100⟩ := Kd.R_slice HO_235005.out
        subst eo100
        obtain ⟨Ao101, co101, eo101⟩ := Kd.R_slice HO_235006.out
        subst eo101
        go_wp2_with (first | ((with_reducible refine gate_callee (f := 24) rfl ?_); refine goesL_ (some 82) rfl rfl Try.func24 (by kernel_rfl) rfl #[.agg #[.int .i64 t221, .int .i64 t222, .int .i64 a2, .string a1, .slice Ao99 x235004_2.length co99, .slice Ao100 x235005_2.length co100, .slice Ao101 x235006_2.length co101]] rfl (by (try simp only [List.map_toArray, List.map_cons, List.map_nil]); first | done | rfl | (simp only [List.length_drop, List.length_take]; rfl)) ?_; (with_reducible refine (latticeref06_Right.calls k2 t221 t222 a2 a1 _ _ x235004_2 _ _ x235005_2 _ _ x235006_2 true _ ?side1 ?side2 ?side3 ?side4 ?side5 ?side6 A94.out).mono ?_); (case side1 => repeat (first | exact (Kd.R_reads' HO_235004.out).2.2 | (with_reducible refine Kd.C_alloc ?_ _) | (with_reducible refine Kd.C_drewN ?_ _) | (with_reducible refine Kd.C_drew ?_))); (case side2 => exact (Kd.R_reads' HO_235004.out).2.1); (case side3 => repeat (first | exact (Kd.R_reads' HO_235005.out).2.2 | (with_reducible refine Kd.C_alloc ?_ _) | (with_reducible refine Kd.C_drewN ?_ _) | (with_reducible refine Kd.C_drew ?_))); (case side4 => exact (Kd.R_reads' HO_235005.out).2.1); (case side5 => repeat (first | exact (Kd.R_reads' HO_235006.out).2.2 | (with_reducible refine Kd.C_alloc ?_ _) | (with_reducible refine Kd.C_drewN ?_ _) | (with_reducible refine Kd.C_drew ?_))); (case side6 => exact (Kd.R_reads' HO_235006.out).2.1); rintro e w102 ⟨rfl, hb⟩; refine ⟨_, rfl, ?_⟩; have n0_ := Aside0.mk (Kd.R_below (by (with_reducible repeat (first | apply Kd.R_alloc | apply Kd.R_drewN | apply Kd.R_drew)); exact HO_235004.out) hb); have n1_ := Aside0.mk (Kd.R_below (by (with_reducible repeat (first | apply Kd.R_alloc | apply Kd.R_drewN | apply Kd.R_drew)); exact HO_235005.out) hb); have n2_ := Aside0.mk (Kd.R_below (by (with_reducible repeat (first | apply Kd.R_alloc | apply Kd.R_drewN | apply Kd.R_drew)); exact HO_235006.out) hb); have n3_ := Aside0.mk (blk_below (g := gb218) (o := .cells #[.int .i64 a0_0, .int .i64 a0_1, .int .i64 a0_2, .string a0_3, .slice A0_4 l0_4.length c0_4, .slice A0_5 l0_5.length c0_5, .slice A0_6 l0_6.length c0_6] 25 (0, 0)) (by (with_reducible repeat (first | refine blk_drewN ?_ _ | refine blk_drew ?_ | refine blk_alloc ?_ _)); exact BK218.out) hb); have n4_ := Aside0.mk (blk_below (g := gb219) (o := .cells #[.int .i64 0, .int .i64 0, .int .i64 0, .string (⟨#[]⟩ : ByteArray), .slice none 0 0, .slice none 0 0, .slice none 0 0] 25 (0, 0)) (by (with_reducible repeat (first | refine blk_drewN ?_ _ | refine blk_drew ?_ | refine blk_alloc ?_ _)); exact BK219.out) hb); have n5_ := Aside0.mk (blk_below (g := gb234) (o := .cells #[.int .i64 t221, .int .i64 t222, .int .i64 a2, .string a1, .slice Ao99 x235004_2.length co99, .slice Ao100 x235005_2.length co100, .slice Ao101 x235006_2.length co101] 25 (0, 0)) (by (with_reducible repeat (first | refine blk_drewN ?_ _ | refine blk_drew ?_ | refine blk_alloc ?_ _)); exact BK234.out) hb); have n6_ := Aside0.mk (below_step (by repeat (first | (with_reducible first | exact HB.out | apply below_alloc | apply pw_below_drewN | apply below_drew1 | refine below_set ?_ GE218.out | refine below_set ?_ GE219.out | refine below_set ?_ GE234.out) | exact HB.out)) hb); clear HO_235004; clear HO_235005; clear HO_235006; clear BK218; clear BK219; clear BK234; clear HB; have HO_235004 := n0_; have HO_235005 := n1_; have HO_235006 := n2_; have BK218 := n3_; have BK219 := n4_; have BK234 := n5_; have HB := n6_; clear n0_ n1_ n2_ n3_ n4_ n5_ n6_; (try clear hb); (try clear hb2); (try clear hk); (try clear hi); have hcz103_0 : w102.cell? ⟨gb234, 0, none⟩ = some (.int .i64 t221) := (blk_cell BK234.out 0).trans rfl; have hcz103_1 : w102.cell? ⟨gb234, 1, none⟩ = some (.int .i64 t222) := (blk_cell BK234.out 1).trans rfl; have hcz103_2 : w102.cell? ⟨gb234, 2, none⟩ = some (.int .i64 a2) := (blk_cell BK234.out 2).trans rfl; have hcz103_3 : w102.cell? ⟨gb234, 3, none⟩ = some (.string a1) := (blk_cell BK234.out 3).trans rfl; have hcz103_4 : w102.cell? ⟨gb234, 4, none⟩ = some (.slice Ao99 x235004_2.length co99) := (blk_cell BK234.out 4).trans rfl; have hcz103_5 : w102.cell? ⟨gb234, 5, none⟩ = some (.slice Ao100 x235005_2.length co100) := (blk_cell BK234.out 5).trans rfl; have hcz103_6 : w102.cell? ⟨gb234, 6, none⟩ = some (.slice Ao101 x235006_2.length co101) := (blk_cell BK234.out 6).trans rfl; have hfz103_0 := blk_frozen BK234.out 0; have hfz103_1 := blk_frozen BK234.out 1; have hfz103_2 := blk_frozen BK234.out 2; have hfz103_3 := blk_frozen BK234.out 3; have hfz103_4 := blk_frozen BK234.out 4; have hfz103_5 := blk_frozen BK234.out 5; have hfz103_6 := blk_frozen BK234.out 6; have hnb104 := NB219_218.out; have hnc104 := NB218_219.out; have hcz105_0 : w102.cell? ⟨gb219, 0, none⟩ = some (.int .i64 0) := (blk_cell BK219.out 0).trans rfl; have hcz105_1 : w102.cell? ⟨gb219, 1, none⟩ = some (.int .i64 0) := (blk_cell BK219.out 1).trans rfl; have hcz105_2 : w102.cell? ⟨gb219, 2, none⟩ = some (.int .i64 0) := (blk_cell BK219.out 2).trans rfl; have hcz105_3 : w102.cell? ⟨gb219, 3, none⟩ = some (.string (⟨#[]⟩ : ByteArray)) := (blk_cell BK219.out 3).trans rfl; have hcz105_4 : w102.cell? ⟨gb219, 4, none⟩ = some (.slice none 0 0) := (blk_cell BK219.out 4).trans rfl; have hcz105_5 : w102.cell? ⟨gb219, 5, none⟩ = some (.slice none 0 0) := (blk_cell BK219.out 5).trans rfl; have hcz105_6 : w102.cell? ⟨gb219, 6, none⟩ = some (.slice none 0 0) := (blk_cell BK219.out 6).trans rfl; have hfz105_0 := blk_frozen BK219.out 0; have hfz105_1 := blk_frozen BK219.out 1; have hfz105_2 := blk_frozen BK219.out 2; have hfz105_3 := blk_frozen BK219.out 3; have hfz105_4 := blk_frozen BK219.out 4; have hfz105_5 := blk_frozen BK219.out 5; have hfz105_6 := blk_frozen BK219.out 6))
        refine bodyPost_ret (results_ct rfl _ _ gb219 25 #[.int .i64 t221, .int .i64 t222, .int .i64 a2, .string a1, .slice Ao99 x235004_2.length co99, .slice Ao100 x235005_2.length co100, .slice Ao101 x235006_2.length co101] (0, 0) _ rfl (by (with_reducible repeat (first | refine blk_drewN ?_ _ | refine blk_drew ?_ | refine blk_alloc ?_ _)); refine blk_put (cs := #[.int .i64 t221, .int .i64 t222, .int .i64 a2, .string a1, .slice Ao99 x235004_2.length co99, .slice Ao100 x235005_2.length co100, .slice none 0 0]) ?_ 6 _ rfl; (with_reducible repeat (first | refine blk_drewN ?_ _ | refine blk_drew ?_ | refine blk_alloc ?_ _)); refine blk_put (cs := #[.int .i64 t221, .int .i64 t222, .int .i64 a2, .string a1, .slice Ao99 x235004_2.length co99, .slice none 0 0, .slice none 0 0]) ?_ 5 _ rfl; (with_reducible repeat (first | refine blk_drewN ?_ _ | refine blk_drew ?_ | refine blk_alloc ?_ _)); refine blk_put (cs := #[.int .i64 t221, .int .i64 t222, .int .i64 a2, .string a1, .slice none 0 0, .slice none 0 0, .slice none 0 0]) ?_ 4 _ rfl; (with_reducible repeat (first | refine blk_drewN ?_ _ | refine blk_drew ?_ | refine blk_alloc ?_ _)); refine blk_put (cs := #[.int .i64 t221, .int .i64 t222, .int .i64 a2, .string (⟨#[]⟩ : ByteArray), .slice none 0 0, .slice none 0 0, .slice none 0 0]) ?_ 3 _ rfl; (with_reducible repeat (first | refine blk_drewN ?_ _ | refine blk_drew ?_ | refine blk_alloc ?_ _)); refine blk_put (cs := #[.int .i64 t221, .int .i64 t222, .int .i64 0, .string (⟨#[]⟩ : ByteArray), .slice none 0 0, .slice none 0 0, .slice none 0 0]) ?_ 2 _ rfl; (with_reducible repeat (first | refine blk_drewN ?_ _ | refine blk_drew ?_ | refine blk_alloc ?_ _)); refine blk_put (cs := #[.int .i64 t221, .int .i64 0, .int .i64 0, .string (⟨#[]⟩ : ByteArray), .slice none 0 0, .slice none 0 0, .slice none 0 0]) ?_ 1 _ rfl; (with_reducible repeat (first | refine blk_drewN ?_ _ | refine blk_drew ?_ | refine blk_alloc ?_ _)); refine blk_put (cs := #[.int .i64 0, .int .i64 0, .int .i64 0, .string (⟨#[]⟩ : ByteArray), .slice none 0 0, .slice none 0 0, .slice none 0 0]) ?_ 0 _ rfl; (with_reducible repeat (first | refine blk_drewN ?_ _ | refine blk_drew ?_ | refine blk_alloc ?_ _)); exact BK219.out) Try.underlying25 rfl (by kernel_rfl)) rfl ?_
        exact ⟨_, _, _, by first | rfl | (simp [errW_none, errW_some] <;> rfl) | (simp [*, errW_none, errW_some] <;> rfl), by (with_reducible repeat (first | apply Kd.R_alloc | apply Kd.R_drewN | apply Kd.R_drew)); exact Kd.R_mono (Kd.R_far (p := ⟨gb219, 6, none⟩) (Kd.R_far (p := ⟨gb219, 5, none⟩) (Kd.R_far (p := ⟨gb219, 4, none⟩) (Kd.R_far (p := ⟨gb219, 3, none⟩) (Kd.R_far (p := ⟨gb219, 2, none⟩) (Kd.R_far (p := ⟨gb219, 1, none⟩) (Kd.R_far (p := ⟨gb219, 0, none⟩) (Kd.R_types HO_235004.out BK219.out (by decide)) (fun _ hk => hk.2) (.int .i64 t221)) (fun _ hk => hk.2) (.int .i64 t222)) (fun _ hk => hk.2) (.int .i64 a2)) (fun _ hk => hk.2) (.string a1)) (fun _ hk => hk.2) (.slice Ao99 x235004_2.length co99)) (fun _ hk => hk.2) (.slice Ao100 x235005_2.length co100)) (fun _ hk => hk.2) (.slice Ao101 x235006_2.length co101)) (fun _ hk => hk.1), by (with_reducible repeat (first | apply Kd.R_alloc | apply Kd.R_drewN | apply Kd.R_drew)); exact Kd.R_mono (Kd.R_far (p := ⟨gb219, 6, none⟩) (Kd.R_far (p := ⟨gb219, 5, none⟩) (Kd.R_far (p := ⟨gb219, 4, none⟩) (Kd.R_far (p := ⟨gb219, 3, none⟩) (Kd.R_far (p := ⟨gb219, 2, none⟩) (Kd.R_far (p := ⟨gb219, 1, none⟩) (Kd.R_far (p := ⟨gb219, 0, none⟩) (Kd.R_types HO_235005.out BK219.out (by decide)) (fun _ hk => hk.2) (.int .i64 t221)) (fun _ hk => hk.2) (.int .i64 t222)) (fun _ hk => hk.2) (.int .i64 a2)) (fun _ hk => hk.2) (.string a1)) (fun _ hk => hk.2) (.slice Ao99 x235004_2.length co99)) (fun _ hk => hk.2) (.slice Ao100 x235005_2.length co100)) (fun _ hk => hk.2) (.slice Ao101 x235006_2.length co101)) (fun _ hk => hk.1), by (with_reducible repeat (first | apply Kd.R_alloc | apply Kd.R_drewN | apply Kd.R_drew)); exact Kd.R_mono (Kd.R_far (p := ⟨gb219, 6, none⟩) (Kd.R_far (p := ⟨gb219, 5, none⟩) (Kd.R_far (p := ⟨gb219, 4, none⟩) (Kd.R_far (p := ⟨gb219, 3, none⟩) (Kd.R_far (p := ⟨gb219, 2, none⟩) (Kd.R_far (p := ⟨gb219, 1, none⟩) (Kd.R_far (p := ⟨gb219, 0, none⟩) (Kd.R_types HO_235006.out BK219.out (by decide)) (fun _ hk => hk.2) (.int .i64 t221)) (fun _ hk => hk.2) (.int .i64 t222)) (fun _ hk => hk.2) (.int .i64 a2)) (fun _ hk => hk.2) (.string a1)) (fun _ hk => hk.2) (.slice Ao99 x235004_2.length co99)) (fun _ hk => hk.2) (.slice Ao100 x235005_2.length co100)) (fun _ hk => hk.2) (.slice Ao101 x235006_2.length co101)) (fun _ hk => trivial), by repeat (first | (with_reducible first | exact HB.out | apply below_alloc | apply pw_below_drewN | apply below_drew1 | refine below_set ?_ GE218.out | refine below_set ?_ GE219.out | refine below_set ?_ GE234.out) | exact HB.out)⟩
       ·replace c95 := Bool.eq_false_iff.mpr c95
        subst c95
        have H1 : (some (0, 0, 0, (⟨#[]⟩ : ByteArray), ([] : List ByteArray), ([] : List ByteArray), ([] : List Int), 5)) = some (r1, r2, r3, r4, r5, r6, r7, r8) := by rw [if_neg (show ¬ (false = true) by decide)] at H; exact H
        clear H
        have H := H1
        clear H1
        simp only [Option.some.injEq, Prod.mk.injEq] at H
        obtain ⟨rfl, rfl, rfl, rfl, rfl, rfl, rfl, rfl⟩ := H
        have hnb106 := NB234_218.out
        have hnc106 := NB218_234.out
        have hnb107 := NB234_219.out
        have hnc107 := NB219_234.out
        have hcz108_0 : wr.cell? ⟨gb234, 0, none⟩ = some (.int .i64 t221) := (blk_cell BK234.out 0).trans rfl
        have hcz108_1 : wr.cell? ⟨gb234, 1, none⟩ = some (.int .i64 t222) := (blk_cell BK234.out 1).trans rfl
        have hcz108_2 : wr.cell? ⟨gb234, 2, none⟩ = some (.int .i64 a2) := (blk_cell BK234.out 2).trans rfl
        have hcz108_3 : wr.cell? ⟨gb234, 3, none⟩ = some (.string a1) := (blk_cell BK234.out 3).trans rfl
        have hcz108_4 : wr.cell? ⟨gb234, 4, none⟩ = some (u235004) := (blk_cell BK234.out 4).trans rfl
        have hcz108_5 : wr.cell? ⟨gb234, 5, none⟩ = some (u235005) := (blk_cell BK234.out 5).trans rfl
        have hcz108_6 : wr.cell? ⟨gb234, 6, none⟩ = some (u235006) := (blk_cell BK234.out 6).trans rfl
        have hfz108_0 := blk_frozen BK234.out 0
        have hfz108_1 := blk_frozen BK234.out 1
        have hfz108_2 := blk_frozen BK234.out 2
        have hfz108_3 := blk_frozen BK234.out 3
        have hfz108_4 := blk_frozen BK234.out 4
        have hfz108_5 := blk_frozen BK234.out 5
        have hfz108_6 := blk_frozen BK234.out 6
        obtain ⟨Ao109, co109, eo109⟩ := Kd.R_slice HO_235004.out
        subst eo109
        obtain ⟨Ao110, co110, eo110⟩ := Kd.R_slice HO_235005.out
        subst eo110
        obtain ⟨Ao111, co111, eo111⟩ := Kd.R_slice HO_235006.out
        subst eo111
        go_wp2_with (first | ((with_reducible refine gate_callee (f := 24) rfl ?_); refine goesL_ (some 82) rfl rfl Try.func24 (by kernel_rfl) rfl #[.agg #[.int .i64 t221, .int .i64 t222, .int .i64 a2, .string a1, .slice Ao109 x235004_2.length co109, .slice Ao110 x235005_2.length co110, .slice Ao111 x235006_2.length co111]] rfl (by (try simp only [List.map_toArray, List.map_cons, List.map_nil]); first | done | rfl | (simp only [List.length_drop, List.length_take]; rfl)) ?_; (with_reducible refine (latticeref06_Right.calls k2 t221 t222 a2 a1 _ _ x235004_2 _ _ x235005_2 _ _ x235006_2 false _ ?side1 ?side2 ?side3 ?side4 ?side5 ?side6 A94.out).mono ?_); (case side1 => repeat (first | exact (Kd.R_reads' HO_235004.out).2.2 | (with_reducible refine Kd.C_alloc ?_ _) | (with_reducible refine Kd.C_drewN ?_ _) | (with_reducible refine Kd.C_drew ?_))); (case side2 => exact (Kd.R_reads' HO_235004.out).2.1); (case side3 => repeat (first | exact (Kd.R_reads' HO_235005.out).2.2 | (with_reducible refine Kd.C_alloc ?_ _) | (with_reducible refine Kd.C_drewN ?_ _) | (with_reducible refine Kd.C_drew ?_))); (case side4 => exact (Kd.R_reads' HO_235005.out).2.1); (case side5 => repeat (first | exact (Kd.R_reads' HO_235006.out).2.2 | (with_reducible refine Kd.C_alloc ?_ _) | (with_reducible refine Kd.C_drewN ?_ _) | (with_reducible refine Kd.C_drew ?_))); (case side6 => exact (Kd.R_reads' HO_235006.out).2.1); rintro e w112 ⟨rfl, hb⟩; refine ⟨_, rfl, ?_⟩; have n0_ := Aside0.mk (Kd.R_below (by (with_reducible repeat (first | apply Kd.R_alloc | apply Kd.R_drewN | apply Kd.R_drew)); exact HO_235004.out) hb); have n1_ := Aside0.mk (Kd.R_below (by (with_reducible repeat (first | apply Kd.R_alloc | apply Kd.R_drewN | apply Kd.R_drew)); exact HO_235005.out) hb); have n2_ := Aside0.mk (Kd.R_below (by (with_reducible repeat (first | apply Kd.R_alloc | apply Kd.R_drewN | apply Kd.R_drew)); exact HO_235006.out) hb); have n3_ := Aside0.mk (blk_below (g := gb218) (o := .cells #[.int .i64 a0_0, .int .i64 a0_1, .int .i64 a0_2, .string a0_3, .slice A0_4 l0_4.length c0_4, .slice A0_5 l0_5.length c0_5, .slice A0_6 l0_6.length c0_6] 25 (0, 0)) (by (with_reducible repeat (first | refine blk_drewN ?_ _ | refine blk_drew ?_ | refine blk_alloc ?_ _)); exact BK218.out) hb); have n4_ := Aside0.mk (blk_below (g := gb219) (o := .cells #[.int .i64 0, .int .i64 0, .int .i64 0, .string (⟨#[]⟩ : ByteArray), .slice none 0 0, .slice none 0 0, .slice none 0 0] 25 (0, 0)) (by (with_reducible repeat (first | refine blk_drewN ?_ _ | refine blk_drew ?_ | refine blk_alloc ?_ _)); exact BK219.out) hb); have n5_ := Aside0.mk (blk_below (g := gb234) (o := .cells #[.int .i64 t221, .int .i64 t222, .int .i64 a2, .string a1, .slice Ao109 x235004_2.length co109, .slice Ao110 x235005_2.length co110, .slice Ao111 x235006_2.length co111] 25 (0, 0)) (by (with_reducible repeat (first | refine blk_drewN ?_ _ | refine blk_drew ?_ | refine blk_alloc ?_ _)); exact BK234.out) hb); have n6_ := Aside0.mk (below_step (by repeat (first | (with_reducible first | exact HB.out | apply below_alloc | apply pw_below_drewN | apply below_drew1 | refine below_set ?_ GE218.out | refine below_set ?_ GE219.out | refine below_set ?_ GE234.out) | exact HB.out)) hb); clear HO_235004; clear HO_235005; clear HO_235006; clear BK218; clear BK219; clear BK234; clear HB; have HO_235004 := n0_; have HO_235005 := n1_; have HO_235006 := n2_; have BK218 := n3_; have BK219 := n4_; have BK234 := n5_; have HB := n6_; clear n0_ n1_ n2_ n3_ n4_ n5_ n6_; (try clear hb); (try clear hb2); (try clear hk); (try clear hi); have hnb113 := NB219_218.out; have hnc113 := NB218_219.out; have hcz114_0 : w112.cell? ⟨gb219, 0, none⟩ = some (.int .i64 0) := (blk_cell BK219.out 0).trans rfl; have hcz114_1 : w112.cell? ⟨gb219, 1, none⟩ = some (.int .i64 0) := (blk_cell BK219.out 1).trans rfl; have hcz114_2 : w112.cell? ⟨gb219, 2, none⟩ = some (.int .i64 0) := (blk_cell BK219.out 2).trans rfl; have hcz114_3 : w112.cell? ⟨gb219, 3, none⟩ = some (.string (⟨#[]⟩ : ByteArray)) := (blk_cell BK219.out 3).trans rfl; have hcz114_4 : w112.cell? ⟨gb219, 4, none⟩ = some (.slice none 0 0) := (blk_cell BK219.out 4).trans rfl; have hcz114_5 : w112.cell? ⟨gb219, 5, none⟩ = some (.slice none 0 0) := (blk_cell BK219.out 5).trans rfl; have hcz114_6 : w112.cell? ⟨gb219, 6, none⟩ = some (.slice none 0 0) := (blk_cell BK219.out 6).trans rfl; have hfz114_0 := blk_frozen BK219.out 0; have hfz114_1 := blk_frozen BK219.out 1; have hfz114_2 := blk_frozen BK219.out 2; have hfz114_3 := blk_frozen BK219.out 3; have hfz114_4 := blk_frozen BK219.out 4; have hfz114_5 := blk_frozen BK219.out 5; have hfz114_6 := blk_frozen BK219.out 6))
        refine bodyPost_ret (results_ct rfl _ _ gb219 25 #[.int .i64 0, .int .i64 0, .int .i64 0, .string (⟨#[]⟩ : ByteArray), .slice none 0 0, .slice none 0 0, .slice none 0 0] (0, 0) _ rfl (by (with_reducible repeat (first | refine blk_drewN ?_ _ | refine blk_drew ?_ | refine blk_alloc ?_ _)); refine blk_put (cs := #[.int .i64 0, .int .i64 0, .int .i64 0, .string (⟨#[]⟩ : ByteArray), .slice none 0 0, .slice none 0 0, .slice none 0 0]) ?_ 6 _ rfl; (with_reducible repeat (first | refine blk_drewN ?_ _ | refine blk_drew ?_ | refine blk_alloc ?_ _)); refine blk_put (cs := #[.int .i64 0, .int .i64 0, .int .i64 0, .string (⟨#[]⟩ : ByteArray), .slice none 0 0, .slice none 0 0, .slice none 0 0]) ?_ 5 _ rfl; (with_reducible repeat (first | refine blk_drewN ?_ _ | refine blk_drew ?_ | refine blk_alloc ?_ _)); refine blk_put (cs := #[.int .i64 0, .int .i64 0, .int .i64 0, .string (⟨#[]⟩ : ByteArray), .slice none 0 0, .slice none 0 0, .slice none 0 0]) ?_ 4 _ rfl; (with_reducible repeat (first | refine blk_drewN ?_ _ | refine blk_drew ?_ | refine blk_alloc ?_ _)); refine blk_put (cs := #[.int .i64 0, .int .i64 0, .int .i64 0, .string (⟨#[]⟩ : ByteArray), .slice none 0 0, .slice none 0 0, .slice none 0 0]) ?_ 3 _ rfl; (with_reducible repeat (first | refine blk_drewN ?_ _ | refine blk_drew ?_ | refine blk_alloc ?_ _)); refine blk_put (cs := #[.int .i64 0, .int .i64 0, .int .i64 0, .string (⟨#[]⟩ : ByteArray), .slice none 0 0, .slice none 0 0, .slice none 0 0]) ?_ 2 _ rfl; (with_reducible repeat (first | refine blk_drewN ?_ _ | refine blk_drew ?_ | refine blk_alloc ?_ _)); refine blk_put (cs := #[.int .i64 0, .int .i64 0, .int .i64 0, .string (⟨#[]⟩ : ByteArray), .slice none 0 0, .slice none 0 0, .slice none 0 0]) ?_ 1 _ rfl; (with_reducible repeat (first | refine blk_drewN ?_ _ | refine blk_drew ?_ | refine blk_alloc ?_ _)); refine blk_put (cs := #[.int .i64 0, .int .i64 0, .int .i64 0, .string (⟨#[]⟩ : ByteArray), .slice none 0 0, .slice none 0 0, .slice none 0 0]) ?_ 0 _ rfl; (with_reducible repeat (first | refine blk_drewN ?_ _ | refine blk_drew ?_ | refine blk_alloc ?_ _)); exact BK219.out) Try.underlying25 rfl (by kernel_rfl)) rfl ?_
        exact ⟨_, _, _, by first | rfl | (simp [errW_none, errW_some] <;> rfl) | (simp [*, errW_none, errW_some] <;> rfl), by first | exact Kd.R_nil _ _ _ _ _ | exact Kd.N_nil _ _ _ _ _ | exact Kd.V_nil _ _ _ _ _ | exact Kd.Q_nil _ _ _ _ _ | exact Kd.S_nil _ _ _ _ _, by first | exact Kd.R_nil _ _ _ _ _ | exact Kd.N_nil _ _ _ _ _ | exact Kd.V_nil _ _ _ _ _ | exact Kd.Q_nil _ _ _ _ _ | exact Kd.S_nil _ _ _ _ _, by first | exact Kd.R_nil _ _ _ _ _ | exact Kd.N_nil _ _ _ _ _ | exact Kd.V_nil _ _ _ _ _ | exact Kd.Q_nil _ _ _ _ _ | exact Kd.S_nil _ _ _ _ _, by repeat (first | (with_reducible first | exact HB.out | apply below_alloc | apply pw_below_drewN | apply below_drew1 | refine below_set ?_ GE218.out | refine below_set ?_ GE219.out | refine below_set ?_ GE234.out) | exact HB.out)⟩
 ·rw [if_neg c5] at H
  have c5b0 : (t220 == 0) = false := beq_eq_false_iff_ne.mpr c5
  have c5b1 : (t220 != 0) = true := bne_iff_ne.mpr c5
  simp only [Option.some.injEq, Prod.mk.injEq] at H
  obtain ⟨rfl, rfl, rfl, rfl, rfl, rfl, rfl, rfl⟩ := H
  go_enter Try.func13, Try.ntmps13
  go_wp2_with (first | ((with_reducible refine gate_dst (N := 3) rfl ?_); refine box_event ?hg (N := 3) ?hd (cs := #[.int .i64 a0_0, .int .i64 a0_1, .int .i64 a0_2, .string a0_3, .slice A0_4 l0_4.length c0_4, .slice A0_5 l0_5.length c0_5, .slice A0_6 l0_6.length c0_6]) (t := 25) ?hr ?_; (case hd => rfl); (case hg => rfl); (case hr => first | (go_simp; done) | (go_simp; rfl)); intro gb218 hg w115 hbox hb; have n0_ := Aside0.mk (below_step (by repeat (first | (with_reducible first | exact HB.out | apply below_alloc | apply pw_below_drewN | apply below_drew1) | exact HB.out)) hb); have n1_ := Aside0.mk (hbox); have n2_ := Aside0.mk ((by rw [hg]; exact (below_size (by repeat (first | (with_reducible first | exact HB.out | apply below_alloc | apply pw_below_drewN | apply below_drew1) | exact HB.out))) : w.heap.size ≤ gb218)); have n3_ := Aside0.mk ((by rw [hg]; exact (below_size (by repeat (first | (with_reducible first | exact HB.out | apply below_alloc | apply pw_below_drewN | apply below_drew1) | exact HB.out))) : w.heap.size ≤ gb218)); clear HB; have HB := n0_; have BK218 := n1_; have GW218 := n2_; have GE218 := n3_; clear n0_ n1_ n2_ n3_; clear hb hbox hg) | ((with_reducible refine gate_dst (N := 6) rfl ?_); refine box_event ?hg (N := 6) ?hd (cs := #[.int .i64 0, .int .i64 0, .int .i64 0, .string (⟨#[]⟩ : ByteArray), .slice none 0 0, .slice none 0 0, .slice none 0 0]) (t := 25) ?hr ?_; (case hd => rfl); (case hg => rfl); (case hr => first | (go_simp; done) | (go_simp; rfl)); intro gb219 hg w116 hbox hb; have n0_ := Aside0.mk (blk_below (g := gb218) (o := .cells #[.int .i64 a0_0, .int .i64 a0_1, .int .i64 a0_2, .string a0_3, .slice A0_4 l0_4.length c0_4, .slice A0_5 l0_5.length c0_5, .slice A0_6 l0_6.length c0_6] 25 (0, 0)) (by (with_reducible repeat (first | refine blk_drewN ?_ _ | refine blk_drew ?_ | refine blk_alloc ?_ _)); exact BK218.out) hb); have n1_ := Aside0.mk (below_step (by repeat (first | (with_reducible first | exact HB.out | apply below_alloc | apply pw_below_drewN | apply below_drew1 | refine below_set ?_ GE218.out) | exact HB.out)) hb); have n2_ := Aside0.mk (hbox); have n3_ := Aside0.mk ((by rw [hg]; exact (below_size (by repeat (first | (with_reducible first | exact HB.out | apply below_alloc | apply pw_below_drewN | apply below_drew1 | refine below_set ?_ GE218.out) | exact HB.out))) : w.heap.size ≤ gb219)); have n4_ := Aside0.mk ((by rw [hg]; exact (below_size (by repeat (first | (with_reducible first | exact HB.out | apply below_alloc | apply pw_below_drewN | apply below_drew1 | refine below_set ?_ GE218.out) | exact HB.out))) : w.heap.size ≤ gb219)); have n5_ := Aside0.mk ((by rw [hg]; exact Nat.ne_of_lt (blk_lt (g := gb218) (o := .cells #[.int .i64 a0_0, .int .i64 a0_1, .int .i64 a0_2, .string a0_3, .slice A0_4 l0_4.length c0_4, .slice A0_5 l0_5.length c0_5, .slice A0_6 l0_6.length c0_6] 25 (0, 0)) (by (with_reducible repeat (first | refine blk_drewN ?_ _ | refine blk_drew ?_ | refine blk_alloc ?_ _)); exact BK218.out)) : gb218 ≠ gb219)); have n6_ := Aside0.mk ((by rw [hg]; exact Nat.ne_of_gt (blk_lt (g := gb218) (o := .cells #[.int .i64 a0_0, .int .i64 a0_1, .int .i64 a0_2, .string a0_3, .slice A0_4 l0_4.length c0_4, .slice A0_5 l0_5.length c0_5, .slice A0_6 l0_6.length c0_6] 25 (0, 0)) (by (with_reducible repeat (first | refine blk_drewN ?_ _ | refine blk_drew ?_ | refine blk_alloc ?_ _)); exact BK218.out)) : gb219 ≠ gb218)); clear BK218; clear HB; have BK218 := n0_; have HB := n1_; have BK219 := n2_; have GW219 := n3_; have GE219 := n4_; have NB218_219 := n5_; have NB219_218 := n6_; clear n0_ n1_ n2_ n3_ n4_ n5_ n6_; clear hb hbox hg; have hnb117 := NB218_219.out; have hnc117 := NB219_218.out; have hcz118_0 : w116.cell? ⟨gb218, 0, none⟩ = some (.int .i64 a0_0) := (blk_cell BK218.out 0).trans rfl; have hcz118_1 : w116.cell? ⟨gb218, 1, none⟩ = some (.int .i64 a0_1) := (blk_cell BK218.out 1).trans rfl; have hcz118_2 : w116.cell? ⟨gb218, 2, none⟩ = some (.int .i64 a0_2) := (blk_cell BK218.out 2).trans rfl; have hcz118_3 : w116.cell? ⟨gb218, 3, none⟩ = some (.string a0_3) := (blk_cell BK218.out 3).trans rfl; have hcz118_4 : w116.cell? ⟨gb218, 4, none⟩ = some (.slice A0_4 l0_4.length c0_4) := (blk_cell BK218.out 4).trans rfl; have hcz118_5 : w116.cell? ⟨gb218, 5, none⟩ = some (.slice A0_5 l0_5.length c0_5) := (blk_cell BK218.out 5).trans rfl; have hcz118_6 : w116.cell? ⟨gb218, 6, none⟩ = some (.slice A0_6 l0_6.length c0_6) := (blk_cell BK218.out 6).trans rfl; have hfz118_0 := blk_frozen BK218.out 0; have hfz118_1 := blk_frozen BK218.out 1; have hfz118_2 := blk_frozen BK218.out 2; have hfz118_3 := blk_frozen BK218.out 3; have hfz118_4 := blk_frozen BK218.out 4; have hfz118_5 := blk_frozen BK218.out 5; have hfz118_6 := blk_frozen BK218.out 6) | ((with_reducible refine gate_callee (f := 39) rfl ?_); refine goesL_ (some 15) rfl rfl Try.func39 (by kernel_rfl) rfl #[.agg #[.int .i64 a0_0, .int .i64 a0_1, .int .i64 a0_2, .string a0_3, .slice A0_4 l0_4.length c0_4, .slice A0_5 l0_5.length c0_5, .slice A0_6 l0_6.length c0_6], .string a1, .int .i64 a2] rfl (by (try simp only [List.map_toArray, List.map_cons, List.map_nil]); first | done | rfl | (simp only [List.length_drop, List.length_take]; rfl)) ?_; (with_reducible refine (latticeref07_parted.calls k a0_0 a0_1 a0_2 a0_3 _ _ l0_4 _ _ l0_5 _ _ l0_6 a1 a2 t220 _ ?side1 ?side2 ?side3 ?side4 ?side5 ?side6 A4.out).mono ?_); (case side1 => repeat (first | exact (Kd.C_below HR0_4.out HB.out) | (with_reducible refine Kd.C_alloc ?_ _) | (with_reducible refine Kd.C_drewN ?_ _) | (with_reducible refine Kd.C_drew ?_))); (case side2 => exact HC0_4.out); (case side3 => repeat (first | exact (Kd.C_below HR0_5.out HB.out) | (with_reducible refine Kd.C_alloc ?_ _) | (with_reducible refine Kd.C_drewN ?_ _) | (with_reducible refine Kd.C_drew ?_))); (case side4 => exact HC0_5.out); (case side5 => repeat (first | exact (Kd.C_below HR0_6.out HB.out) | (with_reducible refine Kd.C_alloc ?_ _) | (with_reducible refine Kd.C_drewN ?_ _) | (with_reducible refine Kd.C_drew ?_))); (case side6 => exact HC0_6.out); rintro e w119 ⟨rfl, hb⟩; refine ⟨_, rfl, ?_⟩; have n0_ := Aside0.mk (blk_below (g := gb218) (o := .cells #[.int .i64 a0_0, .int .i64 a0_1, .int .i64 a0_2, .string a0_3, .slice A0_4 l0_4.length c0_4, .slice A0_5 l0_5.length c0_5, .slice A0_6 l0_6.length c0_6] 25 (0, 0)) (by (with_reducible repeat (first | refine blk_drewN ?_ _ | refine blk_drew ?_ | refine blk_alloc ?_ _)); exact BK218.out) hb); have n1_ := Aside0.mk (blk_below (g := gb219) (o := .cells #[.int .i64 0, .int .i64 0, .int .i64 0, .string (⟨#[]⟩ : ByteArray), .slice none 0 0, .slice none 0 0, .slice none 0 0] 25 (0, 0)) (by (with_reducible repeat (first | refine blk_drewN ?_ _ | refine blk_drew ?_ | refine blk_alloc ?_ _)); exact BK219.out) hb); have n2_ := Aside0.mk (below_step (by repeat (first | (with_reducible first | exact HB.out | apply below_alloc | apply pw_below_drewN | apply below_drew1 | refine below_set ?_ GE218.out | refine below_set ?_ GE219.out) | exact HB.out)) hb); clear BK218; clear BK219; clear HB; have BK218 := n0_; have BK219 := n1_; have HB := n2_; clear n0_ n1_ n2_; (try clear hb); (try clear hb2); (try clear hk); (try clear hi); have hcz120_0 : w119.cell? ⟨gb219, 0, none⟩ = some (.int .i64 0) := (blk_cell BK219.out 0).trans rfl; have hcz120_1 : w119.cell? ⟨gb219, 1, none⟩ = some (.int .i64 0) := (blk_cell BK219.out 1).trans rfl; have hcz120_2 : w119.cell? ⟨gb219, 2, none⟩ = some (.int .i64 0) := (blk_cell BK219.out 2).trans rfl; have hcz120_3 : w119.cell? ⟨gb219, 3, none⟩ = some (.string (⟨#[]⟩ : ByteArray)) := (blk_cell BK219.out 3).trans rfl; have hcz120_4 : w119.cell? ⟨gb219, 4, none⟩ = some (.slice none 0 0) := (blk_cell BK219.out 4).trans rfl; have hcz120_5 : w119.cell? ⟨gb219, 5, none⟩ = some (.slice none 0 0) := (blk_cell BK219.out 5).trans rfl; have hcz120_6 : w119.cell? ⟨gb219, 6, none⟩ = some (.slice none 0 0) := (blk_cell BK219.out 6).trans rfl; have hfz120_0 := blk_frozen BK219.out 0; have hfz120_1 := blk_frozen BK219.out 1; have hfz120_2 := blk_frozen BK219.out 2; have hfz120_3 := blk_frozen BK219.out 3; have hfz120_4 := blk_frozen BK219.out 4; have hfz120_5 := blk_frozen BK219.out 5; have hfz120_6 := blk_frozen BK219.out 6))
  refine bodyPost_ret (results_ct rfl _ _ gb219 25 #[.int .i64 0, .int .i64 0, .int .i64 0, .string (⟨#[]⟩ : ByteArray), .slice none 0 0, .slice none 0 0, .slice none 0 0] (0, 0) _ rfl (by (with_reducible repeat (first | refine blk_drewN ?_ _ | refine blk_drew ?_ | refine blk_alloc ?_ _)); refine blk_put (cs := #[.int .i64 0, .int .i64 0, .int .i64 0, .string (⟨#[]⟩ : ByteArray), .slice none 0 0, .slice none 0 0, .slice none 0 0]) ?_ 6 _ rfl; (with_reducible repeat (first | refine blk_drewN ?_ _ | refine blk_drew ?_ | refine blk_alloc ?_ _)); refine blk_put (cs := #[.int .i64 0, .int .i64 0, .int .i64 0, .string (⟨#[]⟩ : ByteArray), .slice none 0 0, .slice none 0 0, .slice none 0 0]) ?_ 5 _ rfl; (with_reducible repeat (first | refine blk_drewN ?_ _ | refine blk_drew ?_ | refine blk_alloc ?_ _)); refine blk_put (cs := #[.int .i64 0, .int .i64 0, .int .i64 0, .string (⟨#[]⟩ : ByteArray), .slice none 0 0, .slice none 0 0, .slice none 0 0]) ?_ 4 _ rfl; (with_reducible repeat (first | refine blk_drewN ?_ _ | refine blk_drew ?_ | refine blk_alloc ?_ _)); refine blk_put (cs := #[.int .i64 0, .int .i64 0, .int .i64 0, .string (⟨#[]⟩ : ByteArray), .slice none 0 0, .slice none 0 0, .slice none 0 0]) ?_ 3 _ rfl; (with_reducible repeat (first | refine blk_drewN ?_ _ | refine blk_drew ?_ | refine blk_alloc ?_ _)); refine blk_put (cs := #[.int .i64 0, .int .i64 0, .int .i64 0, .string (⟨#[]⟩ : ByteArray), .slice none 0 0, .slice none 0 0, .slice none 0 0]) ?_ 2 _ rfl; (with_reducible repeat (first | refine blk_drewN ?_ _ | refine blk_drew ?_ | refine blk_alloc ?_ _)); refine blk_put (cs := #[.int .i64 0, .int .i64 0, .int .i64 0, .string (⟨#[]⟩ : ByteArray), .slice none 0 0, .slice none 0 0, .slice none 0 0]) ?_ 1 _ rfl; (with_reducible repeat (first | refine blk_drewN ?_ _ | refine blk_drew ?_ | refine blk_alloc ?_ _)); refine blk_put (cs := #[.int .i64 0, .int .i64 0, .int .i64 0, .string (⟨#[]⟩ : ByteArray), .slice none 0 0, .slice none 0 0, .slice none 0 0]) ?_ 0 _ rfl; (with_reducible repeat (first | refine blk_drewN ?_ _ | refine blk_drew ?_ | refine blk_alloc ?_ _)); exact BK219.out) Try.underlying25 rfl (by kernel_rfl)) rfl ?_
  exact ⟨_, _, _, by first | rfl | (simp [errW_none, errW_some] <;> rfl) | (simp [*, errW_none, errW_some] <;> rfl), by first | exact Kd.R_nil _ _ _ _ _ | exact Kd.N_nil _ _ _ _ _ | exact Kd.V_nil _ _ _ _ _ | exact Kd.Q_nil _ _ _ _ _ | exact Kd.S_nil _ _ _ _ _, by first | exact Kd.R_nil _ _ _ _ _ | exact Kd.N_nil _ _ _ _ _ | exact Kd.V_nil _ _ _ _ _ | exact Kd.Q_nil _ _ _ _ _ | exact Kd.S_nil _ _ _ _ _, by first | exact Kd.R_nil _ _ _ _ _ | exact Kd.N_nil _ _ _ _ _ | exact Kd.V_nil _ _ _ _ _ | exact Kd.Q_nil _ _ _ _ _ | exact Kd.S_nil _ _ _ _ _, by repeat (first | (with_reducible first | exact HB.out | apply below_alloc | apply pw_below_drewN | apply below_drew1 | refine below_set ?_ GE218.out | refine below_set ?_ GE219.out) | exact HB.out)⟩
end Go.Proofs.Ytcocmpblmkdmjaa.Pr
