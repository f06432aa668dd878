/- The law PointsChoose, walked. -/
import Derived.Test.YtbpnigldojpapaaPointsLaw
namespace Go.Proofs.Ytbpnigldojpapaa.Points
open Go.RowKit Go.Proofs.YtbpnigldojpapaaW.PrintWords Go.Proofs.YtbpnigldojpapaaW.PrintLast Go.Proofs.YtbpnigldojpapaaW.PrintMore Go.Proofs.Ytbpnigldojpapaa.Wire Go.Proofs.Ytbpnigldojpapaa.Crc Go.Proofs.Ytbpnigldojpapaa.Pr
open Go.Proofs.Ytbpnigldojpapaa.Back (AllB numB numB_small)
set_option linter.unusedVariables false
set_option linter.unusedSimpArgs false
set_option maxRecDepth 100000 in
set_option maxHeartbeats 8000000 in
theorem lawchoose_ok (A : Option Addr) (ca : Nat) (a : List Int) (B : Option Addr) (cb : Nat) (b : List Int) (x y z : Int) (w : World) (hra : Kd.C (Kd.int .u8) w A a.length a) (hca : a.length ≤ ca) (hba : AllB a) (hla : a.length ≤ 140737488355328) (hrb : Kd.C (Kd.int .u8) w B b.length b) (hcb : b.length ≤ cb) (hbb : AllB b) (hlb : b.length ≤ 140737488355328) (hz : z < 9223372036854775808) :
    Calls Try.prog 5 #[.slice A a.length ca, .slice B b.length cb, .agg #[.int .i64 x, .int .i64 y, .int .i64 z]] w fun e w' => e = .returned (.bool true) ∧ Below w.heap.size w w' := by
  have hch := fun W (hB : Below w.heap.size w W) => choose_ok A ca a B cb b W (Kd.C_below hra hB) hca hba hla (Kd.C_below hrb hB) hcb hbb hlb
  have hrc := fun W (hB : Below w.heap.size w W) => refchoose_ok A ca a B cb b W (Kd.C_below hra hB) hca hba hla (Kd.C_below hrb hB) hcb hbb hlb
  have hnx := fun W (hB : Below w.heap.size w W) => next_ok A ca a B cb b x y z W (Kd.C_below hra hB) hca hba hla (Kd.C_below hrb hB) hcb hbb hlb
  have hrn := fun W (hB : Below w.heap.size w W) => refnext_ok A ca a B cb b x y z W (Kd.C_below hra hB) hca hba hla (Kd.C_below hrb hB) hcb hbb hlb hz
  generalize nextF (decF a) (decF b) y z = N at hnx hrn
  generalize chooseD (decF a) (decF b) = C at hch hrc
  obtain ⟨⟨n0, n1, n2⟩, ns, ys, ne⟩ := N
  obtain ⟨⟨c0, c1, c2⟩, cs, ce⟩ := C
  dsimp only at hch hrc hnx hrn
  have hna : a.length ≤ 9223372036854775807 := hra.2.1
  have hnb : b.length ≤ 9223372036854775807 := hrb.2.1
  obtain ⟨sy, hsy⟩ : ∃ s, s = strOfNums ys := ⟨_, rfl⟩
  have hcvy : ∀ (A : Option Addr) (c : Nat) (W : World), Kd.C (Kd.int .u8) W A ys.length ys → (convert 35 9 (.slice A ys.length c)).run Try.prog W = .ok (.string sy) W := by
    intro A c W h
    rw [hsy]
    exact Kd.C_string Try.underlying35 Try.underlying5 Try.underlying9 h
  have HX0 : Aside0 (PtAt 34 (w.alloc (.cells #[.int .i64 x, .int .i64 y, .int .i64 z] 34)) w.heap.size x y z) := ⟨blk_new _ _⟩
  have hB0 := below_alloc (Below.refl w.heap.size w) (.cells #[.int .i64 x, .int .i64 y, .int .i64 z] 34)
  have HB0 := Aside0.mk hB0
  have HRC := Aside0.mk hrc
  have HNX := Aside0.mk hnx
  have HRN := Aside0.mk hrn
  have HCVY := Aside0.mk hcvy
  have h1 := hch _ hB0
  clear hch hrc hnx hrn hcvy hsy hra hca hba hla hrb hcb hbb hlb hz hB0
  go_enter Try.func5, Try.ntmps5
  go_upto_region 5 with (first
    | (go_at_call 16; refine h1.mono ?_; rintro e w2 ⟨rfl, hB2⟩; (have HX2 := Aside0.mk ((HX0.out.below hB2).below (below_alloc (Below.refl _ _) (.cells #[.int .i64 c0, .int .i64 c1, .int .i64 c2] 34)))); (have HP2 := Aside0.mk (show PtAt 34 (w2.alloc (.cells #[.int .i64 c0, .int .i64 c1, .int .i64 c2] 34)) w2.heap.size c0 c1 c2 from blk_new _ _)); (have HB2 := (Aside0.mk ((below_from HB0.out (Nat.le_refl _) hB2).alloc (below_from HB0.out (Nat.le_refl _) hB2).size (.cells #[.int .i64 c0, .int .i64 c1, .int .i64 c2] 34)))); (have h2 := HRC.out _ HB2.out); clear hB2 h1)
    | (go_at_call 17; refine h2.mono ?_; rintro e w3 ⟨rfl, hB3⟩; (have HX3 := Aside0.mk ((HX2.out.below hB3).below (below_alloc (Below.refl _ _) (.cells #[.int .i64 c0, .int .i64 c1, .int .i64 c2] 40)))); (have HP3 := Aside0.mk ((HP2.out.below hB3).below (below_alloc (Below.refl _ _) (.cells #[.int .i64 c0, .int .i64 c1, .int .i64 c2] 40)))); (have HQ3 := Aside0.mk (show PtAt 40 (w3.alloc (.cells #[.int .i64 c0, .int .i64 c1, .int .i64 c2] 40)) w3.heap.size c0 c1 c2 from blk_new _ _)); (have HB3 := (Aside0.mk ((below_from HB2.out (Nat.le_refl _) hB3).alloc (below_from HB2.out (Nat.le_refl _) hB3).size (.cells #[.int .i64 c0, .int .i64 c1, .int .i64 c2] 40)))); (have h3 := HNX.out _ HB3.out); obtain ⟨b0, b1, b2, _, _, _⟩ := (HX2.out.below hB3).cells; (have l3 := blk_lt (HX2.out.below hB3)); clear hB3 h2)
    | (go_at_call 18; refine h3.mono ?_; rintro e w4 ⟨u4, rfl, hR4, hB4⟩; obtain ⟨A4, k4, rfl, hk4, hC4⟩ := Kd.R_reads hR4; (have HC4 := Aside0.mk (Kd.C_below hC4 (below_alloc (Below.refl _ _) (.cells #[.int .i64 n0, .int .i64 n1, .int .i64 n2] 34)))); (have HX4 := Aside0.mk ((HX3.out.below hB4).below (below_alloc (Below.refl _ _) (.cells #[.int .i64 n0, .int .i64 n1, .int .i64 n2] 34)))); (have HP4 := Aside0.mk ((HP3.out.below hB4).below (below_alloc (Below.refl _ _) (.cells #[.int .i64 n0, .int .i64 n1, .int .i64 n2] 34)))); (have HQ4 := Aside0.mk ((HQ3.out.below hB4).below (below_alloc (Below.refl _ _) (.cells #[.int .i64 n0, .int .i64 n1, .int .i64 n2] 34)))); (have HS4 := Aside0.mk (show PtAt 34 (w4.alloc (.cells #[.int .i64 n0, .int .i64 n1, .int .i64 n2] 34)) w4.heap.size n0 n1 n2 from blk_new _ _)); (have HB4 := (Aside0.mk ((below_from HB3.out (Nat.le_refl _) hB4).alloc (below_from HB3.out (Nat.le_refl _) hB4).size (.cells #[.int .i64 n0, .int .i64 n1, .int .i64 n2] 34)))); clear b0 b1 b2 l3; obtain ⟨b0, b1, b2, _, _, _⟩ := (HX3.out.below hB4).cells; (have l3 := blk_lt (HX3.out.below hB4)); clear hB4 h3 hR4 hC4 hk4)
    | (go_at_call 12; refine (lawref_ok x y z _).mono ?_; rintro e w5 ⟨rfl, hB5⟩; (have HC5 := Aside0.mk (Kd.C_below HC4.out hB5)); (have HP5 := Aside0.mk (HP4.out.below hB5)); (have HQ5 := Aside0.mk (HQ4.out.below hB5)); (have HS5 := Aside0.mk (HS4.out.below hB5)); (have HB5 := Aside0.mk (below_from HB4.out (Nat.le_refl _) hB5)); (have h4 := HRN.out w5 HB5.out); clear hB5 b0 b1 b2 l3)
    | (go_at_call 19; (refine h4.mono ?_; rintro e w6 ⟨u6, rfl, hR6, hB6⟩; obtain ⟨A6, k6, rfl, hk6, hC6⟩ := Kd.R_reads hR6; (have HC46 : Aside0 (Kd.C (Kd.int .u8) (w6.alloc (.cells #[.int .i64 n0, .int .i64 n1, .int .i64 n2] 40)) A4 ys.length ys) := ⟨Kd.C_below (Kd.C_below (Kd.C_below HC5.out hB6) (below_alloc (Below.refl _ _) (.cells #[.int .i64 n0, .int .i64 n1, .int .i64 n2] 40))) (Below.refl _ _)⟩); (have HC66 : Aside0 (Kd.C (Kd.int .u8) (w6.alloc (.cells #[.int .i64 n0, .int .i64 n1, .int .i64 n2] 40)) A6 ys.length ys) := ⟨Kd.C_below (Kd.C_below hC6 (below_alloc (Below.refl _ _) (.cells #[.int .i64 n0, .int .i64 n1, .int .i64 n2] 40))) (Below.refl _ _)⟩); (have HP6 : Aside0 (PtAt 34 (w6.alloc (.cells #[.int .i64 n0, .int .i64 n1, .int .i64 n2] 40)) w2.heap.size c0 c1 c2) := ⟨((HP5.out.below hB6).below (below_alloc (Below.refl _ _) (.cells #[.int .i64 n0, .int .i64 n1, .int .i64 n2] 40)))⟩); (have HQ6 : Aside0 (PtAt 40 (w6.alloc (.cells #[.int .i64 n0, .int .i64 n1, .int .i64 n2] 40)) w3.heap.size c0 c1 c2) := ⟨((HQ5.out.below hB6).below (below_alloc (Below.refl _ _) (.cells #[.int .i64 n0, .int .i64 n1, .int .i64 n2] 40)))⟩); (have HS6 : Aside0 (PtAt 34 (w6.alloc (.cells #[.int .i64 n0, .int .i64 n1, .int .i64 n2] 40)) w4.heap.size n0 n1 n2) := ⟨((HS5.out.below hB6).below (below_alloc (Below.refl _ _) (.cells #[.int .i64 n0, .int .i64 n1, .int .i64 n2] 40)))⟩); (have HT6 : Aside0 (PtAt 40 (w6.alloc (.cells #[.int .i64 n0, .int .i64 n1, .int .i64 n2] 40)) w6.heap.size n0 n1 n2) := ⟨id (show PtAt 40 (w6.alloc (.cells #[.int .i64 n0, .int .i64 n1, .int .i64 n2] 40)) w6.heap.size n0 n1 n2 from blk_new _ _)⟩); (have HB6 : Aside0 (Below w.heap.size w (w6.alloc (.cells #[.int .i64 n0, .int .i64 n1, .int .i64 n2] 40))) := ⟨id ((below_from HB5.out (Nat.le_refl _) hB6).alloc (below_from HB5.out (Nat.le_refl _) hB6).size _)⟩); clear hB6 h4 hR6 hC6 hk6)))
  have l1 := blk_lt HP6.out
  have l2 := blk_lt HQ6.out
  obtain ⟨p0, p1, p2, _, _, _⟩ := HP6.out.cells
  obtain ⟨q0, q1, q2, _, _, _⟩ := HQ6.out.cells
  go_wp2_with (first
    | (go_at_call 15; with_reducible refine (same_ok c0 c1 c2 c0 c1 c2 _).mono ?_; rintro e w7 ⟨rfl, hB7⟩; (have HB7 := Aside0.mk (below_from HB6.out (Nat.le_refl _) hB7)); (have HC47 := Aside0.mk (Kd.C_below HC46.out hB7)); (have HC67 := Aside0.mk (Kd.C_below HC66.out hB7)); obtain ⟨s0, s1, s2, _, _, _⟩ := (HS6.out.below hB7).cells; obtain ⟨t0, t1, t2, _, _, _⟩ := (HT6.out.below hB7).cells; simp only [beq_self_eq_true, Bool.and_true]; clear hB7 p0 p1 p2 q0 q1 q2 l1 l2)
    | (go_at_call 15; with_reducible refine (same_ok n0 n1 n2 n0 n1 n2 _).mono ?_; rintro e w8 ⟨rfl, hB8⟩; (have HB8 := Aside0.mk (below_from HB7.out (Nat.le_refl _) hB8)); (have hq4 := HCVY.out A4 k4 _ (Kd.C_below HC47.out hB8)); (have hq6 := HCVY.out A6 k6 _ (Kd.C_below HC67.out hB8)); simp only [beq_self_eq_true, Bool.and_true]; clear hB8 s0 s1 s2 t0 t1 t2)
    | (go_at_call 9; refine (speaks_ok _).mono ?_; rintro e w9 ⟨rfl, hB9⟩; (have HB9 := Aside0.mk (below_from HB8.out (Nat.le_refl _) hB9)); clear hB9))
  go_ret
  exact ⟨rfl, HB9.out⟩
end Go.Proofs.Ytbpnigldojpapaa.Points
