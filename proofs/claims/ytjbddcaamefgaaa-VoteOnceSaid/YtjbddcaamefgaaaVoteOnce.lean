/- The law VoteOnce, walked. -/
import Derived.Test.YtjbddcaamefgaaaVoteOnceP
namespace Go.Proofs.Ytjbddcaamefgaaa.Vote
open Go.RowKit Go.Proofs.YtjbddcaamefgaaaW.PrintWords Go.Proofs.YtjbddcaamefgaaaW.PrintLast Go.Proofs.YtjbddcaamefgaaaW.PrintMore Go.Proofs.Ytjbddcaamefgaaa.Wire Go.Proofs.Ytjbddcaamefgaaa.Crc Go.Proofs.Ytjbddcaamefgaaa.Pr
open Go.Proofs.Ytjbddcaamefgaaa.Back (AllB numB numB_small)
set_option linter.unusedVariables false
set_option linter.unusedSimpArgs false
theorem StepAt.below {w w1 : World} {g : Nat} {x0 x1 x2 x3 x4 x5 x6 : Int} (h : StepAt w g x0 x1 x2 x3 x4 x5 x6) (hc : Below w.heap.size w w1) : StepAt w1 g x0 x1 x2 x3 x4 x5 x6 := h.chg (Chg.of_below hc (fun _ => False)) (fun h => h)
def OnceIn (w : World) (n : Nat) (v3 v5 v34 : Value) (wr : World) : Prop :=
  ∃ (k g : Nat) (e f : Int) (A : Option Addr) (c : Nat) (gv : List (Int × Int × Int)), k ≤ n ∧ v34 = .int .i64 k ∧ v3 = .pointer (some ⟨g, 0, none⟩) ∧ v5 = .slice A gv.length c ∧ Aside0 (okP e f = true) ∧ Aside0 (VotAt 78 wr g e f) ∧ Aside0 (RG wr w.heap.size (.slice A gv.length c) gv) ∧ Aside0 (GvInv gv e f) ∧ Aside0 (gv.length ≤ k) ∧ Aside0 (w.heap.size ≤ g) ∧ Aside0 (Below w.heap.size w wr)
def GvIn (W : World) (n : Nat) (v86 : Value) (wr : World) : Prop := ∃ j : Nat, j ≤ n ∧ v86 = .int .i64 j ∧ Aside0 (Below W.heap.size W wr)
set_option maxRecDepth 100000 in
set_option maxHeartbeats 8000000 in
theorem once_ok (A : Option Addr) (c : Nat) (l : List S38) (w : World) (hr : Kd.C k38 w A l.length l) (hl : l.length ≤ 2513169434843) :
    Calls Try.prog 7 #[.slice A l.length c] w fun r w' => r = .returned (.bool true) ∧ Below w.heap.size w w' := by
  have hnew := new_ok 0 (-1) w (by decide)
  have HR := Aside0.mk hr
  have HL := Aside0.mk hl
  have hna : l.length ≤ 9223372036854775807 := hr.2.1
  clear hr hl
  go_enter Try.func7, Try.ntmps7
  go_wp2_with (go_at_call 8; refine hnew.mono ?_; rintro r w2 ⟨g1, rfl, hg1, hV2, hB2⟩; (have HB2 := Aside0.mk hB2); (have HV2 := Aside0.mk hV2); (have HG1 := Aside0.mk hg1); clear hB2 hV2 hg1 hnew)
  go_loopw [3, 5, 34] (fun v3 v5 v34 wr => OnceIn w l.length v3 v5 v34 wr) (fun _ _ v34 _ => l.length - (intOf v34).toNat)
  case atStart => exact ⟨0, g1, 0, -1, none, 0, [], by omega, rfl, rfl, rfl, ⟨by decide⟩, HV2, ⟨Kd.R_nil _ _ _ _ _⟩, ⟨fun x hx => by simp at hx⟩, ⟨Nat.le_refl _⟩, HG1, HB2⟩
  case round =>
    clear HV2 HG1 HB2
    obtain ⟨k, g, e, f, A1, c1, gv, hk, rfl, rfl, rfl, HOK, HV, HG, HGI, HGL, HGB, HB⟩ := hrel
    by_cases hlt : k < l.length
    · have hltI : (k : Int) < (l.length : Int) := by omega
      have hk0 : (0 : Int) ≤ (k : Int) := by omega
      have hkm : (k : Int) < 140737488355328 := by have := HL.out; omega
      obtain ⟨ad, rfl, hx0, hx1, hx2, hx3, hx4, hx5, hx6⟩ := at_T38 (Kd.C_below HR.out HB.out) (k : Int) hk0 hltI
      rw [Int.toNat_natCast] at hx0 hx1 hx2 hx3 hx4 hx5 hx6
      generalize rd_T38 l (k : Int) = x at hx0 hx1 hx2 hx3 hx4 hx5 hx6
      obtain ⟨x0, x1, x2, ⟨x3, x4⟩, ⟨x5, x6⟩⟩ := x
      dsimp only at hx0 hx1 hx2 hx3 hx4 hx5 hx6
      have hpr := promise_ok g e f (wr.alloc (.cells #[.int .i64 x0, .int .i64 x1, .int .i64 x2, .int .i64 x3, .int .i64 x4, .int .i64 x5, .int .i64 x6] 38)) (HV.out.below (below_alloc (Below.refl _ _) _))
      have hS : StepAt (wr.alloc (.cells #[.int .i64 x0, .int .i64 x1, .int .i64 x2, .int .i64 x3, .int .i64 x4, .int .i64 x5, .int .i64 x6] 38)) wr.heap.size x0 x1 x2 x3 x4 x5 x6 := blk_new _ _
      have HS := Aside0.mk hS
      have hfl := field0
      have HV1 := Aside0.mk (HV.out.below (below_alloc (Below.refl _ _) (.cells #[.int .i64 x0, .int .i64 x1, .int .i64 x2, .int .i64 x3, .int .i64 x4, .int .i64 x5, .int .i64 x6] 38)))
      have HK := Aside0.mk hkm
      clear hS hkm
      go_upto_block 2 with (go_at_call 17; refine hpr.mono ?_; rintro r w2 ⟨rfl, hB2⟩; (have hs2 := HS.out.below hB2); obtain ⟨s0, s1, s2, s3, s4, s5, s6⟩ := hs2.cells; (have l2 : wr.heap.size < w2.heap.size := blk_lt hs2); (have HS2 := Aside0.mk hs2); (have HV2 := Aside0.mk (HV1.out.below hB2)); (have HBr := Aside0.mk (below_from (below_alloc (Below.refl wr.heap.size wr) (.cells #[.int .i64 x0, .int .i64 x1, .int .i64 x2, .int .i64 x3, .int .i64 x4, .int .i64 x5, .int .i64 x6] 38)) (Nat.le_refl _) hB2)); clear hB2 hs2 hpr)
      have HNG : Aside0 (¬ wr.heap.size = g) := ⟨fun q => by have := blk_lt HV.out; omega⟩
      obtain ⟨gs, hgs⟩ : ∃ gs, gs = wr.heap.size := ⟨_, rfl⟩
      rw [← hgs] at HS2 l2 s0 s1 s2 s3 s4 s5 s6 HNG ⊢
      clear hgs
      clear hx0 hx1 hx2 hx3 hx4 hx5 hx6 HS HV1
      have hea := HOK.out
      have hask := ask_ok g e f x1 x2 x3 x4 x5 x6 w2 HV2.out
      have hsee := see_ok g e f x2 w2 HV2.out
      have hstd := stand_ok g e f x1 w2 HV2.out (okP_iff.1 hea).1
      have hao := askF_okP (p := x1) (n := x2) (nw := newer x3 x4 x5 x6) hea
      have hso := seeF_okP (n := x2) hea
      have hto := standF_okP (n := x1) hea
      have hai := ask_inv (p := x1) (n := x2) (nw := newer x3 x4 x5 x6) HGI.out
      have hsi := see_inv (n := x2) HGI.out
      have hti := stand_inv (me := x1) HGI.out
      generalize askF e f x1 x2 (newer x3 x4 x5 x6) = RA at hask hao hai
      generalize seeF e f x2 = RS at hsee hso hsi
      generalize standF e f x1 = RT at hstd hto hti
      obtain ⟨ra, ae, af⟩ := RA
      obtain ⟨rs, se, sf⟩ := RS
      obtain ⟨⟨rn, rt⟩, te, tf⟩ := RT
      dsimp only at hask hao hai hsee hso hsi hstd hto hti
      have HAO := Aside0.mk hao
      have HSO := Aside0.mk hso
      have HTO := Aside0.mk hto
      have HAI := Aside0.mk hai
      have HSI := Aside0.mk hsi
      have HTI := Aside0.mk hti
      have hkd : ((x0 == 0) = true ∨ ((x0 == 0) = false ∧ (x0 == 1) = true)) ∨ ((x0 == 0) = false ∧ (x0 == 1) = false ∧ (x0 == 2) = true) ∨ ((x0 == 0) = false ∧ (x0 == 1) = false ∧ (x0 == 2) = false) := by
        rcases (x0 == 0) <;> rcases (x0 == 1) <;> rcases (x0 == 2) <;> simp
      clear hao hso hto hai hsi hti hea
      go_cut [9] (fun v9 wx => ∃ (vt : Bool) (e2 f2 : Int), v9 = .bool vt ∧ Aside0 (VotAt 78 wx g e2 f2) ∧ Aside0 (Chg w2 wx (fun k => k = g)) ∧ Aside0 (okP e2 f2 = true ∧ GvInv gv e2 f2 ∧ e ≤ e2 ∧ (vt = true → f2 = x1 ∧ 0 ≤ x1)))
      case first =>
        rcases hkd with hkd | ⟨d0, d1, d2⟩ | ⟨d0, d1, d2⟩
        · rcases hkd with d0 | ⟨d0, d1⟩
          all_goals
            go_wp2_with (go_at_call 11; refine hask.mono ?_; rintro r w5 ⟨rfl, hV5, hC5⟩; (have HV5 := Aside0.mk hV5); (have HC5 := Aside0.mk hC5); clear hV5 hC5 hask)
            go_meet
            exact ⟨ra, ae, af, rfl, HV5, HC5, ⟨HAO.out, HAI.out.1, HAI.out.2.1, HAI.out.2.2⟩⟩
        · go_wp2_with (go_at_call 13; refine hsee.mono ?_; rintro r w5 ⟨rfl, hV5, hC5⟩; (have HV5 := Aside0.mk hV5); (have HC5 := Aside0.mk hC5); clear hV5 hC5 hsee)
          go_meet
          exact ⟨false, se, sf, rfl, HV5, HC5, ⟨HSO.out, HSI.out.1, HSI.out.2, fun h => by cases h⟩⟩
        · go_wp2_with (go_at_call 15; refine hstd.mono ?_; rintro r w5 ⟨rfl, hV5, hC5⟩; (have HV5 := Aside0.mk hV5); (have HC5 := Aside0.mk hC5); clear hV5 hC5 hstd)
          go_meet
          exact ⟨_, te, tf, rfl, HV5, HC5, ⟨HTO.out, HTI.out.1, HTI.out.2.1, fun h => HTI.out.2.2 (by simpa using h)⟩⟩
      case rest =>
      clear hask hsee hstd hkd HAO HSO HTO HAI HSI HTI
      obtain ⟨vt, e2, f2, rfl, HV5, HC5, HP5⟩ := hcut
      have hS5 := HS2.out.chg HC5.out HNG.out
      have HG2 : Aside0 (RG w2 w.heap.size (.slice A1 gv.length c1) gv) := ⟨Kd.R_below HG.out HBr.out⟩
      have HG5 : Aside0 (RG wc w.heap.size (.slice A1 gv.length c1) gv) := ⟨RG_chg HG2.out HV2.out (by decide) HC5.out⟩
      have HB5 : Aside0 (Below w.heap.size w wc) := ⟨(below_from HB.out (Nat.le_refl _) HBr.out).trans (HC5.out.below (Nat.le_trans HB.out.size HBr.out.size) (fun k hk => by rw [show k = g from hk]; exact HGB.out))⟩
      have HS5 := Aside0.mk hS5
      have hpr := promise_ok g e2 f2 wc HV5.out
      have dlt : decide (e2 < e) = false := decide_eq_false (by have := HP5.out.2.2.1; omega)
      clear s0 s1 s2 s3 s4 s5 s6 l2 hS5
      go_upto_if 78 with (go_at_call 17; refine hpr.mono ?_; rintro r w6 ⟨rfl, hB6⟩; (have HVP : Aside0 (VotAt 23 (w6.alloc (.cells #[.int .i64 e2, .int .i64 f2] 23)) w6.heap.size e2 f2) := ⟨blk_new _ _⟩); (have HPG := Aside0.mk (Nat.le_trans HB5.out.size hB6.size)); (have HB67 : Aside0 (Below wc.heap.size wc (w6.alloc (.cells #[.int .i64 e2, .int .i64 f2] 23))) := ⟨hB6.alloc hB6.size _⟩); clear hB6 hpr)
      have HV7 := Aside0.mk (HV5.out.below HB67.out)
      have HS7 := Aside0.mk (HS5.out.below HB67.out)
      have HG7 : Aside0 (RG (w6.alloc (.cells #[.int .i64 e2, .int .i64 f2] 23)) w.heap.size (.slice A1 gv.length c1) gv) := ⟨Kd.R_below HG5.out HB67.out⟩
      have HB7 := Aside0.mk (below_from HB5.out (Nat.le_refl _) HB67.out)
      generalize w6.heap.size = gp at HVP HPG ⊢
      generalize w6.alloc (.cells #[.int .i64 e2, .int .i64 f2] 23) = W7 at HVP HB67 HV7 HS7 HG7 HB7 ⊢
      clear HV5 HS5 HG5 HB5
      go_cut [5] (fun v5 wx => ∃ (A' : Option Addr) (c' : Nat) (gv' : List (Int × Int × Int)), v5 = .slice A' gv'.length c' ∧ Aside0 (VotAt 78 wx g e2 f2) ∧ Aside0 (VotAt 23 wx gp e2 f2) ∧ Aside0 (RG wx w.heap.size (.slice A' gv'.length c') gv') ∧ Aside0 (GvInv gv' e2 f2) ∧ Aside0 (gv'.length ≤ k + 1) ∧ Aside0 (Below w.heap.size w wx))
      case first =>
        cases vt
        · go_wp2
          go_meet
          exact ⟨A1, c1, gv, rfl, HV7, HVP, HG7, ⟨HP5.out.2.1⟩, ⟨by have := HGL.out; omega⟩, HB7⟩
        · obtain ⟨hfx, hx10⟩ := HP5.out.2.2.2 rfl
          subst hfx
          obtain ⟨p0, p1, _, _⟩ := HVP.out.cells
          obtain ⟨_, s1, _, _, _, _, _⟩ := HS7.out.cells
          have hgl : gv.length ≤ 9223372036854775807 := by have := HGL.out; omega
          have HX10 := Aside0.mk hx10
          clear hx10
          go_wp2
          go_loopw [86] (fun v86 wr => GvIn W7 gv.length v86 wr) (fun v86 _ => gv.length - (intOf v86).toNat)
          case atStart => exact ⟨0, by omega, rfl, ⟨Below.refl _ _⟩⟩
          case round =>
          clear p0 p1 s1
          obtain ⟨j, hj, rfl, HBj⟩ := hrel
          have hvj := HVP.out.below HBj.out
          obtain ⟨p0, p1, _, _⟩ := hvj.cells
          have lj := blk_lt hvj
          have HVj := Aside0.mk hvj
          clear hvj
          by_cases hjl : j < gv.length
          · have hjI : (j : Int) < (gv.length : Int) := by omega
            have hj0 : (0 : Int) ≤ (j : Int) := by omega
            have hjm : (j : Int) < 140737488355328 := by have := HGL.out; have := HK.out; omega
            obtain ⟨ad2, rfl, y0, y1, y2⟩ := at_G ((Kd.R_reads' (Kd.R_below HG7.out HBj.out)).2.2) (j : Int) hj0 hjI
            have hmem : rdG gv (j : Int) ∈ gv := by
              unfold rdG
              rw [Int.toNat_natCast, List.getD_eq_getElem?_getD, List.getElem?_eq_getElem hjl]
              exact List.getElem_mem _
            have hiv := HP5.out.2.1 _ hmem
            rw [Int.toNat_natCast] at y0 y1 y2
            generalize rdG gv (j : Int) = z at y0 y1 y2 hiv hmem
            obtain ⟨z0, z1, z2⟩ := z
            dsimp only at y0 y1 y2 hiv
            clear hmem
            by_cases hz : z0 = e2
            · have d1 : (z0 == e2) = true := by simp [hz]
              have d2 : (z2 != f2) = false := by simp [hiv.2.2 hz]
              clear hz hiv
              go_wp2
              exact ⟨⟨j + 1, by omega, by simp, ⟨HBj.out.alloc HBj.out.size _⟩⟩, by simp [intOf]; omega⟩
            · have d1 : (z0 == e2) = false := by simp [hz]
              clear hz hiv
              go_wp2
              exact ⟨⟨j + 1, by omega, by simp, ⟨HBj.out.alloc HBj.out.size _⟩⟩, by simp [intOf]; omega⟩
          · have hjn : ¬ (j : Int) < (gv.length : Int) := by omega
            have HGj : Aside0 (RG wr w.heap.size (.slice A1 gv.length c1) gv) := ⟨Kd.R_below HG7.out HBj.out⟩
            have HV7j := Aside0.mk (HV7.out.below HBj.out)
            have HB7j := Aside0.mk (below_from HB7.out (Nat.le_refl _) HBj.out)
            go_wp2_with ((with_reducible refine gate_builtin (b := .append) (xs := #[.tmp 103, .tmp 109]) rfl ?_); at_builtin; refine Kd.R_append kG (w0 := w) w.heap.size rfl (.tmp 103) (.tmp 109) 53 61 (.agg #[.int .i64 0, .int .i64 0, .int .i64 0]) 24 rfl Try.underlying53 infoG rfl (by decide) (by omega) (.slice A1 gv.length c1) gv (e2, 0, f2) [.int .i64 e2, .int .i64 0, .int .i64 f2] (fun _ => True) (fun _ => False) rfl rfl ?aP (fun _ hk => hk.elim) ?aF ?aO ?aB ?aS ?aL ?_; (case aP => exact G_mkM _ _ _ (e2, 0, f2)); (case aF => exact (fun _ _ => trivial)); (case aO => exact HGj.out); (case aB => exact HB7j.out); (case aS => exact HB7j.out.size); (case aL => (have := HGL.out; have := HL.out; omega)); intro v8 w8 ho hbel hg hat; (have HV8 : Aside0 (VotAt 78 w8 g e2 f2) := ⟨(hg.block _ (blk_lt HV7j.out) (RG_ne HGj.out HV7j.out (by decide))).trans HV7j.out⟩); (have HVP8 : Aside0 (VotAt 23 w8 gp e2 f2) := ⟨(hg.block _ (blk_lt HVj.out) (RG_ne HGj.out HVj.out (by decide))).trans HVj.out⟩); obtain ⟨A8, c8, rfl⟩ := Kd.R_slice ho; (have HO := Aside0.mk ho); (have HB8 := Aside0.mk hbel); clear ho hbel hg hat)
            go_meet
            exact ⟨A8, c8, gv ++ [(e2, 0, f2)], by simp, HV8, HVP8, HO, ⟨HP5.out.2.1.push HX10.out⟩, ⟨by have := HGL.out; simp; omega⟩, HB8⟩
      case rest =>
      clear HG7 HV7 HVP HB7 HB67 HS7
      obtain ⟨A8, c8, gv8, rfl, HV8, HVP8, HG8, HGI8, HGL8, HB8⟩ := hcut
      by_cases hk3 : k % 3 = 2
      · have d3 : ((k : Int) % 3 == 2) = true := beq_iff_eq.mpr (by omega)
        have hok := HP5.out.1
        have hen := vencode_ok e2 f2 wc
        unfold encVF at hen
        rw [if_pos hok] at hen
        dsimp only at hen
        have hbl : (encV e2 f2 ++ le (sumOf (encV e2 f2) : Int) 4).length = 13 := by rw [List.length_append, encV_length, le_length]
        have hbb : AllB (encV e2 f2 ++ le (sumOf (encV e2 f2) : Int) 4) := AllB_app (encV_AllB _ _) (le_AllB' _ _)
        have hbd := dec_encV hok
        generalize encV e2 f2 ++ le (sumOf (encV e2 f2) : Int) 4 = b at hen hbl hbb hbd
        have HBL := Aside0.mk hbl
        have HBBB := Aside0.mk hbb
        have HBD := Aside0.mk hbd
        have hne := neV
        obtain ⟨p0, p1, _, _⟩ := HVP8.out.cells
        clear hk3 hbl hbb hbd hok
        go_wp2_with (first
          | (go_at_call 22; refine hen.mono ?_; rintro r w9 ⟨u9, rfl, hR9, hB9⟩; obtain ⟨A9, c9, rfl, hc9, hC9⟩ := Kd.R_reads hR9; (have HB9 := Aside0.mk hB9); (have hde := vdecode_ok A9 c9 b w9 hC9 hc9 HBBB.out (by have := HBL.out; omega)); rw [HBD.out] at hde; clear p0 p1 hB9 hR9 hC9 hc9 hen)
          | (go_at_call 24; refine hde.mono ?_; rintro r w10 ⟨rfl, hB10⟩; (have HQ10 : Aside0 (VotAt 23 (w10.alloc (.cells #[.int .i64 e2, .int .i64 f2] 23)) w10.heap.size e2 f2) := ⟨blk_new _ _⟩); (have HB10 : Aside0 (Below wc.heap.size wc (w10.alloc (.cells #[.int .i64 e2, .int .i64 f2] 23))) := ⟨(below_from HB9.out (Nat.le_refl _) hB10).alloc (below_from HB9.out (Nat.le_refl _) hB10).size _⟩); (have hnw := new_ok e2 f2 (w10.alloc (.cells #[.int .i64 e2, .int .i64 f2] 23)) HP5.out.1); clear hB10 hde)
          | (go_at_call 8; refine hnw.mono ?_; rintro r w11 ⟨g11, rfl, hg11, hV11, hB11⟩; (have HB11 := Aside0.mk (below_from HB10.out (Nat.le_refl _) hB11)); (have HV11 := Aside0.mk hV11); (have HG11 := Aside0.mk (Nat.le_trans (Nat.le_trans HB8.out.size HB10.out.size) hg11)); (have hq := HQ10.out.below hB11); obtain ⟨q0, q1, _, _⟩ := hq.cells; (have hp := HVP8.out.below HB11.out); obtain ⟨p0, p1, _, _⟩ := hp.cells; (have l1 := blk_lt hq); (have l2 := blk_lt hp); clear hB11 hV11 hg11 hnw hq hp))
        exact ⟨⟨k + 1, g11, e2, f2, A8, c8, gv8, by omega, by simp, rfl, rfl, ⟨HP5.out.1⟩, HV11, ⟨Kd.R_below HG8.out HB11.out⟩, HGI8, HGL8, HG11, ⟨below_from HB8.out (Nat.le_refl _) HB11.out⟩⟩, by simp [intOf]; omega⟩
      · have d3 : ((k : Int) % 3 == 2) = false := beq_eq_false_iff_ne.mpr (by omega)
        clear hk3
        go_wp2
        exact ⟨⟨k + 1, g, e2, f2, A8, c8, gv8, by omega, by simp, rfl, rfl, ⟨HP5.out.1⟩, HV8, HG8, HGI8, HGL8, HGB, HB8⟩, by simp [intOf]; omega⟩
    · have hnlt : ¬ (k : Int) < (l.length : Int) := by omega
      go_wp2_with (go_at_call 10; refine (speaks_ok _).mono ?_; rintro r w8 ⟨rfl, hB8⟩; (have HB8 := Aside0.mk (below_from HB.out (Nat.le_refl _) hB8)); clear hB8)
      go_ret
      exact ⟨rfl, HB8.out⟩
end Go.Proofs.Ytjbddcaamefgaaa.Vote
