/- Which bytes hold a checkpoint: the document's answer. -/
import Derived.Test.YtbpnigldojpapaaPointsDec
namespace Go.Proofs.Ytbpnigldojpapaa.Points
open Go.RowKit Go.Proofs.YtbpnigldojpapaaW.PrintWords Go.Proofs.YtbpnigldojpapaaW.PrintLast Go.Proofs.YtbpnigldojpapaaW.PrintMore Go.Proofs.Ytbpnigldojpapaa.Wire Go.Proofs.Ytbpnigldojpapaa.Crc
open Go.Proofs.Ytbpnigldojpapaa.Back (AllB numB numB_small)
set_option linter.unusedVariables false
set_option linter.unusedSimpArgs false
theorem PtAt.chg {T : TypeId} {w w1 : World} {g : Nat} {n l r : Int} {S : Nat → Prop} (h : PtAt T w g n l r) (hc : Chg w w1 S) (hn : ¬ S g) : PtAt T w1 g n l r := hc.blk h hn
theorem rf_new {w w2 : World} {A : Option Addr} {c : Nat} {ys : List Int} (hC : Kd.C (Kd.int .u8) w A ys.length ys) (hc : ys.length ≤ c) (hB : Below w.heap.size w w2) (hold : ∀ ad, A = some ad → ad.block < w.heap.size) :
    RfAt (w2.alloc (.cells #[.slice A ys.length c, .int .i64 0] 77)) w2.heap.size ys 0 (fun k => k = w2.heap.size ∨ ∃ ad, A = some ad ∧ k = ad.block) := by
  have hs := hB.size
  refine ⟨A, c, blk_new _ _, hc, Kd.C_below hC (hB.alloc hs _), fun ad e _ => ⟨.inr ⟨ad, e, rfl⟩, by have := hold ad e; omega⟩, .inl rfl, fun k hk => ?_⟩
  have hz : (w2.alloc (.cells #[.slice A ys.length c, .int .i64 0] 77)).heap.size = w2.heap.size + 1 := by
    show (w2.heap.push _).size = _
    simp
  rcases hk with rfl | ⟨ad, e, rfl⟩
  · omega
  · have := hold ad e
    omega
set_option maxRecDepth 100000 in
set_option maxHeartbeats 8000000 in
theorem refdecode_ok (A : Option Addr) (c : Nat) (xs : List Int) (w : World) (hr : Kd.C (Kd.int .u8) w A xs.length xs) (hc : xs.length ≤ c) (hb : AllB xs) (hl : xs.length ≤ 140737488355328) :
    Calls Try.prog 14 #[.slice A xs.length c] w fun e w' => e = .returned (.tuple #[.agg #[.int .i64 (decF xs).1.1, .int .i64 (decF xs).1.2.1, .int .i64 (decF xs).1.2.2], .int .i64 (decF xs).2]) ∧ Below w.heap.size w w' := by
  have hp0 : PtAt 40 (w.alloc (.cells #[.int .i64 0, .int .i64 0, .int .i64 0] 40)) w.heap.size 0 0 0 := blk_new _ _
  have HP0 := Aside0.mk hp0
  have HB0 := Aside0.mk (below_alloc (Below.refl w.heap.size w) (.cells #[.int .i64 0, .int .i64 0, .int .i64 0] 40))
  unfold decF
  by_cases h28 : xs.length < 28
  · rw [if_pos h28]
    have d0 : decide ((xs.length : Int) < 28) = true := decide_eq_true (by omega)
    have hlen : xs.length ≤ 9223372036854775807 := hr.2.1
    clear hr hb hp0 hl hc
    go_enter Try.func14, Try.ntmps14
    go_wp2
    refine bodyPost_ret (results_ct rfl _ _ w.heap.size 40 #[.int .i64 0, .int .i64 0, .int .i64 0] (0, 0) _ rfl (blk_new _ _) Try.underlying40 rfl (by kernel_rfl)) rfl ?_
    exact ⟨rfl, HB0.out⟩
  · rw [if_neg h28]
    have d0 : decide ((xs.length : Int) < 28) = false := decide_eq_false (by omega)
    have hml : 28 ≤ xs.length := by omega
    have hCt := Kd.C_take hr hml
    have htl : (xs.take 28).length = 28 := by rw [List.length_take]; omega
    have htb : AllB (xs.take 28) := fun x hx => hb x (List.mem_of_mem_take hx)
    have hcut : ∀ W : World, (Instr.slice 35 (.slice A xs.length c) none (some (.int .i64 28)) none).run Try.prog W = .ok (.slice A 28 c) W := by
      intro W
      exact cut_to (P := Try.prog) 35 5 .i64 Try.underlying35 (info_parts info8).choose_spec.1 A xs.length c 28 (by omega) (by omega) hc W
    have hcut2 : ∀ W : World, (Instr.slice 35 (.slice A xs.length c) none (some (.int .i64 24)) none).run Try.prog W = .ok (.slice A 24 c) W := by
      intro W
      exact cut_to (P := Try.prog) 35 5 .i64 Try.underlying35 (info_parts info8).choose_spec.1 A xs.length c 24 (by omega) (by omega) hc W
    have hop := refopen_ok A c (xs.take 28) (w.alloc (.cells #[.int .i64 0, .int .i64 0, .int .i64 0] 40)) (Kd.C_below hCt (below_alloc (Below.refl _ _) _)) (by omega) htb (by omega)
    rw [htl] at hop
    rcases op_two hml with ⟨h1, h2⟩ | ⟨h1, h2⟩
    · rw [if_pos (by rw [h1]; decide)]
      rw [h1, h2] at hop
      clear hr hb hp0 hl hc hCt htl htb h1 h2 h28
      go_enter Try.func14, Try.ntmps14
      go_wp2_with (go_at_call 32; refine hop.mono ?_; rintro e w2 ⟨A2, c2, rfl, _, _, hB2⟩; obtain ⟨p0, p1, p2, q0, q1, q2⟩ := (HP0.out.below hB2).cells; (have HP2 := Aside0.mk (HP0.out.below hB2)); (have HB2 := Aside0.mk (below_from HB0.out (Nat.le_refl _) hB2)); clear hB2 hop)
      refine bodyPost_ret (results_ct rfl _ _ w.heap.size 40 #[.int .i64 0, .int .i64 0, .int .i64 0] (0, 0) _ rfl (HP2.out.set3 0 0 0) Try.underlying40 rfl (by kernel_rfl)) rfl ?_
      exact ⟨rfl, below_set3 HB2.out (Nat.le_refl _)⟩
    · rw [if_neg (by rw [h1]; decide)]
      rw [h1, h2] at hop
      have hyl : (xs.take 24).length = 24 := by rw [List.length_take]; omega
      have hyb : AllB (xs.take 24) := fun x hx => hb x (List.mem_of_mem_take hx)
      have hCy := Kd.C_take hr (show 24 ≤ xs.length by omega)
      have hold : ∀ ad, A = some ad → ad.block < w.heap.size := by
        intro ad e
        obtain ⟨ad', e', hcc⟩ := C_cells hr (by omega)
        rw [e] at e'
        obtain rfl := Option.some.inj e'
        have := hcc 0 (.int .u8 (xs[0]'(by omega))) (by simp [nums])
        rw [Addr.add_zero'] at this
        exact World.block_lt_of_cell? w _ this
      obtain ⟨R1, R2, R3, e1, e2, e3, hdec, hl1, hl2, hb1, hb2, hk1, hk2, hk3, hend⟩ := dec_facts hyl hyb
      rw [hdec]
      generalize xs.take 24 = ys at hop hyl e1 hyb hCy
      rw [hyl] at hop
      have hrt := fun W => refright_ok R1.1.1 R2.1.1 R3.1.1 W hk3
      have hv0 : ∃ b : Bool, (R3.2.2 != 0) = b := ⟨_, rfl⟩
      obtain ⟨b, hb0⟩ := hv0
      obtain ⟨ok, hok⟩ : ∃ b : Bool, okPt R1.1.1 R2.1.1 R3.1.1 = b := ⟨_, rfl⟩
      have hval : decV R1 R2 R3 = if b = false ∧ ok = true then ((R1.1.1, R2.1.1, R3.1.1), 0) else ((0, 0, 0), 4) := by
        unfold decV
        rw [hok]
        have : R3.2.2 = 0 ↔ b = false := by rw [← hb0]; simp
        simp [this]
      rw [hok] at hrt
      have HVAL := Aside0.mk hval
      have HN1 := Aside0.mk (fun g F W (h : RfAt W g ys 0 F) => rfnum_ok g ys 0 8 F W h (by omega) hyb)
      have HN2 := Aside0.mk (fun g F W (h : RfAt W g R1.2.1 R1.2.2 F) => rfnum_ok g R1.2.1 R1.2.2 8 F W h (by omega) hb1)
      have HN3 := Aside0.mk (fun g F W (h : RfAt W g R2.2.1 R2.2.2 F) => rfnum_ok g R2.2.1 R2.2.2 8 F W h (by omega) hb2)
      rw [← e1] at HN1
      rw [← e2] at HN2
      rw [← e3] at HN3
      have HCY := Aside0.mk hCy
      have HOLD := Aside0.mk hold
      have HYL := Aside0.mk hyl
      have HC := Aside0.mk (show 24 ≤ c by omega)
      clear hr hb hp0 hl hc hCt htl htb h1 h2 h28 hyl hyb hdec e1 e2 e3 hl1 hl2 hb1 hb2 hk1 hk2 hk3 hend hval hok hCy hold
      generalize R1.1.1 = q1 at *
      generalize R2.1.1 = q2 at *
      generalize R3.1.1 = q3 at *
      generalize R3.2.2 = q4 at *
      go_enter Try.func14, Try.ntmps14
      go_upto_region 11 with (first
        | (go_at_call 32; refine hop.mono ?_; rintro e w2 ⟨A2, c2, rfl, _, _, hB2⟩; (have HP2 := Aside0.mk ((HP0.out.below hB2).below (below_alloc (Below.refl _ _) (.cells #[.slice A 24 c, .int .i64 0] 77)))); (have HPRA := Aside0.mk (blk_lt (HP0.out.below hB2))); (have HB2 := Aside0.mk (below_from HB0.out (Nat.le_refl _) hB2)); (have hrf := rf_new (ys := ys) (c := c) HCY.out (by rw [HYL.out]; exact HC.out) HB2.out HOLD.out); rw [HYL.out] at hrf; (have hn1 := HN1.out _ _ _ hrf); clear hB2 hop hrf)
        | (go_at_call 33; refine hn1.mono ?_; rintro e w3 ⟨rfl, hr3, hC3⟩; (have HP3 := Aside0.mk (HP2.out.chg hC3 (fun e => by have e : w.heap.size = w2.heap.size := e; have := HPRA.out; omega))); (have HC3 := Aside0.mk hC3); (have hn2 := HN2.out _ _ _ hr3); clear hr3 hC3 hn1)
        | (go_at_call 33; refine hn2.mono ?_; rintro e w4 ⟨rfl, hr4, hC4⟩; (have HP4 := Aside0.mk (HP3.out.chg hC4 (fun e => by have e : w.heap.size = w2.heap.size := e; have := HPRA.out; omega))); (have HC4 := Aside0.mk (HC3.out.trans hC4 (fun k hk => .inl hk))); (have hn3 := HN3.out _ _ _ hr4); clear hr4 hC4 hn2)
        | (go_at_call 33; refine hn3.mono ?_; rintro e w5 ⟨rfl, hr5, hC5⟩; (have hp5 := HP4.out.chg hC5 (fun e => by have e : w.heap.size = w2.heap.size := e; have := HPRA.out; omega)); obtain ⟨p0, p1, p2, f0, f1, f2⟩ := hp5.cells; (have HP5 := Aside0.mk hp5); (have HB5 := Aside0.mk ((HB2.out.alloc HB2.out.size (.cells #[.slice A 24 c, .int .i64 0] 77)).trans ((HC4.out.trans hC5 (fun k hk => .inl hk)).below (HB2.out.alloc HB2.out.size _).size (fun k hk => by rw [show k = w2.heap.size from hk]; exact HB2.out.size)))); obtain ⟨A5, c5, hb5, _⟩ := hr5; obtain ⟨_, x1, _⟩ := two_cells hb5; (have l1 := blk_lt hb5); (have l2 := blk_lt hp5); clear hC5 hn3 hp5 hb5))
      have HPP : Aside0 (PtAt 40 (w5.alloc (.cells #[.int .i64 q1, .int .i64 q2, .int .i64 q3] 40)) w5.heap.size q1 q2 q3) := ⟨blk_new _ _⟩
      have HPR9 := Aside0.mk (HP5.out.below (below_alloc (Below.refl _ _) (.cells #[.int .i64 q1, .int .i64 q2, .int .i64 q3] 40)))
      have HB9 := Aside0.mk (HB5.out.alloc HB5.out.size (.cells #[.int .i64 q1, .int .i64 q2, .int .i64 q3] 40))
      cases b
      · cases ok
        · rw [if_neg (by simp)] at HVAL
          go_wp2_with (go_at_call 25; refine (hrt _).mono ?_; rintro e w7 ⟨rfl, hB7⟩; (have HPR7 := Aside0.mk (HPR9.out.below hB7)); obtain ⟨z0, z1, z2, k0, k1, k2⟩ := HPR7.out.cells; obtain ⟨y0, y1, y2, _, _, _⟩ := (HPP.out.below hB7).cells; (have HB7 := Aside0.mk (below_from HB9.out (Nat.le_refl _) hB7)); clear hB7)
          refine bodyPost_ret (results_ct rfl _ _ w.heap.size 40 #[.int .i64 0, .int .i64 0, .int .i64 0] (0, 0) _ rfl (HPR7.out.set3 0 0 0) Try.underlying40 rfl (by kernel_rfl)) rfl ?_
          rw [HVAL.out]
          exact ⟨rfl, below_set3 HB7.out (Nat.le_refl _)⟩
        · rw [if_pos (by simp)] at HVAL
          go_wp2_with (go_at_call 25; refine (hrt _).mono ?_; rintro e w7 ⟨rfl, hB7⟩; (have HPR7 := Aside0.mk (HPR9.out.below hB7)); obtain ⟨z0, z1, z2, k0, k1, k2⟩ := HPR7.out.cells; obtain ⟨y0, y1, y2, _, _, _⟩ := (HPP.out.below hB7).cells; (have HB7 := Aside0.mk (below_from HB9.out (Nat.le_refl _) hB7)); clear hB7)
          refine bodyPost_ret (results_ct rfl _ _ w.heap.size 40 #[.int .i64 q1, .int .i64 q2, .int .i64 q3] (0, 0) _ rfl (HPR7.out.set3 q1 q2 q3) Try.underlying40 rfl (by kernel_rfl)) rfl ?_
          rw [HVAL.out]
          exact ⟨rfl, below_set3 HB7.out (Nat.le_refl _)⟩
      · rw [if_neg (by simp)] at HVAL
        go_wp2
        refine bodyPost_ret (results_ct rfl _ _ w.heap.size 40 #[.int .i64 0, .int .i64 0, .int .i64 0] (0, 0) _ rfl (PtAt.below (HP5.out.set3 0 0 0) (below_alloc (Below.refl _ _) _)) Try.underlying40 rfl (by kernel_rfl)) rfl ?_
        rw [HVAL.out]
        exact ⟨rfl, (below_set3 HB5.out (Nat.le_refl _)).alloc (below_set3 (g := w.heap.size) HB5.out (Nat.le_refl _)).size _⟩
end Go.Proofs.Ytbpnigldojpapaa.Points
