/- The law VoteWinner, walked. -/
import Derived.Test.YtjbddcaamefgaaaVoteWinV
namespace Go.Proofs.Ytjbddcaamefgaaa.Vote
open Go.RowKit Go.Proofs.YtjbddcaamefgaaaW.PrintWords Go.Proofs.YtjbddcaamefgaaaW.PrintLast Go.Proofs.YtjbddcaamefgaaaW.PrintMore Go.Proofs.Ytjbddcaamefgaaa.Wire Go.Proofs.Ytjbddcaamefgaaa.Pr
set_option linter.unusedVariables false
set_option linter.unusedSimpArgs false
/-- the second loop: k events are done -/
def WinB (b n N bv bt be : Nat) (w : World) (v13 v67 : Value) (wr : World) : Prop :=
  ∃ (k : Nat) (vp : Nat → Nat) (tp : Nat → Option Nat) (V : Nat → Int × Int) (T : Nat → Int × Nat) (A : Option Addr) (c : Nat) (wl : List (Int × Nat)) (gv : List (Int × Int × Int)) (H : Nat → Int → Option Nat),
    k ≤ N ∧ v67 = .int .i64 k ∧ v13 = .slice A gv.length c ∧ Aside0 (gv = gvOf wl) ∧ Aside0 (Vw b n n bv bt be vp tp V T wr) ∧ Aside0 (EInv n (k : Int) (electOf V tp T wl) H) ∧ Aside0 (RG wr b (.slice A gv.length c) gv) ∧ Aside0 (gv.length ≤ k) ∧ Aside0 (Below b w wr)
/-- behind a round of the second loop -/
def WinC (b n k bv bt be : Nat) (w : World) (vp : Nat → Nat) (v13 : Value) (wx : World) : Prop :=
  ∃ (tp : Nat → Option Nat) (V : Nat → Int × Int) (T : Nat → Int × Nat) (A : Option Addr) (c : Nat) (wl : List (Int × Nat)) (gv : List (Int × Int × Int)) (H : Nat → Int → Option Nat),
    v13 = .slice A gv.length c ∧ Aside0 (gv = gvOf wl) ∧ Aside0 (Vw b n n bv bt be vp tp V T wx) ∧ Aside0 (EInv n ((k : Int) + 1) (electOf V tp T wl) H) ∧ Aside0 (RG wx b (.slice A gv.length c) gv) ∧ Aside0 (gv.length ≤ k + 1) ∧ Aside0 (Below b w wx)
/-- behind the event itself -/
def WinD (b n k bv bt be ge : Nat) (x0 : Int) (a v : Nat) (w : World) (vp : Nat → Nat) (A : Option Addr) (c : Nat) (wl : List (Int × Nat)) (gv : List (Int × Int × Int)) (wx : World) : Prop :=
  ∃ (tp : Nat → Option Nat) (V : Nat → Int × Int) (T : Nat → Int × Nat) (H : Nat → Int → Option Nat),
    Aside0 (Bd b n bv bt be ge x0 a v w vp A c gv tp V T wx) ∧ Aside0 (EInv n ((k : Int) + 1) (electOf V tp T wl) H)
/-- the loop over what was won -/
def WinE (W : World) (n : Nat) (v173 : Value) (wr : World) : Prop := ∃ j : Nat, j ≤ n ∧ v173 = .int .i64 j ∧ Aside0 (Below W.heap.size W wr)
/-- the first loop: voters are made -/
def WinA (b n bv bt be : Nat) (w : World) (v10 : Value) (wr : World) : Prop :=
  ∃ (i : Nat) (vp : Nat → Nat), i ≤ n ∧ v10 = .int .i64 i ∧ Aside0 (Vw b n i bv bt be vp (fun _ => none) (fun _ => (0, -1)) (fun _ => (0, 0)) wr) ∧ Aside0 (Below b w wr)
set_option maxRecDepth 100000 in
set_option maxHeartbeats 8000000 in
theorem winner_ok (n0 : Int) (A : Option Addr) (c : Nat) (l : List S55) (A2 : Option Addr) (c2 : Nat) (ends : List S36) (w : World) (hr : Kd.C k55 w A l.length l) (hr2 : Kd.C k36 w A2 ends.length ends) :
    Calls Try.prog 4 #[.int .i64 n0, .slice A l.length c, .slice A2 ends.length c2] w fun r w' => r = .returned (.bool true) ∧ Below w.heap.size w w' := by
  have HR := Aside0.mk hr
  have HR2 := Aside0.mk hr2
  have hna : l.length ≤ 9223372036854775807 := hr.2.1
  have hnb : ends.length ≤ 9223372036854775807 := hr2.2.1
  clear hr hr2
  by_cases hout : n0 < 1 ∨ n0 > 7 ∨ 400 < l.length
  · have hsp := speaks_ok w
    have hd : decide (n0 < 1) = true ∨ (decide (n0 < 1) = false ∧ decide (n0 > 7) = true) ∨ (decide (n0 < 1) = false ∧ decide (n0 > 7) = false ∧ (400 : Int) < (l.length : Int)) := by
      by_cases h1 : n0 < 1
      · exact .inl (decide_eq_true h1)
      · by_cases h2 : n0 > 7
        · exact .inr (.inl ⟨decide_eq_false h1, decide_eq_true h2⟩)
        · exact .inr (.inr ⟨decide_eq_false h1, decide_eq_false h2, by omega⟩)
    clear hout
    rcases hd with d1 | ⟨d1, d2⟩ | ⟨d1, d2, d3⟩
    all_goals
      go_enter Try.func4, Try.ntmps4
      go_wp2_with (go_at_call 10; refine hsp.mono ?_; rintro r w8 ⟨rfl, hB8⟩; (have HB8 := Aside0.mk hB8); clear hB8)
      go_ret
      exact ⟨rfl, HB8.out⟩
  · obtain ⟨n, rfl⟩ : ∃ n : Nat, n0 = n := ⟨n0.toNat, by omega⟩
    have hn1 : 1 ≤ n := by omega
    have hn7 : n ≤ 7 := by omega
    have hl4 : l.length ≤ 400 := by omega
    have d1 : decide ((n : Int) < 1) = false := decide_eq_false (by omega)
    have d2 : decide ((n : Int) > 7) = false := decide_eq_false (by omega)
    have d3 : ¬ (400 : Int) < (l.length : Int) := by omega
    clear hout
    go_enter Try.func4, Try.ntmps4
    go_wp2
    have HVW := Aside0.mk (Vw.start n w)
    have HB := Aside0.mk (below_alloc (below_alloc (below_alloc (Below.refl w.heap.size w) (.cells #[.pointer none, .pointer none, .pointer none, .pointer none, .pointer none, .pointer none, .pointer none] 49)) (.cells #[.pointer none, .pointer none, .pointer none, .pointer none, .pointer none, .pointer none, .pointer none] 51)) (.cells #[.int .i64 0, .int .i64 0, .int .i64 0, .int .i64 0, .int .i64 0, .int .i64 0, .int .i64 0, .int .i64 0, .int .i64 0, .int .i64 0, .int .i64 0, .int .i64 0, .int .i64 0, .int .i64 0] 52))
    obtain ⟨be, hbe⟩ : ∃ be, w.heap.size + 1 + 1 = be := ⟨_, rfl⟩
    obtain ⟨bt, hbt⟩ : ∃ bt, w.heap.size + 1 = bt := ⟨_, rfl⟩
    obtain ⟨bv, hbv⟩ : ∃ bv, w.heap.size = bv := ⟨_, rfl⟩
    obtain ⟨b, hb⟩ : ∃ b, b = w.heap.size := ⟨_, rfl⟩
    rw [hbe, hbt, ← hb] at HVW
    rw [show Vw b n 0 b bt be = Vw b n 0 bv bt be by rw [hb, hbv]] at HVW
    rw [hbe, hbt, hbv]
    rw [← hb] at HB
    clear hbe hbt hbv
    go_loopw [10] (fun v10 wr => WinA b n bv bt be w v10 wr) (fun v10 _ => n - (intOf v10).toNat)
    case atStart => exact ⟨0, fun _ => 0, by omega, rfl, HVW, HB⟩
    case round =>
      clear HVW HB
      obtain ⟨i, vp, hi, rfl, HVW, HB⟩ := hrel
      by_cases hlt : i < n
      · have h7 : i < 7 := by omega
        have hnew := new_ok 0 (-1) wr (by decide)
        have hix := fun W => ixV bv W i h7
        have hix2 := fun W => ixM be W i h7
        go_upto_region 13 with (go_at_call 8; refine hnew.mono ?_; rintro r w2 ⟨g, rfl, hg, hV2, hB2⟩; (have hpc := (HVW.out.below hB2).pv.cell h7); (have hpc1 := hpc.1); (have hpc2 := hpc.2); (have HVW2 := Aside0.mk (HVW.out.more h7 hg hV2 hB2)); (have HB2 := Aside0.mk (HB.out.trans ((Chg.of_below hB2 (fun _ => False)).below (hb ▸ HB.out.size) (fun _ h => h.elim)))); (have HG := Aside0.mk hg); clear hpc hB2 hV2 hg hnew)
        have HB3 : Aside0 (Below b w (w2.setCell ⟨bv, i, none⟩ (.pointer (some ⟨g, 0, none⟩)))) := ⟨HB2.out.trans ((Chg.setCell w2 ⟨bv, i, none⟩ _).below (by have := HB2.out.size; omega) (fun k hk => by rw [show k = bv from hk]; exact HVW2.out.bb.1))⟩
        clear hpc1 hpc2 HB2 HVW HB
        generalize w2.setCell ⟨bv, i, none⟩ (.pointer (some ⟨g, 0, none⟩)) = W at HVW2 HB3 ⊢
        by_cases hle : i < ends.length
        · have hle2 : (i : Int) < (ends.length : Int) := by omega
          obtain ⟨ad, rfl, hx0, hx1⟩ := at_T36 (Kd.C_below HR2.out (hb ▸ HB3.out)) (i : Int) (by omega) hle2
          rw [Int.toNat_natCast] at hx0 hx1
          generalize rd_T36 ends (i : Int) = x at hx0 hx1
          obtain ⟨x0, x1⟩ := x
          dsimp only at hx0 hx1
          have hm0 := HVW2.out.me
          obtain ⟨m, hm⟩ := hm0
          have hc0 := hm.cell (i := i * 2) (by omega)
          have hc1 := (hm.set (i := i * 2) (by omega) x0).cell (i := i * 2 + 1) (by omega)
          have hc2 := hm.cell (i := i * 2 + 1) (by omega)
          have HM := Aside0.mk hm
          clear hm
          go_wp2
          exact ⟨⟨i + 1, updF vp i g, by omega, by simp, ⟨(HVW2.out.mark (by omega) x0).mark (by omega) x1⟩, ⟨below_set (below_set HB3.out (by omega) _ _ HVW2.out.bb.2.2) (by omega) _ _ HVW2.out.bb.2.2⟩⟩, by simp [intOf]; omega⟩
        · have hle2 : ¬ (i : Int) < (ends.length : Int) := by omega
          go_wp2
          exact ⟨⟨i + 1, updF vp i g, by omega, by simp, HVW2, HB3⟩, by simp [intOf]; omega⟩
      · have hge : n = i := by omega
        subst hge
        have hnl : ¬ (n : Int) < (n : Int) := by omega
        clear hi hlt
        go_wp2
        go_loopw [13, 67] (fun v13 v67 wr => WinB b n l.length bv bt be w v13 v67 wr) (fun _ v67 _ => l.length - (intOf v67).toNat)
        case atStart => exact ⟨0, vp, fun _ => none, fun _ => (0, -1), fun _ => (0, 0), none, 0, [], [], fun _ _ => none, by omega, rfl, rfl, ⟨rfl⟩, HVW, ⟨EInv.start n⟩, ⟨Kd.R_nil _ _ _ _ _⟩, ⟨Nat.le_refl _⟩, HB⟩
        case round =>
          clear HVW HB
          obtain ⟨k, vp, tp, V, T, A1, c1, wl, gv, H, hk, rfl, rfl, HGV, HVW, HE, HG, HGL, HB⟩ := hrel
          have HWB : Aside0 (b ≤ w.heap.size) := ⟨by omega⟩
          by_cases hlt : k < l.length
          · have hltI : (k : Int) < (l.length : Int) := by omega
            have hk0 : (0 : Int) ≤ (k : Int) := by omega
            obtain ⟨ad, rfl, hx0, hx1, hx2⟩ := at_T55 (Kd.C_below HR.out (hb ▸ HB.out)) (k : Int) hk0 hltI
            rw [Int.toNat_natCast] at hx0 hx1 hx2
            generalize rd_T55 l (k : Int) = x at hx0 hx1 hx2
            obtain ⟨x0, x1, x2⟩ := x
            dsimp only at hx0 hx1 hx2
            go_upto_block 3 with (fail)
            go_cut [13] (fun v13 wx => WinC b n k bv bt be w vp v13 wx)
            case first =>
              go_upto_region 19 with (fail)
              clear hx0 hx1 hx2
              have HEV : Aside0 (EvAt (wr.alloc (.cells #[.int .i64 x0, .int .i64 x1, .int .i64 x2] 55)) wr.heap.size x0 x1 x2) := ⟨blk_new _ _⟩
              have HBA := Aside0.mk (below_alloc (Below.refl wr.heap.size wr) (.cells #[.int .i64 x0, .int .i64 x1, .int .i64 x2] 55))
              replace HVW := Aside0.mk (HVW.out.below HBA.out)
              replace HG : Aside0 (RG (wr.alloc (.cells #[.int .i64 x0, .int .i64 x1, .int .i64 x2] 55)) b (.slice A1 gv.length c1) gv) := ⟨Kd.R_below HG.out HBA.out⟩
              replace HB := Aside0.mk (below_on HB.out HWB.out HBA.out)
              clear HBA
              generalize wr.heap.size = ge at HEV ⊢
              generalize wr.alloc (.cells #[.int .i64 x0, .int .i64 x1, .int .i64 x2] 55) = W at HEV HVW HG HB ⊢
              obtain ⟨e0, e1, e2⟩ := HEV.out.cells
              by_cases hin : (0 ≤ x1 ∧ x1 < n) ∧ 0 ≤ x2 ∧ x2 < n
              · obtain ⟨⟨p1, p2⟩, p3, p4⟩ := hin
                obtain ⟨a, rfl⟩ : ∃ a : Nat, x1 = a := ⟨x1.toNat, by omega⟩
                obtain ⟨v, rfl⟩ : ∃ v : Nat, x2 = v := ⟨x2.toNat, by omega⟩
                have han : a < n := by omega
                have hvn : v < n := by omega
                have ha7 : a < 7 := by omega
                have hv7 : v < 7 := by omega
                have q1 : ¬ (a : Int) < 0 := by omega
                have q2 : ¬ (v : Int) < 0 := by omega
                have q3 : ¬ (n : Int) ≤ (a : Int) := by omega
                have q4 : ¬ (n : Int) ≤ (v : Int) := by omega
                clear p1 p2 p3 p4
                have HBD : Aside0 (Bd b n bv bt be ge x0 a v w vp A1 c1 gv tp V T W) := ⟨⟨HVW.out, HG.out, HEV.out, HB.out, HWB.out⟩⟩
                clear HVW HG HEV HB
                go_upto_if 93 with (fail)
                go_cut [] (fun wx => WinD b n k bv bt be ge x0 a v w vp A1 c1 wl gv wx)
                case first =>
                  have hlow : 0 ≤ (V a).1 := HE.out.low a
                  have htop : (V a).1 ≤ (k : Int) := HE.out.top a
                  have hix := fun W => ixV bv W a ha7
                  have hix2 := fun W => ixT bt W a ha7
                  have HN1 := Aside0.mk hn1
                  have HN7 := Aside0.mk hn7
                  have HA := Aside0.mk han
                  have HA7 := Aside0.mk ha7
                  by_cases hx0 : x0 = 0
                  · have e3 : (x0 == 0) = true := beq_iff_eq.mpr hx0
                    have hstd := HBD.out.drew.stand hn7 han hlow (by omega)
                    have HCNT : Aside0 (∀ W', _ → _) := ⟨fun W' (h : Bd b n bv bt be ge x0 a v w vp A1 c1 gv tp (updF V a ((V a).1 + 1, (a : Int))) T W') => h.count hn1 hn7 han ((V a).1 + 1) (by omega) (by omega)⟩
                    have HST : Aside0 (∀ g, _) := ⟨fun g => step_stand (T := T) HE.out a g⟩
                    have HK0 := Aside0.mk (And.intro HBD.out.drew.who.2.1 (HBD.out.drew.voter han ha7))
                    generalize (V a).1 + 1 = ve at hstd HCNT HST
                    clear e0 e1 e2 hx0 hlow htop
                    go_upto_region 21 with (fail)
                    go_region_held3 (fun w' => w'.cell? ⟨ge, 1, none⟩ = some (.int .i64 (a : Int)) ∧ w'.cell? ⟨bv, a, none⟩ = some (.pointer (some ⟨vp a, 0, none⟩)))
                      (first | (with_reducible exact HK3.out) | (with_reducible exact HK0.out))
                      (first
                        | (go_at_call 15; (with_reducible refine hstd.mono ?_); rintro r w3 ⟨rfl, hbd⟩; (have HBD3 := Aside0.mk hbd); (have HK3 := Aside0.mk (And.intro hbd.who.2.1 (hbd.voter HA.out HA7.out))); (have hcnt := HCNT.out w3 hbd); clear hbd hstd))
                    all_goals
                      obtain ⟨_, e1, _⟩ := HBD3.out.who
                      go_wp2_with (go_at_call 18; (with_reducible refine hcnt.mono ?_); rintro r w4 ⟨g, rfl, hbd, hbe⟩; obtain ⟨_, e1, _⟩ := hbd.who; obtain ⟨t1, t2⟩ := hbd.teller HA7.out; (have HBD5 := Aside0.mk hbe); clear hbd hbe hcnt)
                      go_meet
                      obtain ⟨H5, hE5⟩ := HST.out g
                      exact ⟨_, _, _, H5, HBD5, ⟨hE5⟩⟩
                  · have e3 : (x0 == 0) = false := beq_eq_false_iff_ne.mpr hx0
                    clear hx0
                    rcases htp : tp a with _ | g
                    · have t1 := HBD.out.tellerN ha7 htp
                      clear htp
                      go_wp2
                      go_meet
                      exact ⟨tp, V, T, H, HBD, ⟨HE.out.up⟩⟩
                    · have t1 := HBD.out.tellerS ha7 htp
                      have hep := HBD.out.tepoch htp
                      obtain ⟨m, hm⟩ := HBD.out.drew.vw.me
                      have hask := HBD.out.drew.ask hvn (a : Int) (T a).1 (m (a * 2)) (m (a * 2 + 1)) (m (v * 2)) (m (v * 2 + 1))
                      obtain ⟨⟨rb, re, rf⟩, hR⟩ : ∃ R, askF (V v).1 (V v).2 (a : Int) (T a).1 (newer (m (a * 2)) (m (a * 2 + 1)) (m (v * 2)) (m (v * 2 + 1))) = R := ⟨_, rfl⟩
                      have HST := Aside0.mk (step_ask HE.out htp v _ hR)
                      rw [hR] at hask
                      dsimp only at hask
                      have HK0 := Aside0.mk (HBD.out.drew.asked hm ha7 hvn hv7)
                      have HM := Aside0.mk hm
                      have HV7 := Aside0.mk hv7
                      have hix3 := fun W => ixM be W a ha7
                      have hix4 := fun W => ixM be W v hv7
                      have hix5 := fun W => ixV bv W v hv7
                      have HTP := Aside0.mk htp
                      have HV := Aside0.mk hvn
                      obtain ⟨te, hte⟩ : ∃ te, (T a).1 = te := ⟨_, rfl⟩
                      have HTE := Aside0.mk hte
                      rw [hte] at hep hask
                      clear hR htp hm hlow htop hte
                      go_upto_region 28 with (go_at_call 19; (with_reducible refine hep.mono ?_); rintro r w' ⟨rfl, rfl⟩)
                      clear e0 e1 e2 t1 hep hix2
                      go_region_held3 (fun w' => w'.cell? ⟨ge, 1, none⟩ = some (.int .i64 (a : Int)) ∧ w'.cell? ⟨ge, 2, none⟩ = some (.int .i64 (v : Int)) ∧ w'.cell? ⟨bv, v, none⟩ = some (.pointer (some ⟨vp v, 0, none⟩)) ∧ w'.cell? ⟨be, a * 2, none⟩ = some (.int .i64 (m (a * 2))) ∧ w'.cell? ⟨be, a * 2 + 1, none⟩ = some (.int .i64 (m (a * 2 + 1))) ∧ w'.cell? ⟨be, v * 2, none⟩ = some (.int .i64 (m (v * 2))) ∧ w'.cell? ⟨be, v * 2 + 1, none⟩ = some (.int .i64 (m (v * 2 + 1))))
                        (first | (with_reducible exact HK3.out) | (with_reducible exact HK0.out))
                        (first
                          | (go_at_call 11; (with_reducible refine hask.mono ?_); rintro r w3 ⟨rfl, hbd, hma⟩; (have HBD3 := Aside0.mk hbd); (have HK3 := Aside0.mk (hbd.asked (hma m HM.out) HA7.out HV.out HV7.out)); clear hbd hask hma))
                      all_goals
                        cases rb
                        · obtain ⟨H5, hE5⟩ := HST.out.1 rfl
                          go_wp2
                          go_meet
                          exact ⟨_, _, _, H5, HBD3, ⟨hE5.up⟩⟩
                        · obtain ⟨H5, hE5⟩ := HST.out.2 rfl
                          have HE5 := Aside0.mk hE5
                          have hvt := HBD3.out.drew.tvote hn1 hn7 hvn HTP.out
                          rw [HTE.out] at hvt HE5
                          have HK4 := Aside0.mk (And.intro HBD3.out.drew.who.2.1 (And.intro HBD3.out.drew.who.2.2 (HBD3.out.drew.tellerS ha7 HTP.out)))
                          have hix2 := fun W => ixT bt W a ha7
                          clear hE5
                          go_upto_region 29 with (fail)
                          go_region_held3 (fun w' => w'.cell? ⟨ge, 1, none⟩ = some (.int .i64 (a : Int)) ∧ w'.cell? ⟨ge, 2, none⟩ = some (.int .i64 (v : Int)) ∧ w'.cell? ⟨bt, a, none⟩ = some (.pointer (some ⟨g, 0, none⟩)))
                            (first | (with_reducible exact HK5.out) | (with_reducible exact HK4.out))
                            (first
                              | (go_at_call 20; (with_reducible refine hvt.mono ?_); rintro r w5 ⟨rfl, hbd⟩; (have HBD5 := Aside0.mk hbd); (have HK5 := Aside0.mk (And.intro hbd.who.2.1 (And.intro hbd.who.2.2 (hbd.tellerS HA7.out HTP.out)))); clear hbd hvt))
                          all_goals
                            go_wp2
                            go_meet
                            exact ⟨_, _, _, H5, HBD5, ⟨HE5.out.up⟩⟩
                case rest =>
                  obtain ⟨tp2, V2, T2, H2, HBD2, HE2⟩ := hcut
                  clear HBD HE e0 e1 e2
                  obtain ⟨e0, e1, e2⟩ := HBD2.out.who
                  have hix2 := fun W => ixT bt W a ha7
                  rcases htp : tp2 a with _ | g
                  · have t1 := HBD2.out.tellerN ha7 htp
                    clear htp
                    go_wp2
                    go_meet
                    exact ⟨tp2, V2, T2, A1, c1, wl, gv, H2, rfl, HGV, ⟨HBD2.out.vw⟩, HE2, ⟨HBD2.out.rg⟩, ⟨by have := HGL.out; omega⟩, ⟨HBD2.out.bl⟩⟩
                  · have t1 := HBD2.out.tellerS ha7 htp
                    have hwon := HBD2.out.twon hn1 hn7 htp
                    have HTP := Aside0.mk htp
                    clear htp
                    by_cases hw : n / 2 < pop (T2 a).2
                    · rw [decide_eq_true hw] at hwon
                      have HST := Aside0.mk (step_one HE2.out HTP.out hn7 (HBD2.out.vw.tal a g HTP.out).2 hw)
                      have hgl : gv.length ≤ 9223372036854775807 := by have := HGL.out; omega
                      clear hw
                      go_wp2_with (go_at_call 21; (with_reducible refine hwon.mono ?_); rintro r w3 ⟨rfl, hbd⟩; clear e0 e1 e2 t1; (have HBD3 := Aside0.mk hbd); clear hbd hwon)
                      go_loopw [173] (fun v173 wr => WinE w3 gv.length v173 wr) (fun v173 _ => gv.length - (intOf v173).toNat)
                      case atStart => exact ⟨0, by omega, rfl, ⟨Below.refl _ _⟩⟩
                      case round =>
                        obtain ⟨j, hj, rfl, HBj⟩ := hrel
                        have HBDj := Aside0.mk (HBD3.out.below HBj.out)
                        obtain ⟨te, hte⟩ : ∃ te, (T2 a).1 = te := ⟨_, rfl⟩
                        have HTE := Aside0.mk hte
                        clear hte
                        by_cases hjl : j < gv.length
                        · have hjI : (j : Int) < (gv.length : Int) := by omega
                          have hj0 : (0 : Int) ≤ (j : Int) := by omega
                          obtain ⟨ad2, rfl, y0, y1, y2⟩ := at_G ((Kd.R_reads' HBDj.out.rg).2.2) (j : Int) hj0 hjI
                          have hiv := HST.out.1 (rdG gv (j : Int)) (by rw [← HGV.out]; exact rdG_mem hjl)
                          rw [HTE.out] at hiv
                          rw [Int.toNat_natCast] at y0 y1 y2
                          generalize rdG gv (j : Int) = z at y0 y1 y2 hiv
                          obtain ⟨z0, z1, z2⟩ := z
                          dsimp only at y0 y1 y2 hiv
                          have HIV := Aside0.mk hiv
                          clear hiv
                          go_upto_region 35 with (fail)
                          clear y0 y1 y2
                          have hB6 := below_alloc (Below.refl wr.heap.size wr) (.cells #[.int .i64 z0, .int .i64 z1, .int .i64 z2] 61)
                          have HGN : Aside0 (GnAt (wr.alloc (.cells #[.int .i64 z0, .int .i64 z1, .int .i64 z2] 61)) wr.heap.size z0 z1 z2) := ⟨blk_new _ _⟩
                          have HB6 := Aside0.mk (below_drew (below_from HBj.out (Nat.le_refl _) hB6))
                          have HBD6 := Aside0.mk (HBDj.out.below hB6)
                          clear hB6
                          generalize wr.heap.size = gg at HGN ⊢
                          generalize wr.alloc (.cells #[.int .i64 z0, .int .i64 z1, .int .i64 z2] 61) = W6 at HGN HB6 HBD6 ⊢
                          have hep := HBD6.out.drew.tepoch HTP.out
                          rw [HTE.out] at hep
                          have HK0 : Aside0 (W6.drew.cell? ⟨gg, 0, none⟩ = some (.int .i64 z0) ∧ W6.drew.cell? ⟨gg, 2, none⟩ = some (.int .i64 z2) ∧ W6.drew.cell? ⟨ge, 1, none⟩ = some (.int .i64 (a : Int))) := ⟨HGN.out.cells.1, HGN.out.cells.2.2, HBD6.out.drew.who.2.1⟩
                          by_cases hz : z0 = te
                          · have g1 : (z0 == te) = true := beq_iff_eq.mpr hz
                            have g2 : (z2 != (a : Int)) = false := by simp [HIV.out hz]
                            clear hz
                            go_region_held3 (fun w' => w'.cell? ⟨gg, 0, none⟩ = some (.int .i64 z0) ∧ w'.cell? ⟨gg, 2, none⟩ = some (.int .i64 z2) ∧ w'.cell? ⟨ge, 1, none⟩ = some (.int .i64 (a : Int)))
                              (with_reducible exact HK0.out)
                              (first
                                | (go_at_call 19; (with_reducible refine hep.mono ?_); rintro r w' ⟨rfl, rfl⟩))
                            all_goals
                              go_wp2
                              exact ⟨⟨j + 1, by omega, by simp, HB6⟩, by simp [intOf]; omega⟩
                          · have g1 : (z0 == te) = false := beq_eq_false_iff_ne.mpr hz
                            clear hz
                            refine start_ (n := 12) (S := fun w' => w'.cell? ⟨gg, 0, none⟩ = some (.int .i64 z0) ∧ w'.cell? ⟨gg, 2, none⟩ = some (.int .i64 z2) ∧ w'.cell? ⟨ge, 1, none⟩ = some (.int .i64 (a : Int))) (ds := []) #[false, false, false, false, false, false, false, false, false, false, false, false] (by kernel_rfl) rfl rfl ⟨HK0.out.1, HK0.out.2.1, HK0.out.2.2⟩ (fun hHeld => ?_)
                            refine pure_ (i := 0) (N := some 177) (v := ?_) (a' := ?_) #[true, false, false, false, false, false, false, false, false, false, false, false] rfl rfl (by kernel_rfl) (fun _ _ _ h => h) (Or.inl ⟨by rfl, ?_⟩) ?_ ?_
                            rotate_left
                            · intro w'
                              go_simp
                              with_reducible rfl
                            rotate_left
                            · simp only [Act.put, List.setIfInBounds_toArray, List.set_cons_zero, List.set_cons_succ, i64_w, i32_w]
                              rfl
                            refine pure_ (i := 2) (N := some 179) (v := ?_) (a' := ?_) #[true, false, true, false, false, false, false, false, false, false, false, false] rfl rfl (by kernel_rfl) (fun _ _ _ h => h) (Or.inl ⟨by rfl, ?_⟩) ?_ ?_
                            rotate_left
                            · intro w'
                              go_simp
                              with_reducible rfl
                            rotate_left
                            · simp only [Act.put, List.setIfInBounds_toArray, List.set_cons_zero, List.set_cons_succ, i64_w, i32_w]
                              rfl
                            refine take_ (i := 1) (N := some 178) (v := ?_) (a' := ?_) #[true, true, true, false, false, false, false, false, false, false, false, false] rfl rfl (by kernel_rfl) (fun _ _ _ h => h) (Or.inl ⟨by rfl, ?_⟩) hHeld ?_ ?_
                            rotate_left
                            · rintro w' ⟨s0, s1, s2⟩
                              go_simp
                              with_reducible rfl
                            rotate_left
                            · simp only [Act.put, List.setIfInBounds_toArray, List.set_cons_zero, List.set_cons_succ, i64_w, i32_w]
                              rfl
                            refine one_ (i := 3) (N := some 180) #[true, true, true, true, false, false, false, false, false, false, false, false] rfl rfl (by kernel_rfl) (by decide) (fun K hK => ?_)
                            refine goes_ Try.func19 (by kernel_rfl) rfl #[.pointer (some ⟨g, 0, none⟩)] (by rfl) rfl rfl (by (try simp only [List.map_toArray, List.map_cons, List.map_nil]); first | done | rfl) ?_
                            with_reducible refine (hep).mono ?_
                            rintro r w' ⟨rfl, rfl⟩
                            refine ⟨_, rfl, ?_⟩
                            refine hK.out _ _ ⟨HK0.out.1, HK0.out.2.1, HK0.out.2.2⟩ (fun hHeld => ?_)
                            clear hK K
                            refine norm_ (a' := ?_) ?_ ?_
                            rotate_left
                            · show Act.put _ (some 180) _ = _
                              simp only [Act.put, List.setIfInBounds_toArray, List.set_cons_zero, List.set_cons_succ, i64_w, i32_w]
                              rfl
                            refine pure_ (i := 4) (N := some 181) (v := ?_) (a' := ?_) #[true, true, true, true, true, false, false, false, false, false, false, false] rfl rfl (by kernel_rfl) (fun _ _ _ h => h) (Or.inl ⟨by rfl, ?_⟩) ?_ ?_
                            rotate_left
                            · intro w'
                              go_simp
                              with_reducible rfl
                            rotate_left
                            · simp only [Act.put, List.setIfInBounds_toArray, List.set_cons_zero, List.set_cons_succ, i64_w, i32_w]
                              rfl
                            refine pure_ (i := 5) (N := some 182) (v := ?_) (a' := ?_) #[true, true, true, true, true, true, false, false, false, false, false, false] rfl rfl (by kernel_rfl) (fun _ _ _ h => h) (Or.inl ⟨by rfl, ?_⟩) ?_ ?_
                            rotate_left
                            · intro w'
                              go_simp
                              with_reducible rfl
                            rotate_left
                            · simp only [Act.put, List.setIfInBounds_toArray, List.set_cons_zero, List.set_cons_succ, i64_w, i32_w]
                              rfl
                            refine pure_ (i := 6) (N := some 183) (v := undef) (a' := ?_) #[true, true, true, true, true, true, true, false, false, false, false, false] rfl rfl (by kernel_rfl) (fun _ _ _ h => h) (Or.inr ⟨by rfl, rfl⟩) ?_ ?_
                            rotate_left
                            · simp only [Act.put, List.setIfInBounds_toArray, List.set_cons_zero, List.set_cons_succ, i64_w, i32_w]
                              rfl
                            refine pure_ (i := 7) (N := some 184) (v := undef) (a' := ?_) #[true, true, true, true, true, true, true, true, false, false, false, false] rfl rfl (by kernel_rfl) (fun _ _ _ h => h) (Or.inr ⟨by rfl, rfl⟩) ?_ ?_
                            rotate_left
                            · simp only [Act.put, List.setIfInBounds_toArray, List.set_cons_zero, List.set_cons_succ, i64_w, i32_w]
                              rfl
                            refine pure_ (i := 8) (N := some 185) (v := undef) (a' := ?_) #[true, true, true, true, true, true, true, true, true, false, false, false] rfl rfl (by kernel_rfl) (fun _ _ _ h => h) (Or.inr ⟨by rfl, rfl⟩) ?_ ?_
                            rotate_left
                            · simp only [Act.put, List.setIfInBounds_toArray, List.set_cons_zero, List.set_cons_succ, i64_w, i32_w]
                              rfl
                            refine pure_ (i := 9) (N := some 186) (v := undef) (a' := ?_) #[true, true, true, true, true, true, true, true, true, true, false, false] rfl rfl (by kernel_rfl) (fun _ _ _ h => h) (Or.inr ⟨by rfl, rfl⟩) ?_ ?_
                            rotate_left
                            · simp only [Act.put, List.setIfInBounds_toArray, List.set_cons_zero, List.set_cons_succ, i64_w, i32_w]
                              rfl
                            refine pure_ (i := 10) (N := some 187) (v := undef) (a' := ?_) #[true, true, true, true, true, true, true, true, true, true, true, false] rfl rfl (by kernel_rfl) (fun _ _ _ h => h) (Or.inr ⟨by rfl, rfl⟩) ?_ ?_
                            rotate_left
                            · simp only [Act.put, List.setIfInBounds_toArray, List.set_cons_zero, List.set_cons_succ, i64_w, i32_w]
                              rfl
                            refine pure_ (i := 11) (N := some 188) (v := ?_) (a' := ?_) #[true, true, true, true, true, true, true, true, true, true, true, true] rfl rfl (by kernel_rfl) (fun _ _ _ h => h) (Or.inl ⟨by rfl, ?_⟩) ?_ ?_
                            rotate_left
                            · intro w'
                              go_simp
                              with_reducible rfl
                            rotate_left
                            · simp only [Act.put, List.setIfInBounds_toArray, List.set_cons_zero, List.set_cons_succ, i64_w, i32_w]
                              rfl
                            refine done_ (by kernel_rfl) ?_
                            go_wp2
                            exact ⟨⟨j + 1, by omega, by simp, HB6⟩, by simp [intOf]; omega⟩
                        · have hjn : ¬ (j : Int) < (gv.length : Int) := by omega
                          have hep := HBDj.out.drew.tepoch HTP.out
                          rw [HTE.out] at hep
                          go_upto_region 38 with (fail)
                          refine start_ (n := 9) (S := fun w' => w'.cell? ⟨ge, 1, none⟩ = some (.int .i64 (a : Int))) (ds := [6, 7]) #[false, false, false, false, false, false, false, false, false] (by kernel_rfl) rfl rfl (HBDj.out.drew.who.2.1) (fun hHeld => ?_)
                          refine pure_ (i := 0) (N := some 190) (v := ?_) (a' := ?_) #[true, false, false, false, false, false, false, false, false] rfl rfl (by kernel_rfl) (fun _ _ _ h => h) (Or.inl ⟨by rfl, ?_⟩) ?_ ?_
                          rotate_left
                          · intro w'
                            go_simp
                            with_reducible rfl
                          rotate_left
                          · simp only [Act.put, List.setIfInBounds_toArray, List.set_cons_zero, List.set_cons_succ, i64_w, i32_w]
                            rfl
                          refine pure_ (i := 1) (N := some 191) (v := ?_) (a' := ?_) #[true, true, false, false, false, false, false, false, false] rfl rfl (by kernel_rfl) (fun _ _ _ h => h) (Or.inl ⟨by rfl, ?_⟩) ?_ ?_
                          rotate_left
                          · intro w'
                            go_simp
                            with_reducible rfl
                          rotate_left
                          · simp only [Act.put, List.setIfInBounds_toArray, List.set_cons_zero, List.set_cons_succ, i64_w, i32_w]
                            rfl
                          refine pure_ (i := 3) (N := some 193) (v := ?_) (a' := ?_) #[true, true, false, true, false, false, false, false, false] rfl rfl (by kernel_rfl) (fun _ _ _ h => h) (Or.inl ⟨by rfl, ?_⟩) ?_ ?_
                          rotate_left
                          · intro w'
                            go_simp
                            with_reducible rfl
                          rotate_left
                          · simp only [Act.put, List.setIfInBounds_toArray, List.set_cons_zero, List.set_cons_succ, i64_w, i32_w]
                            rfl
                          refine take_ (i := 4) (N := some 194) (v := ?_) (a' := ?_) #[true, true, false, true, true, false, false, false, false] rfl rfl (by kernel_rfl) (fun _ _ _ h => h) (Or.inl ⟨by rfl, ?_⟩) hHeld ?_ ?_
                          rotate_left
                          · intro w' s0
                            go_simp
                            with_reducible rfl
                          rotate_left
                          · simp only [Act.put, List.setIfInBounds_toArray, List.set_cons_zero, List.set_cons_succ, i64_w, i32_w]
                            rfl
                          refine one_ (i := 2) (N := some 192) #[true, true, true, true, true, false, false, false, false] rfl rfl (by kernel_rfl) (by decide) (fun K hK => ?_)
                          refine goes_ Try.func19 (by kernel_rfl) rfl #[.pointer (some ⟨g, 0, none⟩)] (by rfl) rfl rfl (by (try simp only [List.map_toArray, List.map_cons, List.map_nil]); first | done | rfl) ?_
                          with_reducible refine (hep).mono ?_
                          rintro r w' ⟨rfl, rfl⟩
                          refine ⟨_, rfl, ?_⟩
                          refine hK.out _ _ (HBDj.out.drew.who.2.1) (fun hHeld => ?_)
                          clear hK K
                          refine norm_ (a' := ?_) ?_ ?_
                          rotate_left
                          · show Act.put _ (some 192) _ = _
                            simp only [Act.put, List.setIfInBounds_toArray, List.set_cons_zero, List.set_cons_succ, i64_w, i32_w]
                            rfl
                          refine pure_ (i := 5) (N := some 195) (v := ?_) (a' := ?_) #[true, true, true, true, true, true, false, false, false] rfl rfl (by kernel_rfl) (fun _ _ _ h => h) (Or.inl ⟨by rfl, ?_⟩) ?_ ?_
                          rotate_left
                          · intro w'
                            go_simp
                            with_reducible rfl
                          rotate_left
                          · simp only [Act.put, List.setIfInBounds_toArray, List.set_cons_zero, List.set_cons_succ, i64_w, i32_w]
                            rfl
                          refine last_ (i := 6) (N := some 196) #[true, true, true, true, true, true, true, false, false] rfl rfl (by kernel_rfl) (by decide) (fun K hK => ?_)
                          refine value_ (w1 := ?_) (v := ?_) (by rfl) rfl ?_ ?_
                          rotate_left 2
                          · go_simp
                            constructor
                            · rfl
                            · rfl
                          refine hK.out _ _ ?_
                          clear hK K
                          refine norm_ (a' := ?_) ?_ ?_
                          rotate_left
                          · show Act.put _ (some 196) _ = _
                            simp only [Act.put, List.setIfInBounds_toArray, List.set_cons_zero, List.set_cons_succ, i64_w, i32_w]
                            rfl
                          refine last_ (i := 7) (N := some 197) #[true, true, true, true, true, true, true, true, false] rfl rfl (by kernel_rfl) (by decide) (fun K hK => ?_)
                          refine Kd.R_append_step kG (w0 := w) (W := wr.drew) b (by rfl) (.tmp 190) (.tmp 196) 53 61 (.agg #[.int .i64 0, .int .i64 0, .int .i64 0]) 24 rfl Try.underlying53 infoG rfl (by decide) (by omega) (.slice A1 gv.length c1) gv (te, 0, (a : Int)) [.int .i64 te, .int .i64 0, .int .i64 (a : Int)] (fun _ => True) (fun _ => False) rfl rfl ?aP (fun _ hk => hk.elim) ?aF ?aO ?aB ?aS ?aL ?_
                          case aP => exact G_mkM _ _ _ (te, 0, (a : Int))
                          case aF => exact (fun _ _ => trivial)
                          case aO => exact HBDj.out.drew.rg
                          case aB => exact HBDj.out.drew.bl
                          case aS => exact Nat.le_trans HBDj.out.lo HBDj.out.drew.bl.size
                          case aL => (have := HGL.out; omega)
                          intro v8 w8 ho hbel hg hat
                          have HVW8 := Aside0.mk (HBDj.out.drew.vw.grown HBDj.out.drew.rg hg)
                          obtain ⟨A8, c8, rfl⟩ := Kd.R_slice ho
                          have HO := Aside0.mk ho
                          have HB8 := Aside0.mk hbel
                          clear ho hbel hg hat
                          refine hK.out _ _ ?_
                          clear hK K
                          refine norm_ (a' := ?_) ?_ ?_
                          rotate_left
                          · show Act.put _ (some 197) _ = _
                            simp only [Act.put, List.setIfInBounds_toArray, List.set_cons_zero, List.set_cons_succ, i64_w, i32_w]
                            rfl
                          refine pure_ (i := 8) (N := some 13) (v := ?_) (a' := ?_) #[true, true, true, true, true, true, true, true, true] rfl rfl (by kernel_rfl) (fun _ _ _ h => h) (Or.inl ⟨by rfl, ?_⟩) ?_ ?_
                          rotate_left
                          · intro w'
                            go_simp
                            with_reducible rfl
                          rotate_left
                          · simp only [Act.put, List.setIfInBounds_toArray, List.set_cons_zero, List.set_cons_succ, i64_w, i32_w]
                            rfl
                          refine done_ (by kernel_rfl) ?_
                          go_wp2
                          go_meet
                          exact ⟨tp2, V2, T2, A8, c8, wl ++ [(te, a)], gv ++ [(te, 0, (a : Int))], H2, by simp, ⟨by rw [gvOf_push, ← HGV.out]⟩, HVW8, ⟨by rw [← HTE.out]; exact HST.out.2⟩, HO, ⟨by have := HGL.out; simp; omega⟩, HB8⟩
                    · rw [decide_eq_false hw] at hwon
                      clear hw
                      go_wp2_with (go_at_call 21; (with_reducible refine hwon.mono ?_); rintro r w3 ⟨rfl, hbd⟩; clear e0 e1 e2 t1; (have HBD3 := Aside0.mk hbd); clear hbd hwon)
                      go_meet
                      exact ⟨tp2, V2, T2, A1, c1, wl, gv, H2, rfl, HGV, ⟨HBD3.out.vw⟩, HE2, ⟨HBD3.out.rg⟩, ⟨by have := HGL.out; omega⟩, ⟨HBD3.out.bl⟩⟩
              · have hd : decide (x1 < 0) = true ∨ (decide (x1 < 0) = false ∧ decide (x1 ≥ (n : Int)) = true) ∨ (decide (x1 < 0) = false ∧ decide (x1 ≥ (n : Int)) = false ∧ decide (x2 < 0) = true) ∨ (decide (x1 < 0) = false ∧ decide (x1 ≥ (n : Int)) = false ∧ decide (x2 < 0) = false ∧ decide (x2 ≥ (n : Int)) = true) := by
                  by_cases h1 : x1 < 0
                  · exact .inl (decide_eq_true h1)
                  · by_cases h2 : x1 ≥ (n : Int)
                    · exact .inr (.inl ⟨decide_eq_false h1, decide_eq_true h2⟩)
                    · by_cases h3 : x2 < 0
                      · exact .inr (.inr (.inl ⟨decide_eq_false h1, decide_eq_false h2, decide_eq_true h3⟩))
                      · exact .inr (.inr (.inr ⟨decide_eq_false h1, decide_eq_false h2, decide_eq_false h3, decide_eq_true (by omega)⟩))
                clear hin
                rcases hd with y1 | ⟨y1, y2⟩ | ⟨y1, y2, y3⟩ | ⟨y1, y2, y3, y4⟩
                all_goals
                  go_wp2
                  go_meet
                  exact ⟨tp, V, T, A1, c1, wl, gv, H, rfl, HGV, HVW, ⟨HE.out.up⟩, HG, ⟨by have := HGL.out; omega⟩, HB⟩
            case rest =>
              obtain ⟨tp2, V2, T2, A2, c2, wl2, gv2, H2, rfl, HGV2, HVW2, HE2, HG2, HGL2, HB2⟩ := hcut
              go_wp2
              exact ⟨⟨k + 1, vp, tp2, V2, T2, A2, c2, wl2, gv2, H2, by omega, by simp, rfl, HGV2, HVW2, ⟨by have := HE2.out; rw [Int.natCast_add]; exact this⟩, HG2, HGL2, HB2⟩, by simp [intOf]; omega⟩
          · have hge : ¬ (k : Int) < (l.length : Int) := by omega
            have hsp := speaks_ok wr
            go_wp2_with (go_at_call 10; refine hsp.mono ?_; rintro r w8 ⟨rfl, hB8⟩; (have HB8 := Aside0.mk (below_on HB.out HWB.out hB8)); clear hB8)
            go_ret
            exact ⟨rfl, hb ▸ HB8.out⟩
end Go.Proofs.Ytjbddcaamefgaaa.Vote
