-- Parts melded by a program of this session.
import Derived.Test.YtgjibcfkjaedfaaKWB
import Derived.Test.YtgjibcfkjaedfaaKRA
/- latticeref10's Read. -/
namespace Go.Proofs.Ytgjibcfkjaedfaa.Wal
open Go.RowKit Go.Proofs.YtgjibcfkjaedfaaW.PrintWords Go.Proofs.YtgjibcfkjaedfaaW.PrintLast Go.Proofs.YtgjibcfkjaedfaaW.PrintMore Go.Proofs.Ytgjibcfkjaedfaa.Wire Go.Proofs.Ytgjibcfkjaedfaa.Pr Go.Proofs.Ytgjibcfkjaedfaa.Rec
open Go.Proofs.Ytgjibcfkjaedfaa.Back (AllB)
set_option linter.unusedVariables false
set_option linter.unusedSimpArgs false
set_option maxHeartbeats 16000000 in
set_option maxRecDepth 100000 in
theorem rread_ok (A : Option Addr) (c : Nat) (xs : List Int) (w : World) (hr : Kd.C (Kd.int .u8) w A xs.length xs) (hc : xs.length ≤ c) (hb : AllB xs) (hl : xs.length ≤ 140737488355328) :
    Calls Try.prog 38 #[.slice A xs.length c] w fun e w' => ∃ (g : Nat) (l : List RecS) (u : Nat), e = .returned (.tuple #[.pointer (some ⟨g, 0, none⟩), .int .i64 u]) ∧ (Reads xs l u ∧ Stops xs l u) ∧ LogAt 37 w' (fun k => w.heap.size ≤ k) g l l.length ∧ Below w.heap.size w w' := by
  have HX := Aside0.mk hr
  have HXC := Aside0.mk hc
  have HXB := Aside0.mk hb
  have HXL := Aside0.mk hl
  have hxl : xs.length ≤ 9223372036854775807 := hr.2.1
  have hn : LogAt 37 (w.alloc (.cells #[.slice none 0 0, .int .i64 0] 37)) (fun k => w.heap.size ≤ k) w.heap.size [] 0 := ⟨none, 0, blk_newN _ _, Nat.le_refl _, Kd.R_nil _ _ _ _ _⟩
  have HL := Aside0.mk hn
  have HB := Aside0.mk (below_alloc (Below.refl w.heap.size w) (.cells #[.slice none 0 0, .int .i64 0] 37))
  clear hr hc hb hl hn
  go_enter Try.func38, Try.ntmps38
  go_wp2
  go_loopw [5] (fun v5 wr => ReadIn w 37 w.heap.size xs v5 wr) (fun v5 _ => xs.length - (intOf v5).toNat)
  case atStart => exact ⟨[], 0, rfl, ⟨.nil⟩, HL, HB⟩
  case round =>
      clear HL HB
      obtain ⟨l, u, rfl, HRD, HL, HB⟩ := hrel
      obtain ⟨hu, hll⟩ := HRD.out.len HXB.out
      have HLN : Aside0 (l.length ≤ 1759218604441) := ⟨by omega⟩
      have HUX := Aside0.mk hu
      obtain ⟨A', hcut, hcr⟩ := bytes_rest (A := A) (c := c) (n := xs.length) (m := u) hu
      have hC2 := hcr wr xs rfl HXC.out (Kd.C_below HX.out HB.out)
      have hdl : (xs.drop u).length = xs.length - u := List.length_drop
      have hde := rfdec9_ok A' (c - u) (xs.drop u) wr (by rw [hdl]; exact hC2) (by have := HXC.out; omega) (allB_drop HXB.out u) (by have := HXL.out; omega)
      rw [hdl] at hde
      obtain ⟨nd, hnd⟩ : ∃ nd, xs.length - u = nd := ⟨_, rfl⟩
      rw [hnd] at hcut hde
      obtain ⟨⟨⟨a0, a1, a2, a3, a4, a5, a6, a7⟩, n, f⟩, hD⟩ : ∃ D, decF9 (xs.drop u) = D := ⟨_, rfl⟩
      rw [hD] at hde
      dsimp only at hde
      have hu0 : (0 : Int) ≤ (u : Int) := by omega
      have hu1 : (u : Int) ≤ (xs.length : Int) := by omega
      have hln : (l.length : Int) ≤ 65536 := by omega
      have hw1 : IntKind.i64.wrap ((l.length : Int) + 1) = (l.length : Int) + 1 := by rw [IntKind.wrap_i64]; omega
      have hw2 : wrap64 ((l.length : Int) + 1) = (l.length : Int) + 1 := by unfold wrap64; omega
      have hl0 : (0 : Int) ≤ (l.length : Int) := by omega
      have HD := Aside0.mk hD
      clear hC2 hcr hdl hnd
      by_cases hf : f = 0
      · subst hf
        obtain ⟨hr, m, rfl, hm6, hmx, hmb, hmt⟩ := dec9_le (allB_drop HXB.out u) hD
        clear hmb hmt
        rw [List.length_drop] at hmx
        by_cases h1 : a0 = (l.length : Int) + 1
        · have d1 : (a0 != (l.length : Int) + 1) = false := by simp [h1]
          by_cases h2 : a1 < lastE l
          · have d2 : decide (a1 < lastE l) = true := decide_eq_true h2
            have HST : Aside0 (Stops xs l u) := ⟨by
              unfold Stops
              rw [HD.out]
              exact .inr (.inr (.inl h2))⟩
            clear hD hr hm6 hmx h1 h2 hu hll
            go_wp2_with (first
              | (go_at_call 59; (with_reducible refine hde.mono ?_); rintro e w2 ⟨rfl, hB⟩; (have HN := Aside0.mk (rc_new w2 a0 a1 a2 a3 a4 a5 a6 a7)); (have HWS := Aside0.mk hB.size); (have HBA := Aside0.mk (below_alloc hB (.cells #[.int .i64 a0, .int .i64 a1, .int .i64 a2, .int .i64 a3, .int .i64 a4, .int .i64 a5, .string a6, .string a7] 53))); obtain ⟨⟨b0, b1, b2, b3, b4, b5, b6, b7⟩, ⟨fb0, fb1, fb2, fb3, fb4, fb5, fb6, fb7⟩⟩ := HN.out.cells; (have ltn := HN.out.lt); (have hla := rlast_okB (HL.out.below HBA.out) HLN.out); clear hB hde)
              | (go_at_call 60; (with_reducible refine hla.mono ?_); rintro e w3 ⟨rfl, hB⟩; clear b0 b1 b2 b3 b4 b5 b6 b7 fb0 fb1 fb2 fb3 fb4 fb5 fb6 fb7 ltn; (replace HN := Aside0.mk (HN.out.below hB)); (replace HBA := Aside0.mk (below_from2 HBA.out (Nat.le_refl _) hB)); obtain ⟨⟨b0, b1, b2, b3, b4, b5, b6, b7⟩, ⟨fb0, fb1, fb2, fb3, fb4, fb5, fb6, fb7⟩⟩ := HN.out.cells; (have ltn := HN.out.lt); (replace HL := Aside0.mk (HL.out.below HBA.out)); obtain ⟨A2, c2, hb, ⟨h0, h1, f0, f1⟩, _, _⟩ := HL.out.row; (have ltg := blk_lt hb); clear hb hB hla))
            go_ret2
            exact ⟨w.heap.size, l, u, rfl, ⟨HRD.out, HST.out⟩, HL.out.putF (by decide) _, (below_from2 HB.out (Nat.le_refl _) HBA.out).setCell (Nat.le_refl _) _⟩
          · have d2 : decide (a1 < lastE l) = false := decide_eq_false h2
            by_cases h3 : l.length = 65536
            · have d3 : decide ((l.length : Int) ≥ 65536) = true := decide_eq_true (by omega)
              have d4 : 65536 ≤ l.length := by omega
              have HST : Aside0 (Stops xs l u) := ⟨by
                unfold Stops
                rw [HD.out]
                exact .inr (.inr (.inr h3))⟩
              clear hD hr hm6 hmx h1 h2 h3 hu hll
              go_wp2_with (first
                | (go_at_call 59; (with_reducible refine hde.mono ?_); rintro e w2 ⟨rfl, hB⟩; (have HN := Aside0.mk (rc_new w2 a0 a1 a2 a3 a4 a5 a6 a7)); (have HWS := Aside0.mk hB.size); (have HBA := Aside0.mk (below_alloc hB (.cells #[.int .i64 a0, .int .i64 a1, .int .i64 a2, .int .i64 a3, .int .i64 a4, .int .i64 a5, .string a6, .string a7] 53))); obtain ⟨⟨b0, b1, b2, b3, b4, b5, b6, b7⟩, ⟨fb0, fb1, fb2, fb3, fb4, fb5, fb6, fb7⟩⟩ := HN.out.cells; (have ltn := HN.out.lt); (have hla := rlast_okB (HL.out.below HBA.out) HLN.out); clear hB hde)
                | (go_at_call 60; (with_reducible refine hla.mono ?_); rintro e w3 ⟨rfl, hB⟩; clear b0 b1 b2 b3 b4 b5 b6 b7 fb0 fb1 fb2 fb3 fb4 fb5 fb6 fb7 ltn; (replace HN := Aside0.mk (HN.out.below hB)); (replace HBA := Aside0.mk (below_from2 HBA.out (Nat.le_refl _) hB)); obtain ⟨⟨b0, b1, b2, b3, b4, b5, b6, b7⟩, ⟨fb0, fb1, fb2, fb3, fb4, fb5, fb6, fb7⟩⟩ := HN.out.cells; (have ltn := HN.out.lt); (replace HL := Aside0.mk (HL.out.below HBA.out)); obtain ⟨A2, c2, hb, ⟨h0, h1, f0, f1⟩, _, _⟩ := HL.out.row; (have ltg := blk_lt hb); clear hb hB hla))
              go_ret2
              exact ⟨w.heap.size, l, u, rfl, ⟨HRD.out, HST.out⟩, HL.out.putF (by decide) _, (below_from2 HB.out (Nat.le_refl _) HBA.out).setCell (Nat.le_refl _) _⟩
            · have d3 : decide ((l.length : Int) ≥ 65536) = false := decide_eq_false (by omega)
              have d4 : ¬ 65536 ≤ l.length := by omega
              have HST : Aside0 (Reads xs (l ++ [⟨a0, a1, a2, a3, a4, a5, a6, a7⟩]) (u + m)) := ⟨.snoc HRD.out HD.out h1 (by show lastE l ≤ a1; omega) (by omega)⟩
              have hum : (u : Int) + (m : Int) ≤ (xs.length : Int) := by omega
              have hw4 : IntKind.i64.wrap ((u : Int) + (m : Int)) = ((u + m : Nat) : Int) := by have := HXL.out; rw [IntKind.wrap_i64]; omega
              have hw5 : wrap64 ((u : Int) + (m : Int)) = ((u + m : Nat) : Int) := by have := HXL.out; unfold wrap64; omega
              have HM6 := Aside0.mk hm6
              have HUM := Aside0.mk hum
              have HLL := Aside0.mk hll
              obtain ⟨qs, hqs⟩ : ∃ qs, l ++ [(⟨a0, a1, a2, a3, a4, a5, a6, a7⟩ : RecS)] = qs := ⟨_, rfl⟩
              rw [hqs] at HST
              have HQS := Aside0.mk hqs
              have HL0 := HL
              clear hD hr hm6 hmx h1 h2 h3 hu hll hum hqs
              go_upto_region 8 with (first
                | (go_at_call 59; (with_reducible refine hde.mono ?_); rintro e w2 ⟨rfl, hB⟩; (have HN := Aside0.mk (rc_new w2 a0 a1 a2 a3 a4 a5 a6 a7)); (have HWS := Aside0.mk hB.size); (have HBA := Aside0.mk (below_alloc hB (.cells #[.int .i64 a0, .int .i64 a1, .int .i64 a2, .int .i64 a3, .int .i64 a4, .int .i64 a5, .string a6, .string a7] 53))); obtain ⟨⟨b0, b1, b2, b3, b4, b5, b6, b7⟩, ⟨fb0, fb1, fb2, fb3, fb4, fb5, fb6, fb7⟩⟩ := HN.out.cells; (have ltn := HN.out.lt); (have hla := rlast_okB (HL.out.below HBA.out) HLN.out); clear hB hde)
                | (go_at_call 60; (with_reducible refine hla.mono ?_); rintro e w3 ⟨rfl, hB⟩; clear b0 b1 b2 b3 b4 b5 b6 b7 fb0 fb1 fb2 fb3 fb4 fb5 fb6 fb7 ltn; (replace HN := Aside0.mk (HN.out.below hB)); (replace HBA := Aside0.mk (below_from2 HBA.out (Nat.le_refl _) hB)); obtain ⟨⟨b0, b1, b2, b3, b4, b5, b6, b7⟩, ⟨fb0, fb1, fb2, fb3, fb4, fb5, fb6, fb7⟩⟩ := HN.out.cells; (have ltn := HN.out.lt); (replace HL := Aside0.mk (HL.out.below HBA.out)); obtain ⟨A2, c2, hb, ⟨h0, h1, f0, f1⟩, _, _⟩ := HL.out.row; (have ltg := blk_lt hb); clear hb hB hla))
              clear h0 h1 f0 f1 ltg
              obtain ⟨A3, c3, hb0, hok, hR0⟩ := HL0.out
              have hb : w3.heap[w.heap.size]? = some (.cells #[.slice A3 l.length c3, .int .i64 0] 37 (0, 0)) := (Chg.of_below HBA.out (fun _ => False)).blk hb0 (fun h => h)
              have hR := Kd.R_below hR0 HBA.out
              have HLT := Aside0.mk (Kd.R_lt hR0)
              obtain ⟨h0, h1, f0, f1⟩ : w3.cell? ⟨w.heap.size, 0, none⟩ = some (.slice A3 l.length c3) ∧ w3.cell? ⟨w.heap.size, 1, none⟩ = some (.int .i64 0) ∧ w3.frozen? ⟨w.heap.size, 0, none⟩ = false ∧ w3.frozen? ⟨w.heap.size, 1, none⟩ = false := by simp [World.cell?, World.frozen?, hb]
              have hlc : l.length ≤ c3 := (Kd.R_reads' hR).2.1
              have ltg := blk_lt hb
              have HBK := Aside0.mk hb
              have HR := Aside0.mk hR
              have HBW := Aside0.mk (below_from2 HB.out (Nat.le_refl _) HBA.out)
              have hne : ¬ w.heap.size = w2.heap.size := by have h7 := HB.out.size; have h8 := HWS.out; have h9 := HL0.out.lt; omega
              have hne2 : ¬ w2.heap.size = w.heap.size := fun e => hne e.symm
              clear hb hok hR hb0 hR0
              go_region_law (refine Kd.R_append_step kRec (w0 := w3.drew) (W := w3.drew) 0 (by simp [Region.wanted]) (.tmp 55) (.tmp 57) 22 53 (.agg #[.int .i64 0, .int .i64 0, .int .i64 0, .int .i64 0, .int .i64 0, .int .i64 0, .string ⟨#[]⟩, .string ⟨#[]⟩]) 80 rfl Try.underlying22 infoRec rfl (by decide) (by decide) (.slice A3 l.length c3) l ⟨a0, a1, a2, a3, a4, a5, a6, a7⟩ [.int .i64 a0, .int .i64 a1, .int .i64 a2, .int .i64 a3, .int .i64 a4, .int .i64 a5, .string a6, .string a7] (fun k => w.heap.size ≤ k) (fun _ => False) (by simp [Act.eval, Act.put]) (by first | rfl | (simp [Act.eval, Act.put]; rfl)) (k53_mkM _ _ _ _) (fun _ hk => hk.elim) (fun k hk => Nat.le_trans HBW.out.size hk) (Kd.R_below HR.out (below_drew (Below.refl _ _))) (Below.refl _ _) (Nat.zero_le _) (by have := HLL.out; omega) ?_; intro v1 w5 ho hb5 hg5 hat5; rw [HQS.out] at ho; (have HB5 : Aside0 (w5.heap[w.heap.size]? = some (.cells #[.slice A3 l.length c3, .int .i64 0] 37 (0, 0))) := ⟨(Chg.of_grown hg5).blk (show w3.drew.heap[w.heap.size]? = _ from HBK.out) (fun e => by obtain ⟨cells, hcs⟩ := Kd.R_typed HR.out _ e.symm; rw [HBK.out] at hcs; injection hcs with hcs; injection hcs with _ hcs; cases hcs)⟩); (have HOW : Aside0 (∀ k, (Value.slice A3 l.length c3).ownBlock = some k → w.heap.size ≤ k) := ⟨HR.out.1⟩); obtain ⟨B1, d5, rfl⟩ := Kd.R_slice ho; (have HO := Aside0.mk ho); (have HG5 : Aside0 (Chg w3 w5 (fun k => some k = (Value.slice A3 l.length c3).ownBlock)) := ⟨(show Chg w3 w3.drew (fun k => some k = (Value.slice A3 l.length c3).ownBlock) from Chg.of_below (below_drew (Below.refl _ _)) _).trans (Chg.of_grown hg5) (fun k hk => .inl hk)⟩); clear b0 b1 b2 b3 b4 b5 b6 b7 fb0 fb1 fb2 fb3 fb4 fb5 fb6 fb7 ltn h0 h1 f0 f1 ltg; (have ltg := blk_lt HB5.out); obtain ⟨h0, h1, f0, f1⟩ : w5.cell? ⟨w.heap.size, 0, none⟩ = some (.slice A3 l.length c3) ∧ w5.cell? ⟨w.heap.size, 1, none⟩ = some (.int .i64 0) ∧ w5.frozen? ⟨w.heap.size, 0, none⟩ = false ∧ w5.frozen? ⟨w.heap.size, 1, none⟩ = false := (by simp [World.cell?, World.frozen?, HB5.out]); clear ho hb5 hg5 hat5)
              all_goals
                go_wp2
                go_roundw
                case rel => exact ⟨qs, u + m, by first | rfl | go_num | rw [hw5], HST, ⟨LogAt.put HB5.out (by decide) (Nat.le_refl _) HO.out⟩, ⟨(HBW.out.trans (HG5.out.below HBW.out.size (fun k hk => HOW.out k hk.symm))).setCell (Nat.le_refl _) _⟩⟩
                case measure => have h1 := HM6.out; have h2 := HUM.out; simp [intOf]; omega
        · have d1 : (a0 != (l.length : Int) + 1) = true := by simp [h1]
          have HST : Aside0 (Stops xs l u) := ⟨by
            unfold Stops
            rw [HD.out]
            exact .inr (.inl h1)⟩
          clear hD hr hm6 hmx h1 hu hll
          go_wp2_with (first
            | (go_at_call 59; (with_reducible refine hde.mono ?_); rintro e w2 ⟨rfl, hB⟩; (have HN := Aside0.mk (rc_new w2 a0 a1 a2 a3 a4 a5 a6 a7)); (have HWS := Aside0.mk hB.size); (have HBA := Aside0.mk (below_alloc hB (.cells #[.int .i64 a0, .int .i64 a1, .int .i64 a2, .int .i64 a3, .int .i64 a4, .int .i64 a5, .string a6, .string a7] 53))); obtain ⟨⟨b0, b1, b2, b3, b4, b5, b6, b7⟩, ⟨fb0, fb1, fb2, fb3, fb4, fb5, fb6, fb7⟩⟩ := HN.out.cells; (have ltn := HN.out.lt); (have hla := rlast_okB (HL.out.below HBA.out) HLN.out); clear hB hde)
            | (go_at_call 60; (with_reducible refine hla.mono ?_); rintro e w3 ⟨rfl, hB⟩; clear b0 b1 b2 b3 b4 b5 b6 b7 fb0 fb1 fb2 fb3 fb4 fb5 fb6 fb7 ltn; (replace HN := Aside0.mk (HN.out.below hB)); (replace HBA := Aside0.mk (below_from2 HBA.out (Nat.le_refl _) hB)); obtain ⟨⟨b0, b1, b2, b3, b4, b5, b6, b7⟩, ⟨fb0, fb1, fb2, fb3, fb4, fb5, fb6, fb7⟩⟩ := HN.out.cells; (have ltn := HN.out.lt); (replace HL := Aside0.mk (HL.out.below HBA.out)); obtain ⟨A2, c2, hb, ⟨h0, h1, f0, f1⟩, _, _⟩ := HL.out.row; (have ltg := blk_lt hb); clear hb hB hla))
          go_ret2
          exact ⟨w.heap.size, l, u, rfl, ⟨HRD.out, HST.out⟩, HL.out.putF (by decide) _, (below_from2 HB.out (Nat.le_refl _) HBA.out).setCell (Nat.le_refl _) _⟩
      · have dq : (f != 0) = true := by simp [hf]
        have HST : Aside0 (Stops xs l u) := ⟨by
          unfold Stops
          rw [HD.out]
          exact .inl hf⟩
        clear hD hf hu hll
        go_wp2_with (first
          | (go_at_call 59; (with_reducible refine hde.mono ?_); rintro e w2 ⟨rfl, hB⟩; (have HN := Aside0.mk (rc_new w2 a0 a1 a2 a3 a4 a5 a6 a7)); (have HWS := Aside0.mk hB.size); (have HBA := Aside0.mk (below_alloc hB (.cells #[.int .i64 a0, .int .i64 a1, .int .i64 a2, .int .i64 a3, .int .i64 a4, .int .i64 a5, .string a6, .string a7] 53))); obtain ⟨⟨b0, b1, b2, b3, b4, b5, b6, b7⟩, ⟨fb0, fb1, fb2, fb3, fb4, fb5, fb6, fb7⟩⟩ := HN.out.cells; (have ltn := HN.out.lt); (have hla := rlast_okB (HL.out.below HBA.out) HLN.out); clear hB hde)
          | (go_at_call 60; (with_reducible refine hla.mono ?_); rintro e w3 ⟨rfl, hB⟩; clear b0 b1 b2 b3 b4 b5 b6 b7 fb0 fb1 fb2 fb3 fb4 fb5 fb6 fb7 ltn; (replace HN := Aside0.mk (HN.out.below hB)); (replace HBA := Aside0.mk (below_from2 HBA.out (Nat.le_refl _) hB)); obtain ⟨⟨b0, b1, b2, b3, b4, b5, b6, b7⟩, ⟨fb0, fb1, fb2, fb3, fb4, fb5, fb6, fb7⟩⟩ := HN.out.cells; (have ltn := HN.out.lt); (replace HL := Aside0.mk (HL.out.below HBA.out)); obtain ⟨A2, c2, hb, ⟨h0, h1, f0, f1⟩, _, _⟩ := HL.out.row; (have ltg := blk_lt hb); clear hb hB hla))
        go_ret2
        exact ⟨w.heap.size, l, u, rfl, ⟨HRD.out, HST.out⟩, HL.out.putF (by decide) _, (below_from2 HB.out (Nat.le_refl _) HBA.out).setCell (Nat.le_refl _) _⟩
end Go.Proofs.Ytgjibcfkjaedfaa.Wal
