-- Parts melded by a program of this session.
import Derived.Test.YtgjibcfkjaedfaaKRR
/- Do two logs look the same? -/
namespace Go.Proofs.Ytgjibcfkjaedfaa.Wal
open Go.RowKit Go.Proofs.YtgjibcfkjaedfaaW.PrintWords Go.Proofs.YtgjibcfkjaedfaaW.PrintLast Go.Proofs.YtgjibcfkjaedfaaW.PrintMore Go.Proofs.Ytgjibcfkjaedfaa.Wire Go.Proofs.Ytgjibcfkjaedfaa.Pr Go.Proofs.Ytgjibcfkjaedfaa.Rec
open Go.Proofs.Ytgjibcfkjaedfaa.Back (AllB)
set_option linter.unusedVariables false
set_option linter.unusedSimpArgs false
theorem records_l0 (l : List RecS) (hl : l.length < 9223372036854775807) : ∀ (d i : Nat), i + d = l.length → latticeplain_Records.l0 (d + 1) l l (l.length : Int) (i : Int) = some true
  | 0, i, h => by
    unfold latticeplain_Records.l0
    rw [if_neg (by omega)]
  | d + 1, i, h => by
    unfold latticeplain_Records.l0
    have e : wrap64 ((i : Int) + 1) = ((i + 1 : Nat) : Int) := by unfold wrap64; omega
    rw [if_pos (by omega), if_pos (by omega), if_pos (by omega), if_pos (by omega), e]
    simp only [BEq.rfl, Bool.not_true, Bool.or_false]
    rw [if_neg (by decide)]
    exact records_l0 l hl d (i + 1) (by omega)
theorem records_f (l : List RecS) (hl : l.length < 9223372036854775807) : latticeplain_Records.f (l.length + 1) l l = some true := by
  unfold latticeplain_Records.f
  rw [if_pos rfl]
  exact records_l0 l hl l.length 0 (by omega)
theorem marks_l0 (l : List MarkS) (hl : l.length < 9223372036854775807) : ∀ (d i : Nat), i + d = l.length → latticeplain_Marks.l0 (d + 1) l l (l.length : Int) (i : Int) = some true
  | 0, i, h => by
    unfold latticeplain_Marks.l0
    rw [if_neg (by omega)]
  | d + 1, i, h => by
    unfold latticeplain_Marks.l0
    have e : wrap64 ((i : Int) + 1) = ((i + 1 : Nat) : Int) := by unfold wrap64; omega
    rw [if_pos (by omega), if_pos (by omega), if_pos (by omega), if_pos (by omega), e]
    simp only [BEq.rfl, Bool.not_true, Bool.or_false]
    rw [if_neg (by decide)]
    exact marks_l0 l hl d (i + 1) (by omega)
theorem marks_f (l : List MarkS) (hl : l.length < 9223372036854775807) : latticeplain_Marks.f (l.length + 1) l l = some true := by
  unfold latticeplain_Marks.f
  rw [if_pos rfl]
  exact marks_l0 l hl l.length 0 (by omega)
theorem records_same (A : Option Addr) (c : Nat) (A' : Option Addr) (c' : Nat) (l : List RecS) (w : World) (hr : Kd.C kRec w A l.length l) (hc : l.length ≤ c) (hr' : Kd.C kRec w A' l.length l) (hc' : l.length ≤ c') (hl : l.length < 9223372036854775807) :
    Calls Try.prog 17 #[.slice A l.length c, .slice A' l.length c'] w fun e w' => e = .returned (.bool true) ∧ Below w.heap.size w w' :=
  (latticeplain_Records.calls _ A c l A' c' l true w hr hc hr' hc' (records_f l hl)).mono fun _ _ ⟨e, d⟩ => ⟨e, d.below⟩
theorem marks_same (A : Option Addr) (c : Nat) (A' : Option Addr) (c' : Nat) (l : List MarkS) (w : World) (hr : Kd.C kMark w A l.length l) (hc : l.length ≤ c) (hr' : Kd.C kMark w A' l.length l) (hc' : l.length ≤ c') (hl : l.length < 9223372036854775807) :
    Calls Try.prog 58 #[.slice A l.length c, .slice A' l.length c'] w fun e w' => e = .returned (.bool true) ∧ Below w.heap.size w w' :=
  (latticeplain_Marks.calls _ A c l A' c' l true w hr hc hr' hc' (marks_f l hl)).mono fun _ _ ⟨e, d⟩ => ⟨e, d.below⟩
structure Sm (w W : World) (ok ok' : Nat → Prop) (g g' b1 b2 : Nat) (l : List RecS) (fl : Int) (a0 a1 a2 a3 a4 a5 : Int) (a6 a7 : ByteArray) : Prop where
  n1 : RcAt W b1 a0 a1 a2 a3 a4 a5 a6 a7
  n2 : RcAt W b2 a0 a1 a2 a3 a4 a5 a6 a7
  lg : LogAt 98 W ok g l fl
  lr : LogAt 37 W ok' g' l fl
  bw : Below w.heap.size w W
section
variable {w W W1 : World} {ok ok' : Nat → Prop} {g g' b1 b2 : Nat} {l : List RecS} {fl : Int} {a0 a1 a2 a3 a4 a5 : Int} {a6 a7 : ByteArray}
theorem Sm.below (h : Sm w W ok ok' g g' b1 b2 l fl a0 a1 a2 a3 a4 a5 a6 a7) (hB : Below W.heap.size W W1) : Sm w W1 ok ok' g g' b1 b2 l fl a0 a1 a2 a3 a4 a5 a6 a7 :=
  ⟨h.n1.below hB, h.n2.below hB, h.lg.below hB, h.lr.below hB, below_from2 h.bw (Nat.le_refl _) hB⟩
theorem Sm.cells (h : Sm w W ok ok' g g' b1 b2 l fl a0 a1 a2 a3 a4 a5 a6 a7) : (W.cell? ⟨b1, 0, none⟩ = some (.int .i64 a0) ∧ W.cell? ⟨b1, 1, none⟩ = some (.int .i64 a1) ∧ W.cell? ⟨b1, 2, none⟩ = some (.int .i64 a2) ∧ W.cell? ⟨b1, 3, none⟩ = some (.int .i64 a3) ∧ W.cell? ⟨b1, 4, none⟩ = some (.int .i64 a4) ∧ W.cell? ⟨b1, 5, none⟩ = some (.int .i64 a5) ∧ W.cell? ⟨b1, 6, none⟩ = some (.string a6) ∧ W.cell? ⟨b1, 7, none⟩ = some (.string a7)) ∧ (W.cell? ⟨b2, 0, none⟩ = some (.int .i64 a0) ∧ W.cell? ⟨b2, 1, none⟩ = some (.int .i64 a1) ∧ W.cell? ⟨b2, 2, none⟩ = some (.int .i64 a2) ∧ W.cell? ⟨b2, 3, none⟩ = some (.int .i64 a3) ∧ W.cell? ⟨b2, 4, none⟩ = some (.int .i64 a4) ∧ W.cell? ⟨b2, 5, none⟩ = some (.int .i64 a5) ∧ W.cell? ⟨b2, 6, none⟩ = some (.string a6) ∧ W.cell? ⟨b2, 7, none⟩ = some (.string a7)) ∧ W.cell? ⟨g', 1, none⟩ = some (.int .i64 fl) := by
  obtain ⟨A, c, hb, ⟨h0, h1, f0, f1⟩, hc, hC⟩ := h.lr.row
  exact ⟨h.n1.cells.1, h.n2.cells.1, h1⟩
end
theorem below_pastC {w w1 : World} (hB : Below w.drew.heap.size w.drew w1) : Below w.heap.size w w1 := below_from2 (below_drew (Below.refl _ _)) (Nat.le_refl _) hB
theorem fromF_length (l : List RecS) (a b : Int) : (fromF l a b).length ≤ l.length := by
  unfold fromF
  split
  · simp
  · rw [List.length_take, List.length_drop]; omega
theorem marksF_length (l : List RecS) : (marksF l).length ≤ l.length := by
  have h : ∀ k, k ≤ l.length → (marksF (l.take k)).length ≤ k := by
    intro k
    induction k with
    | zero => intro _; simp [marksF]
    | succ k ih =>
      intro hk
      rw [marksF_take (by omega)]
      have := markStep_length (marksF (l.take k)) (rd_T53 l (k : Int))
      have := ih (by omega)
      omega
  have := h l.length (Nat.le_refl _)
  rwa [List.take_length] at this
set_option maxHeartbeats 16000000 in
set_option maxRecDepth 100000 in
theorem same_ok {w : World} {ok ok' : Nat → Prop} {g g' : Nat} {l : List RecS} {fl : Int} (h : LogAt 98 w ok g l fl) (h' : LogAt 37 w ok' g' l fl) (hl : l.length ≤ 65536) (hs : LsnOk l) (n : Int) :
    Calls Try.prog 39 #[.pointer (some ⟨g, 0, none⟩), .pointer (some ⟨g', 0, none⟩), .int .i64 n] w fun e w' => e = .returned (.bool true) ∧ Below w.heap.size w w' := by
  have hla := last_okB h (by omega)
  have HL := Aside0.mk h
  have HL' := Aside0.mk h'
  have HLL := Aside0.mk hl
  have HLM : Aside0 (l.length ≤ 1759218604441) := ⟨by omega⟩
  have HS := Aside0.mk hs
  obtain ⟨⟨⟨a0, a1, a2, a3, a4, a5, a6, a7⟩, q⟩, hgf⟩ : ∃ P, getF l n = P := ⟨_, rfl⟩
  have HG := Aside0.mk (fun W (hB : Below w.heap.size w W) => get_ok (h.below hB) (show l.length ≤ 1759218604441 by omega) n)
  have HG' := Aside0.mk (fun W (hB : Below w.heap.size w W) => rget_ok (h'.below hB) (show l.length ≤ 1759218604441 by omega) n)
  rw [hgf] at HG HG'
  dsimp only at HG HG'
  have hbn1 : ((l.length : Int) == (l.length : Int)) = true := by simp
  have hbn2 : (lastE l == lastE l) = true := by simp
  have hbn3 : (q == q) = true := by simp
  have hbn4 : (fl == fl) = true := by simp
  have heq := fun W => eqRc W a0 a1 a2 a3 a4 a5 a6 a7
  have HFL := Aside0.mk (fromF_length l n 3)
  have HML := Aside0.mk (marksF_length l)
  clear h h' hl hs hgf
  go_enter Try.func39, Try.ntmps39
  go_upto_region 5 with (first
    | (go_at_call 21; (with_reducible refine hla.mono ?_); rintro e w1 ⟨rfl, hB⟩; (have HB := Aside0.mk hB); (have hlb := rlast_okB (HL'.out.below HB.out) HLM.out); clear hB hla)
    | (go_at_call 60; (with_reducible refine hlb.mono ?_); rintro e w2 ⟨rfl, hB⟩; (replace HB := Aside0.mk (below_from2 HB.out (Nat.le_refl _) hB)); (have hge := HG.out _ HB.out); clear hB hlb)
    | (go_at_call 47; (with_reducible refine hge.mono ?_); rintro e w3 ⟨rfl, hB⟩; (have HN1 := Aside0.mk (rc_new w3 a0 a1 a2 a3 a4 a5 a6 a7)); (replace HB := Aside0.mk (below_alloc (below_from2 HB.out (Nat.le_refl _) hB) (.cells #[.int .i64 a0, .int .i64 a1, .int .i64 a2, .int .i64 a3, .int .i64 a4, .int .i64 a5, .string a6, .string a7] 53))); (have hge' := HG'.out _ HB.out); clear hB hge)
    | (go_at_call 51; (with_reducible refine hge'.mono ?_); rintro e w4 ⟨rfl, hB⟩; (have HN2 := Aside0.mk (rc_new w4 a0 a1 a2 a3 a4 a5 a6 a7)); (replace HB := Aside0.mk (below_alloc (below_from2 HB.out (Nat.le_refl _) hB) (.cells #[.int .i64 a0, .int .i64 a1, .int .i64 a2, .int .i64 a3, .int .i64 a4, .int .i64 a5, .string a6, .string a7] 53))); (replace HN1 := Aside0.mk (HN1.out.below (below_alloc hB (.cells #[.int .i64 a0, .int .i64 a1, .int .i64 a2, .int .i64 a3, .int .i64 a4, .int .i64 a5, .string a6, .string a7] 53)))); clear hB hge'))
  have HX : Aside0 (Sm w (w4.alloc (.cells #[.int .i64 a0, .int .i64 a1, .int .i64 a2, .int .i64 a3, .int .i64 a4, .int .i64 a5, .string a6, .string a7] 53)) ok ok' g g' w3.heap.size w4.heap.size l fl a0 a1 a2 a3 a4 a5 a6 a7) := ⟨⟨HN1.out, HN2.out, HL.out.below HB.out, HL'.out.below HB.out, HB.out⟩⟩
  clear HN1 HN2 HL HL' HB HG HG'
  go_region_held3 (fun W => (W.cell? ⟨w3.heap.size, 0, none⟩ = some (.int .i64 a0) ∧ W.cell? ⟨w3.heap.size, 1, none⟩ = some (.int .i64 a1) ∧ W.cell? ⟨w3.heap.size, 2, none⟩ = some (.int .i64 a2) ∧ W.cell? ⟨w3.heap.size, 3, none⟩ = some (.int .i64 a3) ∧ W.cell? ⟨w3.heap.size, 4, none⟩ = some (.int .i64 a4) ∧ W.cell? ⟨w3.heap.size, 5, none⟩ = some (.int .i64 a5) ∧ W.cell? ⟨w3.heap.size, 6, none⟩ = some (.string a6) ∧ W.cell? ⟨w3.heap.size, 7, none⟩ = some (.string a7)) ∧ (W.cell? ⟨w4.heap.size, 0, none⟩ = some (.int .i64 a0) ∧ W.cell? ⟨w4.heap.size, 1, none⟩ = some (.int .i64 a1) ∧ W.cell? ⟨w4.heap.size, 2, none⟩ = some (.int .i64 a2) ∧ W.cell? ⟨w4.heap.size, 3, none⟩ = some (.int .i64 a3) ∧ W.cell? ⟨w4.heap.size, 4, none⟩ = some (.int .i64 a4) ∧ W.cell? ⟨w4.heap.size, 5, none⟩ = some (.int .i64 a5) ∧ W.cell? ⟨w4.heap.size, 6, none⟩ = some (.string a6) ∧ W.cell? ⟨w4.heap.size, 7, none⟩ = some (.string a7)) ∧ W.cell? ⟨g', 1, none⟩ = some (.int .i64 fl))
    (first | (with_reducible exact HX.out.cells) | (with_reducible exact (HX.out.below (below_drew (Below.refl _ _))).cells))
    (first
      | (go_at_call 36; (with_reducible refine (flushed_ok (HX.out.below (below_drew (Below.refl _ _))).lg).mono ?_); rintro e w5 ⟨rfl, hB⟩; (replace hB := below_pastC hB); (replace HX := Aside0.mk (HX.out.below hB)); (have hfr := from_ok HX.out.lg HLM.out n 3); clear hB)
      | (go_at_call 18; (with_reducible refine hfr.mono ?_); rintro e w6 ⟨A1, c1, rfl, hR, hB⟩; (replace HX := Aside0.mk (HX.out.below hB)); (have HF1 := Aside0.mk (Kd.R_reads' hR)); (have hfr' := rfrom_ok HX.out.lr HLL.out HS.out n 3); clear hB hR hfr)
      | (go_at_call 54; (with_reducible refine hfr'.mono ?_); rintro e w7 ⟨A2, c2, rfl, hR, hB⟩; (replace HX := Aside0.mk (HX.out.below hB)); (have hrs := records_same A1 c1 A2 c2 (fromF l n 3) w7 (Kd.C_below HF1.out.2.2 hB) HF1.out.2.1 (Kd.R_reads' hR).2.2 (Kd.R_reads' hR).2.1 (by have h1 := HFL.out; have h2 := HLL.out; omega)); clear hB hR hfr')
      | (go_at_call 17; (with_reducible refine hrs.mono ?_); rintro e w8 ⟨rfl, hB⟩; (replace HX := Aside0.mk (HX.out.below hB)); (have hmk := marks_ok HX.out.lg HLM.out); clear hB hrs)
      | (go_at_call 48; (with_reducible refine hmk.mono ?_); rintro e w9 ⟨A3, c3, rfl, hR, hB⟩; (replace HX := Aside0.mk (HX.out.below hB)); (have HF2 := Aside0.mk (Kd.R_reads' hR)); (have hmk' := rmarks_ok HX.out.lr HLM.out); clear hB hR hmk)
      | (go_at_call 61; (with_reducible refine hmk'.mono ?_); rintro e w10 ⟨A4, c4, rfl, hR, hB⟩; (replace HX := Aside0.mk (HX.out.below hB)); (have hms := marks_same A3 c3 A4 c4 (marksF l) w10 (Kd.C_below HF2.out.2.2 hB) HF2.out.2.1 (Kd.R_reads' hR).2.2 (Kd.R_reads' hR).2.1 (by have h1 := HML.out; have h2 := HLL.out; omega)); clear hB hR hmk')
      | (go_at_call 58; (with_reducible refine hms.mono ?_); rintro e w11 ⟨rfl, hB⟩; (replace HX := Aside0.mk (HX.out.below hB)); clear hB hms))
  all_goals
    go_wp2
    go_ret
    exact ⟨rfl, HX.out.bw⟩
end Go.Proofs.Ytgjibcfkjaedfaa.Wal

/- What the laws of layer 10 ask first. -/
namespace Go.Proofs.Ytgjibcfkjaedfaa.Wal
open Go.RowKit Go.Proofs.YtgjibcfkjaedfaaW.PrintWords Go.Proofs.YtgjibcfkjaedfaaW.PrintLast Go.Proofs.YtgjibcfkjaedfaaW.PrintMore Go.Proofs.Ytgjibcfkjaedfaa.Wire Go.Proofs.Ytgjibcfkjaedfaa.Pr Go.Proofs.Ytgjibcfkjaedfaa.Rec
open Go.Proofs.Ytgjibcfkjaedfaa.Back (AllB)
set_option linter.unusedVariables false
set_option linter.unusedSimpArgs false
abbrev r1S : RecS := ⟨1, 1, 1, 0, 0, 0, ⟨#[]⟩, ⟨#[]⟩⟩
abbrev r2S : RecS := ⟨2, 3, 1, 0, 0, 0, ⟨#[]⟩, ⟨#[]⟩⟩
theorem r1_right : rightV (toV r1S) = true := by decide +kernel
theorem r2_right : rightV (toV r2S) = true := by decide +kernel
theorem app1 : appF [] ⟨0, 1, 1, 0, 0, 0, ⟨#[]⟩, ⟨#[]⟩⟩ = ([r1S], 1, 0) := by
  unfold appF
  rw [if_pos (show rightV (toV (withLsn ⟨0, 1, 1, 0, 0, 0, ⟨#[]⟩, ⟨#[]⟩⟩ ((([] : List RecS).length : Int) + 1))) = true from r1_right), if_neg (by decide), if_neg (by decide)]
  rfl
theorem app2 : appF [r1S] ⟨0, 3, 1, 0, 0, 0, ⟨#[]⟩, ⟨#[]⟩⟩ = ([r1S, r2S], 2, 0) := by
  unfold appF
  rw [if_pos (show rightV (toV (withLsn ⟨0, 3, 1, 0, 0, 0, ⟨#[]⟩, ⟨#[]⟩⟩ ((([r1S] : List RecS).length : Int) + 1))) = true from r2_right), if_neg (by decide), if_neg (by decide)]
  rfl
theorem bytes12 : bytesF [r1S, r2S] = frameB (toV r1S) ++ frameB (toV r2S) := by
  have h1 : (frameF (toV r1S)).1 = frameB (toV r1S) := by unfold frameF; rw [if_pos r1_right]
  have h2 : (frameF (toV r2S)).1 = frameB (toV r2S) := by unfold frameF; rw [if_pos r2_right]
  unfold bytesF
  rw [List.flatMap_cons, List.flatMap_cons, List.flatMap_nil, List.append_nil, h1, h2]
theorem len1 : (frameB (toV r1S)).length = 43 := by
  rw [frame_length, body_length]
  rfl
theorem len2 : (frameB (toV r2S)).length = 43 := by
  rw [frame_length, body_length]
  rfl
theorem take85 : (bytesF [r1S, r2S]).take 85 = frameB (toV r1S) ++ (frameB (toV r2S)).take 42 := by
  rw [bytes12, List.take_append, len1, List.take_of_length_le (by rw [len1]; omega)]
theorem reads85 : Reads ((bytesF [r1S, r2S]).take 85) [r1S] 43 ∧ Stops ((bytesF [r1S, r2S]).take 85) [r1S] 43 := by
  rw [take85]
  constructor
  · have h := Reads.snoc (xs := frameB (toV r1S) ++ (frameB (toV r2S)).take 42) (r := r1S) (m := 43) .nil (by
      rw [List.drop_zero, dec_frame r1_right, ← Int.natCast_inj.2 len1, frame_length]
      rfl) rfl (by decide) (by decide)
    exact h
  · refine .inl ?_
    have e : (frameB (toV r1S) ++ (frameB (toV r2S)).take 42).drop 43 = (frameB (toV r2S)).take 42 := by
      rw [← len1, List.drop_left]
    rw [e, dec_cut r2_right (by rw [len2]; omega)]
    decide
theorem marks12 : marksF [r1S, r2S] = [⟨1, 1⟩, ⟨3, 2⟩] := rfl
theorem marks_lit (W : World) : Kd.C kMark (W.alloc (.cells #[.int .i64 1, .int .i64 1, .int .i64 3, .int .i64 2] 24)) (some ⟨W.heap.size, 0, none⟩) 2 [⟨1, 1⟩, ⟨3, 2⟩] := by
  have hb : (W.alloc (.cells #[.int .i64 1, .int .i64 1, .int .i64 3, .int .i64 2] 24)).heap[W.heap.size]? = some (.cells #[.int .i64 1, .int .i64 1, .int .i64 3, .int .i64 2] 24 (0, 0)) := blk_newN _ _
  refine ⟨rfl, by decide, fun _ => ⟨_, rfl, ?_⟩⟩
  intro j p hj
  match j, hj with
  | 0, hj =>
    obtain rfl : (⟨1, 1⟩ : MarkS) = p := by simpa using hj
    refine ⟨[.int .i64 1, .int .i64 1], rfl, k24_mk _ _, ?_⟩
    intro i u hu
    match i, hu with
    | 0, hu => rw [add_plain, blk_cell hb]; exact hu
    | 1, hu => rw [add_plain, blk_cell hb]; exact hu
    | i + 2, hu => simp at hu
  | 1, hj =>
    obtain rfl : (⟨3, 2⟩ : MarkS) = p := by simpa using hj
    refine ⟨[.int .i64 3, .int .i64 2], rfl, k24_mk _ _, ?_⟩
    intro i u hu
    match i, hu with
    | 0, hu => rw [add_plain, blk_cell hb]; exact hu
    | 1, hu => rw [add_plain, blk_cell hb]; exact hu
    | i + 2, hu => simp at hu
  | j + 2, hj => simp at hj
set_option maxHeartbeats 8000000 in
set_option maxRecDepth 100000 in
theorem speaks10_ok (w : World) : Calls Try.prog 37 #[] w fun e w' => e = .returned (.bool true) ∧ Below w.heap.size w w' := by
  have hnew := new_ok w
  have HAP1 := Aside0.mk (fun W (h : LogAt 98 W (fun k => w.heap.size ≤ k) w.heap.size [] 0) => append_ok h (by decide) 0 1 1 0 0 0 ⟨#[]⟩ ⟨#[]⟩ (by decide))
  rw [app1] at HAP1
  have HAP2 := Aside0.mk (fun W ok (h : LogAt 98 W ok w.heap.size [r1S] 0) => append_ok h (by decide) 0 3 1 0 0 0 ⟨#[]⟩ ⟨#[]⟩ (by decide))
  rw [app2] at HAP2
  dsimp only at HAP1 HAP2
  have hbl : (bytesF [r1S, r2S]).length = 86 := by rw [bytes12, List.length_append, len1, len2]
  have hbb := bytesF_allB [r1S, r2S]
  have hrd := reads85
  have HBY := Aside0.mk (fun W (h : LogAt 98 W (fun k => w.heap.size ≤ k) w.heap.size [r1S, r2S] 0) => bytes_ok h (by decide) (fun x hx => by simp only [List.mem_cons, List.not_mem_nil, or_false] at hx; rcases hx with rfl | rfl <;> decide))
  generalize bytesF [r1S, r2S] = zs at hbl hbb hrd HBY
  rw [hbl] at HBY
  have HBL := Aside0.mk hbl
  have HBB := Aside0.mk hbb
  have HRD := Aside0.mk hrd
  clear hbl hbb hrd
  have hl1 : lastE [r1S] = 1 := rfl
  have HL1 := Aside0.mk hl1
  clear hl1
  go_enter Try.func37, Try.ntmps37
  go_wp2_with (first
    | (go_at_call 20; (with_reducible refine hnew.mono ?_); rintro e w1 ⟨rfl, hL, hB⟩; (have HB := Aside0.mk hB); (have hap1 := HAP1.out _ hL); clear hL hB hnew)
    | (go_at_call 33; (with_reducible refine hap1.mono ?_); rintro e w2 ⟨rfl, hL, hC⟩; (replace hL := hL.mono (ok' := fun k => w.heap.size ≤ k) (fun k hk => hk.elim id (fun h => Nat.le_trans HB.out.size h))); (replace HB := Aside0.mk (HB.out.trans (hC.below HB.out.size (fun k hk => hk)))); (have hap2 := HAP2.out _ _ hL); clear hL hC hap1)
    | (go_at_call 33; (with_reducible refine hap2.mono ?_); rintro e w3 ⟨rfl, hL, hC⟩; (replace hL := hL.mono (ok' := fun k => w.heap.size ≤ k) (fun k hk => hk.elim id (fun h => Nat.le_trans HB.out.size h))); (replace HB := Aside0.mk (HB.out.trans (hC.below HB.out.size (fun k hk => hk)))); (have hby := HBY.out _ hL); (have HL := Aside0.mk hL); clear hL hC hap2)
    | (go_at_call 34; (with_reducible refine hby.mono ?_); rintro e w4 ⟨A8, c8, rfl, hR, hB⟩; (replace HB := Aside0.mk (below_from2 HB.out (Nat.le_refl _) hB)); (replace HL := Aside0.mk (HL.out.below hB)); (have hrr := Kd.R_reads' hR); (have hcut : ∀ W : World, (Instr.slice 67 (.slice A8 86 c8) none (some (.int .i64 85)) none).run Try.prog W = .ok (.slice A8 85 c8) W := fun W => cut_to (P := Try.prog) 67 5 .i64 Try.underlying67 (info_parts info8).choose_spec.1 A8 86 c8 85 (by omega) (by omega) hrr.2.1 W); (have htl : (zs.take 85).length = 85 := (by rw [List.length_take]; have := HBL.out; omega)); (have hre := read_ok A8 c8 (zs.take 85) w4 (Kd.C_take hrr.2.2 (show 85 ≤ zs.length from (by rw [HBL.out]; omega))) (by rw [htl]; have := hrr.2.1; omega) (fun x hx => HBB.out x (List.mem_of_mem_take hx)) (by rw [htl]; omega)); rw [htl] at hre; clear hB hR hrr htl hby)
    | (go_at_call 35; (with_reducible refine hre.mono ?_); rintro e w5 ⟨g2, l2, u2, rfl, hrd2, hL2, hB⟩; obtain ⟨hl2, hu2⟩ := Reads.unique hrd2.1 hrd2.2 HRD.out.1 HRD.out.2; subst hl2 hu2; (replace HB := Aside0.mk (below_from2 HB.out (Nat.le_refl _) hB)); (replace HL := Aside0.mk (HL.out.below hB)); (have hla := last_okB hL2 (by decide)); rw [HL1.out] at hla; clear hB hL2 hrd2 hre hcut)
    | (go_at_call 21; (with_reducible refine hla.mono ?_); rintro e w6 ⟨rfl, hB⟩; (replace HB := Aside0.mk (below_from2 HB.out (Nat.le_refl _) hB)); (replace HL := Aside0.mk (HL.out.below hB)); (have hmk := marks_ok HL.out (by decide)); rw [marks12] at hmk; simp only [List.length_cons, List.length_nil, Nat.reduceAdd] at hmk; clear hB hla)
    | (go_at_call 48; (with_reducible refine hmk.mono ?_); rintro e w7 ⟨A9, c9, rfl, hR, hB⟩; (replace HB := Aside0.mk (below_alloc (below_from2 HB.out (Nat.le_refl _) hB) (.cells #[.int .i64 1, .int .i64 1, .int .i64 3, .int .i64 2] 24))); (have hms := marks_same A9 c9 (some ⟨w7.heap.size, 0, none⟩) 2 [⟨1, 1⟩, ⟨3, 2⟩] (w7.alloc (.cells #[.int .i64 1, .int .i64 1, .int .i64 3, .int .i64 2] 24)) (Kd.C_below (Kd.R_reads' hR).2.2 (below_alloc (Below.refl _ _) _)) (Kd.R_reads' hR).2.1 (marks_lit w7) (by decide) (by decide)); simp only [List.length_cons, List.length_nil, Nat.reduceAdd] at hms; clear hB hR hmk)
    | (go_at_call 58; (with_reducible refine hms.mono ?_); rintro e w8 ⟨rfl, hB⟩; (replace HB := Aside0.mk (below_from2 HB.out (Nat.le_refl _) hB)); clear hB hms))
  go_ret
  exact ⟨rfl, HB.out⟩
end Go.Proofs.Ytgjibcfkjaedfaa.Wal
