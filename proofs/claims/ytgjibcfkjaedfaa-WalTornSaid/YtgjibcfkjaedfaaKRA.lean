-- Parts melded by a program of this session.
import Derived.Test.YtgjibcfkjaedfaaKWA
import Derived.Test.YtgjibcfkjaedfaaKWB
/- latticeref10's methods: Last, Get, Flush, From, Cut, Marks, Bytes. -/
namespace Go.Proofs.Ytgjibcfkjaedfaa.Wal
open Go.RowKit Go.Proofs.YtgjibcfkjaedfaaW.PrintWords Go.Proofs.YtgjibcfkjaedfaaW.PrintLast Go.Proofs.YtgjibcfkjaedfaaW.PrintMore Go.Proofs.Ytgjibcfkjaedfaa.Wire Go.Proofs.Ytgjibcfkjaedfaa.Pr Go.Proofs.Ytgjibcfkjaedfaa.Rec
open Go.Proofs.Ytgjibcfkjaedfaa.Back (AllB)
set_option linter.unusedVariables false
set_option linter.unusedSimpArgs false
set_option maxHeartbeats 4000000 in
set_option maxRecDepth 100000 in
theorem rlast_ok {w : World} {ok : Nat → Prop} {g : Nat} {l : List RecS} {fl : Int} (h : LogAt 37 w ok g l fl) (hl : l.length ≤ 1759218604441) :
    Calls Try.prog 60 #[.pointer (some ⟨g, 0, none⟩)] w fun e w' => e = .returned (.tuple #[.int .i64 (l.length : Int), .int .i64 (lastE l)]) ∧ Drawn0 w w' := by
  obtain ⟨A, c, hb, ⟨h0, h1, f0, f1⟩, hc, hC⟩ := h.row
  by_cases hz : l.length = 0
  · have he : lastE l = 0 := by unfold lastE; rw [if_pos hz]
    rw [he, hz]
    rw [hz] at h0
    clear hb hC h hc
    go_enter Try.func60, Try.ntmps60
    go_wp2
    go_ret2
    exact ⟨rfl, Drawn0.refl _⟩
  · obtain ⟨m, hm⟩ : ∃ m : Nat, l.length = m + 1 := ⟨l.length - 1, by omega⟩
    have hmi : (l.length : Int) - 1 = (m : Int) := by omega
    have he : lastE l = (rd_T53 l (m : Int)).f1 := by unfold lastE; rw [if_neg hz, hmi]
    rw [he]
    obtain ⟨ad, rfl, hx0, hx1, hx2, hx3, hx4, hx5, hx6, hx7⟩ := at_T53 hC (m : Int) (by omega) (by omega)
    rw [Int.toNat_natCast] at hx1
    generalize rd_T53 l (m : Int) = x at hx1
    have hn0 : ((l.length : Int) == 0) = false := by rw [beq_eq_false_iff_ne]; omega
    have hw1 : IntKind.i64.wrap ((l.length : Int) - 1) = (m : Int) := by rw [hmi, IntKind.wrap_i64]; omega
    have hw3 : wrap64 ((l.length : Int) - 1) = (m : Int) := by rw [hmi]; unfold wrap64; omega
    have hw0 : (0 : Int) ≤ (m : Int) := by omega
    have hw2 : (m : Int) < (l.length : Int) := by omega
    have hw4 : m < l.length := by omega
    generalize l.length = n at *
    clear hb hC h hc hx0 hx2 hx3 hx4 hx5 hx6 hx7 hz hm hmi
    go_enter Try.func60, Try.ntmps60
    go_wp2
    go_quiet (fail)
    try go_wp2
    go_ret2
    exact ⟨rfl, by repeat (first | exact Drawn0.refl _ | apply Drawn0.step)⟩
theorem rlast_okB {w : World} {ok : Nat → Prop} {g : Nat} {l : List RecS} {fl : Int} (h : LogAt 37 w ok g l fl) (hl : l.length ≤ 1759218604441) :
    Calls Try.prog 60 #[.pointer (some ⟨g, 0, none⟩)] w fun e w' => e = .returned (.tuple #[.int .i64 (l.length : Int), .int .i64 (lastE l)]) ∧ Below w.heap.size w w' :=
  (rlast_ok h hl).mono fun _ _ ⟨e, d⟩ => ⟨e, d.below⟩
set_option maxHeartbeats 8000000 in
set_option maxRecDepth 100000 in
theorem rget_ok {w : World} {ok : Nat → Prop} {g : Nat} {l : List RecS} {fl : Int} (h : LogAt 37 w ok g l fl) (hl : l.length ≤ 1759218604441) (n : Int) :
    Calls Try.prog 51 #[.pointer (some ⟨g, 0, none⟩), .int .i64 n] w fun e w' => e = .returned (.tuple #[.agg #[.int .i64 (getF l n).1.f0, .int .i64 (getF l n).1.f1, .int .i64 (getF l n).1.f2, .int .i64 (getF l n).1.f3, .int .i64 (getF l n).1.f4, .int .i64 (getF l n).1.f5, .string (getF l n).1.f6, .string (getF l n).1.f7], .int .i64 (getF l n).2]) ∧ Below w.heap.size w w' := by
  obtain ⟨A, c, hb, _, hc, hC⟩ := h.row
  have HB := Aside0.mk (below_alloc (Below.refl w.heap.size w) (.cells #[.int .i64 0, .int .i64 0, .int .i64 0, .int .i64 0, .int .i64 0, .int .i64 0, .string ⟨#[]⟩, .string ⟨#[]⟩] 53))
  have hla := h.below HB.out
  have hbk := (Chg.of_below HB.out (fun _ => False)).blk hb (fun h => h)
  obtain ⟨h0, h1⟩ : (w.alloc (.cells #[.int .i64 0, .int .i64 0, .int .i64 0, .int .i64 0, .int .i64 0, .int .i64 0, .string ⟨#[]⟩, .string ⟨#[]⟩] 53)).cell? ⟨g, 0, none⟩ = some (.slice A l.length c) ∧ (w.alloc (.cells #[.int .i64 0, .int .i64 0, .int .i64 0, .int .i64 0, .int .i64 0, .int .i64 0, .string ⟨#[]⟩, .string ⟨#[]⟩] 53)).cell? ⟨g, 1, none⟩ = some (.int .i64 fl) := by simp only [World.cell?, hbk]; exact ⟨rfl, rfl⟩
  have HRC := Aside0.mk (rc_new w 0 0 0 0 0 0 ⟨#[]⟩ ⟨#[]⟩)
  obtain ⟨⟨b0, b1, b2, b3, b4, b5, b6, b7⟩, ⟨f0, f1, f2, f3, f4, f5, f6, f7⟩⟩ := HRC.out.cells
  unfold getF
  by_cases hin : 1 ≤ n ∧ n ≤ (l.length : Int)
  · rw [if_pos hin]
    obtain ⟨m, hm⟩ : ∃ m : Nat, n = (m : Int) + 1 := ⟨(n - 1).toNat, by omega⟩
    have hmi : n - 1 = (m : Int) := by omega
    rw [hmi]
    have hml : m < l.length := by omega
    have d1 : decide (n < 1) = false := decide_eq_false (by omega)
    have d2 : decide (n > (l.length : Int)) = false := decide_eq_false (by omega)
    have hw1 : IntKind.i64.wrap (n - 1) = (m : Int) := by rw [hmi, IntKind.wrap_i64]; omega
    have hw3 : wrap64 (n - 1) = (m : Int) := by rw [hmi]; unfold wrap64; omega
    have hw0 : (0 : Int) ≤ (m : Int) := by omega
    have hw2 : (m : Int) < (l.length : Int) := by omega
    obtain ⟨ad, rfl, hx0, hx1, hx2, hx3, hx4, hx5, hx6, hx7⟩ := at_T53 (Kd.C_below hC HB.out) (m : Int) (by omega) (by omega)
    rw [Int.toNat_natCast] at hx0 hx1 hx2 hx3 hx4 hx5 hx6 hx7
    generalize rd_T53 l (m : Int) = x at hx0 hx1 hx2 hx3 hx4 hx5 hx6 hx7 ⊢
    obtain ⟨x0, x1, x2, x3, x4, x5, x6, x7⟩ := x
    dsimp only at hx0 hx1 hx2 hx3 hx4 hx5 hx6 hx7
    clear hin hm hmi hb hC hl hla hbk h hml hc
    go_enter Try.func51, Try.ntmps51
    go_wp2
    refine bodyPost_ret (results_ct rfl _ _ w.heap.size 53 #[.int .i64 x0, .int .i64 x1, .int .i64 x2, .int .i64 x3, .int .i64 x4, .int .i64 x5, .string x6, .string x7] (0, 0) _ rfl (rc_new w x0 x1 x2 x3 x4 x5 x6 x7) Try.underlying53 rfl (by kernel_rfl)) rfl ?_
    exact ⟨rfl, below_alloc (Below.refl _ _) _⟩
  · rw [if_neg hin]
    by_cases h1' : n < 1
    · have d1 : decide (n < 1) = true := decide_eq_true h1'
      clear hin h1' hb hC hl hla hbk h hc
      go_enter Try.func51, Try.ntmps51
      go_wp2
      refine bodyPost_ret (results_ct rfl _ _ w.heap.size 53 #[.int .i64 0, .int .i64 0, .int .i64 0, .int .i64 0, .int .i64 0, .int .i64 0, .string ⟨#[]⟩, .string ⟨#[]⟩] (0, 0) _ rfl (rc_new w 0 0 0 0 0 0 ⟨#[]⟩ ⟨#[]⟩) Try.underlying53 rfl (by kernel_rfl)) rfl ?_
      exact ⟨rfl, below_alloc (Below.refl _ _) _⟩
    · have d1 : decide (n < 1) = false := decide_eq_false h1'
      have d2 : decide (n > (l.length : Int)) = true := decide_eq_true (by omega)
      clear hin h1' hb hC hl hla hbk h hc
      go_enter Try.func51, Try.ntmps51
      go_wp2
      refine bodyPost_ret (results_ct rfl _ _ w.heap.size 53 #[.int .i64 0, .int .i64 0, .int .i64 0, .int .i64 0, .int .i64 0, .int .i64 0, .string ⟨#[]⟩, .string ⟨#[]⟩] (0, 0) _ rfl (rc_new w 0 0 0 0 0 0 ⟨#[]⟩ ⟨#[]⟩) Try.underlying53 rfl (by kernel_rfl)) rfl ?_
      exact ⟨rfl, below_alloc (Below.refl _ _) _⟩
/-! ### Flush -/
theorem rflush_ok {w : World} {ok : Nat → Prop} {g : Nat} {l : List RecS} {fl : Int} (h : LogAt 37 w ok g l fl) (lsn : Int) :
    Calls Try.prog 45 #[.pointer (some ⟨g, 0, none⟩), .int .i64 lsn] w fun e w' => e = .returned (.int .i64 (flushF l.length fl lsn).2) ∧ LogAt 37 w' ok g l (flushF l.length fl lsn).1 ∧ Chg w w' ok := by
  obtain ⟨A, c, hb, ⟨h0, h1, f0, f1⟩, hc, hC⟩ := h.row
  have ltg := blk_lt hb
  have HL := Aside0.mk h
  unfold flushF
  by_cases hin : withinB l.length lsn = true
  · rw [if_pos hin]
    obtain ⟨hi0, hi1⟩ := withinB_iff.1 hin
    have d1 : decide (lsn < 0) = false := decide_eq_false (by omega)
    have d2 : decide (lsn > (l.length : Int)) = false := decide_eq_false (by omega)
    by_cases hlt : fl < lsn
    · have d3 : decide (fl < lsn) = true := decide_eq_true hlt
      have e : max fl lsn = lsn := by omega
      rw [e]
      clear hb hc hC h hi0 hi1 hlt e hin
      go_enter Try.func45, Try.ntmps45
      go_wp2
      go_ret
      exact ⟨rfl, HL.out.putF (by decide) lsn, Chg.mono (Chg.setCell _ _ _) (fun k hk => by rw [hk]; exact HL.out.okg)⟩
    · have d3 : decide (fl < lsn) = false := decide_eq_false hlt
      have e : max fl lsn = fl := by omega
      rw [e]
      clear hb hc hC h hi0 hi1 hlt e hin
      go_enter Try.func45, Try.ntmps45
      go_wp2
      go_ret
      exact ⟨rfl, HL.out, Chg.refl _ _⟩
  · rw [if_neg hin]
    have hin' : ¬ (0 ≤ lsn ∧ lsn ≤ (l.length : Int)) := fun h => hin (withinB_iff.2 h)
    by_cases h0' : lsn < 0
    · have d1 : decide (lsn < 0) = true := decide_eq_true h0'
      clear hb hc hC h hin hin' h0'
      go_enter Try.func45, Try.ntmps45
      go_wp2
      go_ret
      exact ⟨rfl, HL.out, Chg.refl _ _⟩
    · have d1 : decide (lsn < 0) = false := decide_eq_false h0'
      have d2 : decide (lsn > (l.length : Int)) = true := decide_eq_true (by omega)
      clear hb hc hC h hin hin' h0'
      go_enter Try.func45, Try.ntmps45
      go_wp2
      go_ret
      exact ⟨rfl, HL.out, Chg.refl _ _⟩
end Go.Proofs.Ytgjibcfkjaedfaa.Wal

/- latticeref10's Append. -/
namespace Go.Proofs.Ytgjibcfkjaedfaa.Wal
open Go.RowKit Go.Proofs.YtgjibcfkjaedfaaW.PrintWords Go.Proofs.YtgjibcfkjaedfaaW.PrintLast Go.Proofs.YtgjibcfkjaedfaaW.PrintMore Go.Proofs.Ytgjibcfkjaedfaa.Wire Go.Proofs.Ytgjibcfkjaedfaa.Pr Go.Proofs.Ytgjibcfkjaedfaa.Rec
set_option linter.unusedVariables false
set_option linter.unusedSimpArgs false
set_option maxHeartbeats 16000000 in
set_option maxRecDepth 100000 in
theorem rappend_ok {w : World} {ok : Nat → Prop} {g : Nat} {l : List RecS} {fl : Int} (h : LogAt 37 w ok g l fl) (hl : l.length ≤ 65536) (x0 x1 x2 x3 x4 x5 : Int) (x6 x7 : ByteArray) (hv : x7.size ≤ 140737488351232) :
    Calls Try.prog 42 #[.pointer (some ⟨g, 0, none⟩), .agg #[.int .i64 x0, .int .i64 x1, .int .i64 x2, .int .i64 x3, .int .i64 x4, .int .i64 x5, .string x6, .string x7]] w fun e w' => e = .returned (.tuple #[.int .i64 (appF l ⟨x0, x1, x2, x3, x4, x5, x6, x7⟩).2.1, .int .i64 (appF l ⟨x0, x1, x2, x3, x4, x5, x6, x7⟩).2.2]) ∧ LogAt 37 w' (fun k => ok k ∨ w.heap.size ≤ k) g (appF l ⟨x0, x1, x2, x3, x4, x5, x6, x7⟩).1 fl ∧ Chg w w' ok := by
  have hn := rc_new w x0 x1 x2 x3 x4 x5 x6 x7
  have hlast := rlast_okB (h.below (below_alloc (Below.refl w.heap.size w) (.cells #[.int .i64 x0, .int .i64 x1, .int .i64 x2, .int .i64 x3, .int .i64 x4, .int .i64 x5, .string x6, .string x7] 53))) (by omega)
  have HCK := Aside0.mk (fun W => refright_ok ((l.length : Int) + 1) x1 x2 x3 x4 x5 x6 x7 hv W)
  obtain ⟨⟨b0, b1, b2, b3, b4, b5, b6, b7⟩, ⟨fb0, fb1, fb2, fb3, fb4, fb5, fb6, fb7⟩⟩ := hn.cells
  have hln : (l.length : Int) ≤ 65536 := by omega
  have hl0 : (0 : Int) ≤ (l.length : Int) := by omega
  have hw1 : IntKind.i64.wrap ((l.length : Int) + 1) = (l.length : Int) + 1 := by rw [IntKind.wrap_i64]; omega
  have HL := Aside0.mk h
  have HLL := Aside0.mk hl
  unfold appF withLsn
  dsimp only
  by_cases hr : rightB ((l.length : Int) + 1) x1 x2 x3 x4 x5 x6 x7 = true
  · have hr' : rightV (((l.length : Int) + 1), x1, x2, x3, x4, x5, x6, x7) = true := hr
    rw [if_pos hr']
    rw [hr] at HCK
    by_cases he : x1 < lastE l
    · rw [if_pos he]
      have de : decide (x1 < lastE l) = true := decide_eq_true he
      clear hn h hl hv hr hr'
      go_enter Try.func42, Try.ntmps42
      go_wp2_with (first
      | (go_at_call 60; (with_reducible refine hlast.mono ?_); rintro e w2 ⟨rfl, hB⟩; clear b0 b1 b2 b3 b4 b5 b6 b7 fb0 fb1 fb2 fb3 fb4 fb5 fb6 fb7; (have HN := Aside0.mk ((rc_new w x0 x1 x2 x3 x4 x5 x6 x7).below hB)); obtain ⟨⟨b0, b1, b2, b3, b4, b5, b6, b7⟩, ⟨fb0, fb1, fb2, fb3, fb4, fb5, fb6, fb7⟩⟩ := HN.out.cells; (have ltn := HN.out.lt); (have HW := Aside0.mk ((below_from (below_alloc (Below.refl w.heap.size w) (.cells #[.int .i64 x0, .int .i64 x1, .int .i64 x2, .int .i64 x3, .int .i64 x4, .int .i64 x5, .string x6, .string x7] 53)) (Nat.le_refl _) hB).setCell (p := ⟨w.heap.size, 0, none⟩) (Nat.le_refl _) (.int .i64 ((l.length : Int) + 1)))); clear hB hlast)
      | (go_at_call 41; (with_reducible refine (HCK.out _).mono ?_); rintro e w3 ⟨rfl, hB⟩; clear b0 b1 b2 b3 b4 b5 b6 b7 fb0 fb1 fb2 fb3 fb4 fb5 fb6 fb7 ltn; (replace HN := Aside0.mk ((HN.out.set0 ((l.length : Int) + 1)).below hB)); obtain ⟨⟨b0, b1, b2, b3, b4, b5, b6, b7⟩, ⟨fb0, fb1, fb2, fb3, fb4, fb5, fb6, fb7⟩⟩ := HN.out.cells; (have ltn := HN.out.lt); (replace HW := Aside0.mk (below_from HW.out (Nat.le_refl _) hB)); clear hB))
      go_ret2
      exact ⟨rfl, (HL.out.below HW.out).mono (fun k hk => .inl hk), Chg.of_below HW.out _⟩
    · rw [if_neg he]
      have de : decide (x1 < lastE l) = false := decide_eq_false he
      have de2 : lastE l ≤ x1 := by omega
      by_cases hf : l.length = 65536
      · rw [if_pos hf]
        have df : decide ((l.length : Int) ≥ 65536) = true := decide_eq_true (by omega)
        have df2 : 65536 ≤ l.length := by omega
        have HF := Aside0.mk hf
        clear hn h hl hv hr hr' hf he
        go_enter Try.func42, Try.ntmps42
        go_wp2_with (first
      | (go_at_call 60; (with_reducible refine hlast.mono ?_); rintro e w2 ⟨rfl, hB⟩; clear b0 b1 b2 b3 b4 b5 b6 b7 fb0 fb1 fb2 fb3 fb4 fb5 fb6 fb7; (have HN := Aside0.mk ((rc_new w x0 x1 x2 x3 x4 x5 x6 x7).below hB)); obtain ⟨⟨b0, b1, b2, b3, b4, b5, b6, b7⟩, ⟨fb0, fb1, fb2, fb3, fb4, fb5, fb6, fb7⟩⟩ := HN.out.cells; (have ltn := HN.out.lt); (have HW := Aside0.mk ((below_from (below_alloc (Below.refl w.heap.size w) (.cells #[.int .i64 x0, .int .i64 x1, .int .i64 x2, .int .i64 x3, .int .i64 x4, .int .i64 x5, .string x6, .string x7] 53)) (Nat.le_refl _) hB).setCell (p := ⟨w.heap.size, 0, none⟩) (Nat.le_refl _) (.int .i64 ((l.length : Int) + 1)))); clear hB hlast)
      | (go_at_call 41; (with_reducible refine (HCK.out _).mono ?_); rintro e w3 ⟨rfl, hB⟩; clear b0 b1 b2 b3 b4 b5 b6 b7 fb0 fb1 fb2 fb3 fb4 fb5 fb6 fb7 ltn; (replace HN := Aside0.mk ((HN.out.set0 ((l.length : Int) + 1)).below hB)); obtain ⟨⟨b0, b1, b2, b3, b4, b5, b6, b7⟩, ⟨fb0, fb1, fb2, fb3, fb4, fb5, fb6, fb7⟩⟩ := HN.out.cells; (have ltn := HN.out.lt); (replace HW := Aside0.mk (below_from HW.out (Nat.le_refl _) hB)); clear hB))
        go_ret2
        exact ⟨rfl, (HL.out.below HW.out).mono (fun k hk => .inl hk), Chg.of_below HW.out _⟩
      · rw [if_neg hf]
        have df : decide ((l.length : Int) ≥ 65536) = false := decide_eq_false (by omega)
        have df2 : l.length < 65536 := by omega
        obtain ⟨qs, hqs⟩ : ∃ qs, l ++ [(⟨(l.length : Int) + 1, x1, x2, x3, x4, x5, x6, x7⟩ : RecS)] = qs := ⟨_, rfl⟩
        rw [hqs]
        have HQS := Aside0.mk hqs
        clear hn h hl hv hr hr' hf he hqs
        go_enter Try.func42, Try.ntmps42
        go_upto_region 9 with (first
      | (go_at_call 60; (with_reducible refine hlast.mono ?_); rintro e w2 ⟨rfl, hB⟩; clear b0 b1 b2 b3 b4 b5 b6 b7 fb0 fb1 fb2 fb3 fb4 fb5 fb6 fb7; (have HN := Aside0.mk ((rc_new w x0 x1 x2 x3 x4 x5 x6 x7).below hB)); obtain ⟨⟨b0, b1, b2, b3, b4, b5, b6, b7⟩, ⟨fb0, fb1, fb2, fb3, fb4, fb5, fb6, fb7⟩⟩ := HN.out.cells; (have ltn := HN.out.lt); (have HW := Aside0.mk ((below_from (below_alloc (Below.refl w.heap.size w) (.cells #[.int .i64 x0, .int .i64 x1, .int .i64 x2, .int .i64 x3, .int .i64 x4, .int .i64 x5, .string x6, .string x7] 53)) (Nat.le_refl _) hB).setCell (p := ⟨w.heap.size, 0, none⟩) (Nat.le_refl _) (.int .i64 ((l.length : Int) + 1)))); clear hB hlast)
      | (go_at_call 41; (with_reducible refine (HCK.out _).mono ?_); rintro e w3 ⟨rfl, hB⟩; clear b0 b1 b2 b3 b4 b5 b6 b7 fb0 fb1 fb2 fb3 fb4 fb5 fb6 fb7 ltn; (replace HN := Aside0.mk ((HN.out.set0 ((l.length : Int) + 1)).below hB)); obtain ⟨⟨b0, b1, b2, b3, b4, b5, b6, b7⟩, ⟨fb0, fb1, fb2, fb3, fb4, fb5, fb6, fb7⟩⟩ := HN.out.cells; (have ltn := HN.out.lt); (replace HW := Aside0.mk (below_from HW.out (Nat.le_refl _) hB)); clear hB))
        obtain ⟨A, c, hb0, hok, hR0⟩ := HL.out
        have hb : w3.heap[g]? = some (.cells #[.slice A l.length c, .int .i64 fl] 37 (0, 0)) := (Chg.of_below HW.out (fun _ => False)).blk hb0 (fun h => h)
        have hR := Kd.R_below hR0 HW.out
        have HLT := Aside0.mk (Kd.R_lt hR0)
        have HOWN : Aside0 (∀ k, (Value.slice A l.length c).ownBlock = some k → ok k) := ⟨hR0.1⟩
        obtain ⟨h0, h1, f0, f1⟩ : w3.cell? ⟨g, 0, none⟩ = some (.slice A l.length c) ∧ w3.cell? ⟨g, 1, none⟩ = some (.int .i64 fl) ∧ w3.frozen? ⟨g, 0, none⟩ = false ∧ w3.frozen? ⟨g, 1, none⟩ = false := by simp [World.cell?, World.frozen?, hb]
        have hlc : l.length ≤ c := (Kd.R_reads' hR).2.1
        have ltg := blk_lt hb
        have HBK := Aside0.mk hb
        have HOK := Aside0.mk hok
        have HR : Aside0 (Kd.R kRec 53 w3 0 (fun k => ok k ∨ w.heap.size ≤ k) (.slice A l.length c) l) := ⟨Kd.R_mono hR (fun k hk => .inl hk)⟩
        have hne : ¬ g = w.heap.size := by have := HL.out.lt; omega
        have hne2 : ¬ w.heap.size = g := fun e => hne e.symm
        clear hb hok hR hb0 hR0
        go_region_law (refine Kd.R_append_step kRec (w0 := w3.drew) (W := w3.drew) 0 (by simp [Region.wanted]) (.tmp 29) (.tmp 31) 22 53 (.agg #[.int .i64 0, .int .i64 0, .int .i64 0, .int .i64 0, .int .i64 0, .int .i64 0, .string ⟨#[]⟩, .string ⟨#[]⟩]) 80 rfl Try.underlying22 infoRec rfl (by decide) (by decide) (.slice A l.length c) l ⟨(l.length : Int) + 1, x1, x2, x3, x4, x5, x6, x7⟩ [.int .i64 ((l.length : Int) + 1), .int .i64 x1, .int .i64 x2, .int .i64 x3, .int .i64 x4, .int .i64 x5, .string x6, .string x7] (fun k => ok k ∨ w.heap.size ≤ k) (fun _ => False) (by simp [Act.eval, Act.put]) (by first | rfl | (simp [Act.eval, Act.put]; rfl)) (k53_mkM _ _ _ _) (fun _ hk => hk.elim) (fun k hk => .inr (Nat.le_trans HW.out.size hk)) (Kd.R_below HR.out (below_drew (Below.refl _ _))) (Below.refl _ _) (Nat.zero_le _) (by have := HLL.out; omega) ?_; intro v1 w5 ho hb5 hg5 hat5; rw [HQS.out] at ho; (have HB5 : Aside0 (w5.heap[g]? = some (.cells #[.slice A l.length c, .int .i64 fl] 37 (0, 0))) := ⟨(Chg.of_grown hg5).blk (show w3.drew.heap[g]? = _ from HBK.out) (fun e => by obtain ⟨cells, hcs⟩ := Kd.R_typed HR.out _ e.symm; rw [HBK.out] at hcs; injection hcs with hcs; injection hcs with _ hcs; cases hcs)⟩); (have HN5 : Aside0 (RcAt w5 w.heap.size ((l.length : Int) + 1) x1 x2 x3 x4 x5 x6 x7) := ⟨(Chg.of_grown hg5).blk (show w3.drew.heap[w.heap.size]? = _ from HN.out) (fun e => by have h9 := HLT.out _ e.symm; omega)⟩); obtain ⟨A1, c1, rfl⟩ := Kd.R_slice ho; (have HO := Aside0.mk ho); (have HG5 : Aside0 (Chg w3 w5 (fun k => some k = (Value.slice A l.length c).ownBlock)) := ⟨(show Chg w3 w3.drew (fun k => some k = (Value.slice A l.length c).ownBlock) from Chg.of_below (below_drew (Below.refl _ _)) _).trans (Chg.of_grown hg5) (fun k hk => .inl hk)⟩); clear b0 b1 b2 b3 b4 b5 b6 b7 fb0 fb1 fb2 fb3 fb4 fb5 fb6 fb7 ltn h0 h1 f0 f1 ltg; obtain ⟨⟨b0, b1, b2, b3, b4, b5, b6, b7⟩, _⟩ := HN5.out.cells; (have ltn := HN5.out.lt); (have ltg := blk_lt HB5.out); obtain ⟨h0, h1, f0, f1⟩ : w5.cell? ⟨g, 0, none⟩ = some (.slice A l.length c) ∧ w5.cell? ⟨g, 1, none⟩ = some (.int .i64 fl) ∧ w5.frozen? ⟨g, 0, none⟩ = false ∧ w5.frozen? ⟨g, 1, none⟩ = false := (by simp [World.cell?, World.frozen?, HB5.out]); clear ho hb5 hg5 hat5)
        all_goals
          go_wp2
          go_ret2
          exact ⟨rfl, LogAt.put HB5.out (by decide) (.inl HOK.out) HO.out, (Chg.of_below HW.out ok).trans ((HG5.out.mono (fun k hk => HOWN.out k hk.symm)).trans (Chg.setCell _ _ _) (fun k hk => .inl (by rw [hk]; exact HOK.out))) (fun k hk => .inl hk)⟩
  · have hr' : ¬ rightV (((l.length : Int) + 1), x1, x2, x3, x4, x5, x6, x7) = true := hr
    rw [if_neg hr']
    rw [Bool.eq_false_iff.2 hr] at HCK
    clear hn h hl hv hr hr'
    go_enter Try.func42, Try.ntmps42
    go_wp2_with (first
      | (go_at_call 60; (with_reducible refine hlast.mono ?_); rintro e w2 ⟨rfl, hB⟩; clear b0 b1 b2 b3 b4 b5 b6 b7 fb0 fb1 fb2 fb3 fb4 fb5 fb6 fb7; (have HN := Aside0.mk ((rc_new w x0 x1 x2 x3 x4 x5 x6 x7).below hB)); obtain ⟨⟨b0, b1, b2, b3, b4, b5, b6, b7⟩, ⟨fb0, fb1, fb2, fb3, fb4, fb5, fb6, fb7⟩⟩ := HN.out.cells; (have ltn := HN.out.lt); (have HW := Aside0.mk ((below_from (below_alloc (Below.refl w.heap.size w) (.cells #[.int .i64 x0, .int .i64 x1, .int .i64 x2, .int .i64 x3, .int .i64 x4, .int .i64 x5, .string x6, .string x7] 53)) (Nat.le_refl _) hB).setCell (p := ⟨w.heap.size, 0, none⟩) (Nat.le_refl _) (.int .i64 ((l.length : Int) + 1)))); clear hB hlast)
      | (go_at_call 41; (with_reducible refine (HCK.out _).mono ?_); rintro e w3 ⟨rfl, hB⟩; clear b0 b1 b2 b3 b4 b5 b6 b7 fb0 fb1 fb2 fb3 fb4 fb5 fb6 fb7 ltn; (replace HN := Aside0.mk ((HN.out.set0 ((l.length : Int) + 1)).below hB)); obtain ⟨⟨b0, b1, b2, b3, b4, b5, b6, b7⟩, ⟨fb0, fb1, fb2, fb3, fb4, fb5, fb6, fb7⟩⟩ := HN.out.cells; (have ltn := HN.out.lt); (replace HW := Aside0.mk (below_from HW.out (Nat.le_refl _) hB)); clear hB))
    go_ret2
    exact ⟨rfl, (HL.out.below HW.out).mono (fun k hk => .inl hk), Chg.of_below HW.out _⟩
end Go.Proofs.Ytgjibcfkjaedfaa.Wal

/- latticeref10's From, Cut, Bytes, Marks: what they go through record by record. -/
namespace Go.Proofs.Ytgjibcfkjaedfaa.Wal
open Go.RowKit Go.Proofs.YtgjibcfkjaedfaaW.PrintWords Go.Proofs.YtgjibcfkjaedfaaW.PrintLast Go.Proofs.YtgjibcfkjaedfaaW.PrintMore Go.Proofs.Ytgjibcfkjaedfaa.Wire Go.Proofs.Ytgjibcfkjaedfaa.Pr Go.Proofs.Ytgjibcfkjaedfaa.Rec
open Go.Proofs.Ytgjibcfkjaedfaa.Back (AllB)
set_option linter.unusedVariables false
set_option linter.unusedSimpArgs false
theorem alloc_size (w : World) (o : Obj) : (w.alloc o).heap.size = w.heap.size + 1 := by simp
/-- LSNs follow one another from 1 on -/
def LsnOk (l : List RecS) : Prop := ∀ k : Nat, k < l.length → (rd_T53 l (k : Int)).f0 = (k : Int) + 1
theorem rd_get {l : List RecS} {k : Nat} (h : k < l.length) : rd_T53 l (k : Int) = l[k] := by
  unfold rd_T53
  rw [Int.toNat_natCast, List.getD_eq_getElem?_getD, List.getElem?_eq_getElem h]
  rfl
/-- the rows that From collects -/
def fromK (l : List RecS) (lsn most : Int) (k : Nat) : List RecS := ((l.take k).drop ((max lsn 1) - 1).toNat).take most.toNat
theorem fromK_zero (l : List RecS) (lsn most : Int) : fromK l lsn most 0 = [] := by unfold fromK; simp
theorem fromK_length (l : List RecS) (lsn most : Int) (k : Nat) : (fromK l lsn most k).length ≤ k := by
  unfold fromK
  rw [List.length_take, List.length_drop, List.length_take]
  omega
theorem fromK_succ {l : List RecS} {lsn most : Int} {k : Nat} (h : k < l.length) : fromK l lsn most (k + 1) = if (k : Int) + 1 ≥ lsn ∧ ((fromK l lsn most k).length : Int) < most then fromK l lsn most k ++ [rd_T53 l (k : Int)] else fromK l lsn most k := by
  rw [rd_get h]
  unfold fromK
  rw [List.take_succ_eq_append_getElem h]
  obtain ⟨d, hd⟩ : ∃ d, (max lsn 1 - 1).toNat = d := ⟨_, rfl⟩
  obtain ⟨q, hq⟩ : ∃ q, most.toNat = q := ⟨_, rfl⟩
  rw [hd, hq]
  have hlk : (l.take k).length = k := by rw [List.length_take]; omega
  by_cases hk : d ≤ k
  · rw [List.drop_append_of_le_length (by omega)]
    have hdl : ((l.take k).drop d).length = k - d := by rw [List.length_drop, hlk]
    by_cases hlt : k - d < q
    · have e1 : (((l.take k).drop d) ++ [l[k]]).take q = ((l.take k).drop d) ++ [l[k]] := List.take_of_length_le (by rw [List.length_append, List.length_singleton]; omega)
      have e2 : ((l.take k).drop d).take q = (l.take k).drop d := List.take_of_length_le (by omega)
      rw [e1, e2, if_pos ⟨by omega, by rw [hdl]; omega⟩]
    · rw [if_neg (by rw [List.length_take, hdl]; omega), List.take_append_of_le_length (by omega)]
  · rw [if_neg (by omega), List.drop_of_length_le (by rw [List.length_append, List.length_singleton]; omega), List.drop_of_length_le (by omega)]
theorem fromK_all (l : List RecS) (lsn most : Int) : fromK l lsn most l.length = fromF l lsn most := by
  unfold fromK fromF
  rw [List.take_length]
  by_cases h1 : (l.length : Int) < max lsn 1
  · rw [if_pos (.inl h1), List.drop_of_length_le (by omega), List.take_nil]
  · by_cases h2 : most < 1
    · rw [if_pos (.inr h2), show most.toNat = 0 by omega, List.take_zero]
    · rw [if_neg (by omega)]
      by_cases h3 : most ≤ (l.length : Int) - max lsn 1 + 1
      · rw [show min most ((l.length : Int) - max lsn 1 + 1) = most by omega]
      · rw [show min most ((l.length : Int) - max lsn 1 + 1) = (l.length : Int) - max lsn 1 + 1 by omega, List.take_of_length_le (by rw [List.length_drop]; omega), List.take_of_length_le (by rw [List.length_drop]; omega)]
def FromIn (w : World) (l : List RecS) (lsn most : Int) (v7 v15 : Value) (wr : World) : Prop :=
  ∃ (k : Nat) (A : Option Addr) (c : Nat) (ms : List RecS), k ≤ l.length ∧ v15 = .int .i64 k ∧ v7 = .slice A ms.length c ∧ Aside0 (ms = fromK l lsn most k) ∧ Aside0 (RRec wr w.heap.size (.slice A ms.length c) ms) ∧ Aside0 (Below w.heap.size w wr)
set_option maxHeartbeats 8000000 in
set_option maxRecDepth 100000 in
theorem rfrom_ok {w : World} {ok : Nat → Prop} {g : Nat} {l : List RecS} {fl : Int} (h : LogAt 37 w ok g l fl) (hl : l.length ≤ 65536) (hs : LsnOk l) (lsn most : Int) :
    Calls Try.prog 54 #[.pointer (some ⟨g, 0, none⟩), .int .i64 lsn, .int .i64 most] w fun e w' => ∃ A c, e = .returned (.slice A (fromF l lsn most).length c) ∧ Kd.R kRec 53 w' w.heap.size (fun _ => True) (.slice A (fromF l lsn most).length c) (fromF l lsn most) ∧ Below w.heap.size w w' := by
  obtain ⟨A, c, hb, ⟨h0, h1, f0, f1⟩, hc, hC⟩ := h.row
  have HC := Aside0.mk hC
  have HS := Aside0.mk hs
  have hna : l.length ≤ 65536 := hl
  clear hb hC h hc hl hs
  go_enter Try.func54, Try.ntmps54
  go_wp2
  go_loopw [7, 15] (fun v7 v15 wr => FromIn w l lsn most v7 v15 wr) (fun _ v15 _ => l.length - (intOf v15).toNat)
  case atStart => exact ⟨0, none, 0, [], by omega, rfl, rfl, ⟨(fromK_zero l lsn most).symm⟩, ⟨Kd.R_nil _ _ _ _ _⟩, ⟨Below.refl _ _⟩⟩
  case round =>
    obtain ⟨k, A3, c3, ms, hk, rfl, rfl, HMS, HRM, HB⟩ := hrel
    by_cases hlt : k < l.length
    · have hltI : (k : Int) < (l.length : Int) := by omega
      have hk0 : (0 : Int) ≤ (k : Int) := by omega
      obtain ⟨ad, rfl, hx0, hx1, hx2, hx3, hx4, hx5, hx6, hx7⟩ := at_T53 (Kd.C_below HC.out HB.out) (k : Int) hk0 hltI
      rw [Int.toNat_natCast] at hx0 hx1 hx2 hx3 hx4 hx5 hx6 hx7
      have hls := HS.out k hlt
      have hbt := fromK_succ (lsn := lsn) (most := most) hlt
      have hmk := fromK_length l lsn most k
      rw [← HMS.out] at hbt hmk
      generalize rd_T53 l (k : Int) = x at hx0 hx1 hx2 hx3 hx4 hx5 hx6 hx7 hls hbt
      obtain ⟨x0, x1, x2, x3, x4, x5, x6, x7⟩ := x
      dsimp only at hx0 hx1 hx2 hx3 hx4 hx5 hx6 hx7 hls
      have HCP : Aside0 ((ms.length + 1) * 80 ≤ 140737488355328) := ⟨by omega⟩
      have HBA := Aside0.mk (below_alloc (Below.refl wr.heap.size wr) (.cells #[.int .i64 x0, .int .i64 x1, .int .i64 x2, .int .i64 x3, .int .i64 x4, .int .i64 x5, .string x6, .string x7] 53))
      have HSZ : Aside0 ((wr.alloc (.cells #[.int .i64 x0, .int .i64 x1, .int .i64 x2, .int .i64 x3, .int .i64 x4, .int .i64 x5, .string x6, .string x7] 53)).heap.size = wr.heap.size + 1) := ⟨alloc_size _ _⟩
      have HB2 := Aside0.mk (below_from2 HB.out (Nat.le_refl _) HBA.out)
      have HRM2 := Aside0.mk (Kd.R_below HRM.out HBA.out)
      rw [← hls] at hbt
      by_cases h1 : x0 ≥ lsn
      · have d1 : decide (x0 ≥ lsn) = true := decide_eq_true h1
        by_cases h2 : (ms.length : Int) < most
        · have d2 : decide ((ms.length : Int) < most) = true := decide_eq_true h2
          rw [if_pos ⟨h1, h2⟩] at hbt
          obtain ⟨qs, hqs⟩ : ∃ qs, ms ++ [(⟨x0, x1, x2, x3, x4, x5, x6, x7⟩ : RecS)] = qs := ⟨_, rfl⟩
          rw [hqs] at hbt
          have HQS := Aside0.mk hqs
          have HBT := Aside0.mk hbt
          clear hqs hbt hls hmk
          go_wp2_with ((with_reducible refine gate_builtin (b := .append) (xs := #[.tmp 29, .tmp 31]) rfl ?_); at_builtin; refine Kd.R_append kRec (w0 := w) w.heap.size rfl (.tmp 29) (.tmp 31) 22 53 (.agg #[.int .i64 0, .int .i64 0, .int .i64 0, .int .i64 0, .int .i64 0, .int .i64 0, .string ⟨#[]⟩, .string ⟨#[]⟩]) 80 rfl Try.underlying22 infoRec rfl (by decide) (by omega) (.slice A3 ms.length c3) ms ⟨x0, x1, x2, x3, x4, x5, x6, x7⟩ [.int .i64 x0, .int .i64 x1, .int .i64 x2, .int .i64 x3, .int .i64 x4, .int .i64 x5, .string x6, .string x7] (fun _ => True) (fun _ => False) rfl (by rw [HSZ.out]; rfl) ?aP (fun _ hk => hk.elim) ?aF ?aO ?aB ?aS ?aL ?_; (case aP => exact k53_mkM _ _ _ _); (case aF => exact (fun _ _ => trivial)); (case aO => exact HRM2.out); (case aB => exact HB2.out); (case aS => exact HB2.out.size); (case aL => exact HCP.out); intro v8 w8 ho hbel hg hat; rw [HQS.out] at ho; obtain ⟨A8, c8, rfl⟩ := Kd.R_slice ho; (have HO := Aside0.mk ho); (have HB8 := Aside0.mk hbel); clear ho hbel hg hat)
          go_roundw
          case rel => exact ⟨k + 1, A8, c8, qs, by omega, by go_num, rfl, ⟨HBT.out.symm⟩, HO, HB8⟩
          case measure => simp [intOf]; omega
        · have d2 : decide ((ms.length : Int) < most) = false := decide_eq_false h2
          rw [if_neg (fun h => h2 h.2)] at hbt
          have HBT := Aside0.mk hbt
          clear hbt hls hmk
          go_wp2
          go_roundw
          case rel => exact ⟨k + 1, A3, c3, ms, by omega, by go_num, rfl, ⟨HBT.out.symm⟩, HRM2, HB2⟩
          case measure => simp [intOf]; omega
      · have d1 : decide (x0 ≥ lsn) = false := decide_eq_false h1
        rw [if_neg (fun h => h1 h.1)] at hbt
        have HBT := Aside0.mk hbt
        clear hbt hls hmk
        go_wp2
        go_roundw
        case rel => exact ⟨k + 1, A3, c3, ms, by omega, by go_num, rfl, ⟨HBT.out.symm⟩, HRM2, HB2⟩
        case measure => simp [intOf]; omega
    · have hge : ¬ (k : Int) < (l.length : Int) := by omega
      have hbs : ms = fromF l lsn most := by rw [HMS.out, show k = l.length by omega, fromK_all]
      have HBF := Aside0.mk hbs
      clear hbs
      go_wp2
      go_ret
      rw [← HBF.out]
      exact ⟨A3, c3, rfl, HRM.out, HB.out⟩
/-! ### Cut -/
theorem take_succ_lsn {l : List RecS} {k m : Nat} (h : k < l.length) : (l.take (k + 1)).take m = if k + 1 ≤ m then (l.take k).take m ++ [rd_T53 l (k : Int)] else (l.take k).take m := by
  rw [rd_get h, List.take_succ_eq_append_getElem h]
  have hlk : (l.take k).length = k := by rw [List.length_take]; omega
  by_cases hm : k + 1 ≤ m
  · have e1 : ((l.take k) ++ [l[k]]).take m = (l.take k) ++ [l[k]] := List.take_of_length_le (by rw [List.length_append, List.length_singleton]; omega)
    have e2 : (l.take k).take m = l.take k := List.take_of_length_le (by omega)
    rw [e1, e2, if_pos hm]
  · rw [if_neg hm, List.take_append_of_le_length (by omega)]
def CutIn (w : World) (l : List RecS) (m : Nat) (v5 v24 : Value) (wr : World) : Prop :=
  ∃ (k : Nat) (A : Option Addr) (c : Nat) (ms : List RecS), k ≤ l.length ∧ v24 = .int .i64 k ∧ v5 = .slice A ms.length c ∧ Aside0 (ms = (l.take k).take m) ∧ Aside0 (RRec wr w.heap.size (.slice A ms.length c) ms) ∧ Aside0 (Below w.heap.size w wr)
set_option maxHeartbeats 8000000 in
set_option maxRecDepth 100000 in
theorem rcut_ok {w : World} {ok : Nat → Prop} {g : Nat} {l : List RecS} {fl : Int} (h : LogAt 37 w ok g l fl) (hl : l.length ≤ 65536) (hs : LsnOk l) (lsn : Int) :
    Calls Try.prog 43 #[.pointer (some ⟨g, 0, none⟩), .int .i64 lsn] w fun e w' => e = .returned (.int .i64 (cutF l fl lsn).2.2) ∧ LogAt 37 w' (fun k => ok k ∨ w.heap.size ≤ k) g (cutF l fl lsn).1 (cutF l fl lsn).2.1 ∧ Chg w w' ok := by
  have HL := Aside0.mk h
  obtain ⟨A, c, hb, ⟨h0, h1, f0, f1⟩, hc, hC⟩ := h.row
  have HC := Aside0.mk hC
  have HS := Aside0.mk hs
  have HBK := Aside0.mk hb
  have HOK := Aside0.mk h.okg
  have hna : l.length ≤ 65536 := hl
  have ltg0 := blk_lt hb
  unfold cutF
  by_cases hin : withinB l.length lsn = true
  · rw [if_pos hin]
    obtain ⟨hi0, hi1⟩ := withinB_iff.1 hin
    obtain ⟨m, rfl⟩ : ∃ m : Nat, lsn = (m : Int) := ⟨lsn.toNat, by omega⟩
    rw [Int.toNat_natCast]
    have d1 : decide ((m : Int) < 0) = false := decide_eq_false (by omega)
    have d2 : decide ((m : Int) > (l.length : Int)) = false := decide_eq_false (by omega)
    have hml : m ≤ l.length := by omega
    have hnm : ¬ l.length < m := by omega
    clear hb hC h hc hl hs hin hi0 hi1
    go_enter Try.func43, Try.ntmps43
    go_wp2
    go_loopw [5, 24] (fun v5 v24 wr => CutIn w l m v5 v24 wr) (fun _ v24 _ => l.length - (intOf v24).toNat)
    case atStart => exact ⟨0, none, 0, [], by omega, rfl, rfl, ⟨by simp⟩, ⟨Kd.R_nil _ _ _ _ _⟩, ⟨Below.refl _ _⟩⟩
    case round =>
      clear h0 h1 f0 f1 ltg0
      obtain ⟨k, A3, c3, ms, hk, rfl, rfl, HMS, HRM, HB⟩ := hrel
      by_cases hlt : k < l.length
      · have hltI : (k : Int) < (l.length : Int) := by omega
        have hk0 : (0 : Int) ≤ (k : Int) := by omega
        obtain ⟨ad, rfl, hx0, hx1, hx2, hx3, hx4, hx5, hx6, hx7⟩ := at_T53 (Kd.C_below HC.out HB.out) (k : Int) hk0 hltI
        rw [Int.toNat_natCast] at hx0 hx1 hx2 hx3 hx4 hx5 hx6 hx7
        have hls := HS.out k hlt
        have hbt := take_succ_lsn (m := m) hlt
        have hmk : ((l.take k).take m).length ≤ k := by rw [List.length_take, List.length_take]; omega
        rw [← HMS.out] at hbt hmk
        generalize rd_T53 l (k : Int) = x at hx0 hx1 hx2 hx3 hx4 hx5 hx6 hx7 hls hbt
        obtain ⟨x0, x1, x2, x3, x4, x5, x6, x7⟩ := x
        dsimp only at hx0 hx1 hx2 hx3 hx4 hx5 hx6 hx7 hls
        have HCP : Aside0 ((ms.length + 1) * 80 ≤ 140737488355328) := ⟨by omega⟩
        have HBA := Aside0.mk (below_alloc (Below.refl wr.heap.size wr) (.cells #[.int .i64 x0, .int .i64 x1, .int .i64 x2, .int .i64 x3, .int .i64 x4, .int .i64 x5, .string x6, .string x7] 53))
        have HSZ : Aside0 ((wr.alloc (.cells #[.int .i64 x0, .int .i64 x1, .int .i64 x2, .int .i64 x3, .int .i64 x4, .int .i64 x5, .string x6, .string x7] 53)).heap.size = wr.heap.size + 1) := ⟨alloc_size _ _⟩
        have HB2 := Aside0.mk (below_from2 HB.out (Nat.le_refl _) HBA.out)
        have HRM2 := Aside0.mk (Kd.R_below HRM.out HBA.out)
        by_cases h1 : x0 ≤ (m : Int)
        · have d3 : decide (x0 ≤ (m : Int)) = true := decide_eq_true h1
          rw [if_pos (by omega)] at hbt
          obtain ⟨qs, hqs⟩ : ∃ qs, ms ++ [(⟨x0, x1, x2, x3, x4, x5, x6, x7⟩ : RecS)] = qs := ⟨_, rfl⟩
          rw [hqs] at hbt
          have HQS := Aside0.mk hqs
          have HBT := Aside0.mk hbt
          clear hqs hbt hls hmk
          go_wp2_with ((with_reducible refine gate_builtin (b := .append) (xs := #[.tmp 32, .tmp 34]) rfl ?_); at_builtin; refine Kd.R_append kRec (w0 := w) w.heap.size rfl (.tmp 32) (.tmp 34) 22 53 (.agg #[.int .i64 0, .int .i64 0, .int .i64 0, .int .i64 0, .int .i64 0, .int .i64 0, .string ⟨#[]⟩, .string ⟨#[]⟩]) 80 rfl Try.underlying22 infoRec rfl (by decide) (by omega) (.slice A3 ms.length c3) ms ⟨x0, x1, x2, x3, x4, x5, x6, x7⟩ [.int .i64 x0, .int .i64 x1, .int .i64 x2, .int .i64 x3, .int .i64 x4, .int .i64 x5, .string x6, .string x7] (fun _ => True) (fun _ => False) rfl (by rw [HSZ.out]; rfl) ?aP (fun _ hk => hk.elim) ?aF ?aO ?aB ?aS ?aL ?_; (case aP => exact k53_mkM _ _ _ _); (case aF => exact (fun _ _ => trivial)); (case aO => exact HRM2.out); (case aB => exact HB2.out); (case aS => exact HB2.out.size); (case aL => exact HCP.out); intro v8 w8 ho hbel hg hat; rw [HQS.out] at ho; obtain ⟨A8, c8, rfl⟩ := Kd.R_slice ho; (have HO := Aside0.mk ho); (have HB8 := Aside0.mk hbel); clear ho hbel hg hat)
          go_roundw
          case rel => exact ⟨k + 1, A8, c8, qs, by omega, by go_num, rfl, ⟨HBT.out.symm⟩, HO, HB8⟩
          case measure => simp [intOf]; omega
        · have d3 : decide (x0 ≤ (m : Int)) = false := decide_eq_false h1
          rw [if_neg (by omega)] at hbt
          have HBT := Aside0.mk hbt
          clear hbt hls hmk
          go_wp2
          go_roundw
          case rel => exact ⟨k + 1, A3, c3, ms, by omega, by go_num, rfl, ⟨HBT.out.symm⟩, HRM2, HB2⟩
          case measure => simp [intOf]; omega
      · have hge : ¬ (k : Int) < (l.length : Int) := by omega
        have hbs : ms = l.take m := by rw [HMS.out, List.take_of_length_le (show l.length ≤ k by omega)]
        have HBF := Aside0.mk hbs
        have hbk := (Chg.of_below HB.out (fun _ => False)).blk HBK.out (fun h => h)
        have HB3 := Aside0.mk hbk
        have ltg := blk_lt hbk
        obtain ⟨h0, h1, f0, f1⟩ : wr.cell? ⟨g, 0, none⟩ = some (.slice A l.length c) ∧ wr.cell? ⟨g, 1, none⟩ = some (.int .i64 fl) ∧ wr.frozen? ⟨g, 0, none⟩ = false ∧ wr.frozen? ⟨g, 1, none⟩ = false := by simp [World.cell?, World.frozen?, hbk]
        have hfin := LogAt.put (T := 37) (ok := fun k => ok k ∨ w.heap.size ≤ k) (l := ms) (A := A3) (c := c3) hbk (by decide) (.inl HOK.out) (R_newk HRM.out (fun k hk => .inr hk))
        have HFIN := Aside0.mk hfin
        clear hbs hbk hfin
        by_cases hq : fl > (m : Int)
        · have d4 : decide (fl > (m : Int)) = true := decide_eq_true hq
          have e : min fl (m : Int) = (m : Int) := by omega
          have E := Aside0.mk e
          clear hq e
          go_wp2
          go_ret
          rw [E.out, ← HBF.out]
          exact ⟨rfl, HFIN.out.putF (by decide) (m : Int), ((Chg.of_below HB.out ok).trans (Chg.setCell _ _ _) (fun k hk => .inl (by rw [hk]; exact HOK.out))).trans (Chg.setCell _ _ _) (fun k hk => .inl (by rw [hk]; exact HOK.out))⟩
        · have d4 : decide (fl > (m : Int)) = false := decide_eq_false hq
          have e : min fl (m : Int) = fl := by omega
          have E := Aside0.mk e
          clear hq e
          go_wp2
          go_ret
          rw [E.out, ← HBF.out]
          exact ⟨rfl, HFIN.out, (Chg.of_below HB.out ok).trans (Chg.setCell _ _ _) (fun k hk => .inl (by rw [hk]; exact HOK.out))⟩
  · rw [if_neg hin]
    have hin' : ¬ (0 ≤ lsn ∧ lsn ≤ (l.length : Int)) := fun h => hin (withinB_iff.2 h)
    by_cases h0' : lsn < 0
    · have d1 : decide (lsn < 0) = true := decide_eq_true h0'
      clear hb hc hC h hin hin' h0'
      go_enter Try.func43, Try.ntmps43
      go_wp2
      go_ret
      exact ⟨rfl, HL.out.mono (fun k hk => .inl hk), Chg.refl _ _⟩
    · have d1 : decide (lsn < 0) = false := decide_eq_false h0'
      have d2 : decide (lsn > (l.length : Int)) = true := decide_eq_true (by omega)
      clear hb hc hC h hin hin' h0'
      go_enter Try.func43, Try.ntmps43
      go_wp2
      go_ret
      exact ⟨rfl, HL.out.mono (fun k hk => .inl hk), Chg.refl _ _⟩
/-! ### Bytes -/
set_option maxHeartbeats 8000000 in
set_option maxRecDepth 100000 in
theorem rbytes_ok {w : World} {ok : Nat → Prop} {g : Nat} {l : List RecS} {fl : Int} (h : LogAt 37 w ok g l fl) (hl : l.length ≤ 65536) (hv : ∀ x ∈ l, x.f7.size ≤ 140737488351232) :
    Calls Try.prog 46 #[.pointer (some ⟨g, 0, none⟩)] w fun e w' => ∃ A c, e = .returned (.slice A (bytesF l).length c) ∧ RByt w' w.heap.size (.slice A (bytesF l).length c) (bytesF l) ∧ Below w.heap.size w w' := by
  obtain ⟨A, c, hb, ⟨h0, h1, f0, f1⟩, hc, hC⟩ := h.row
  have HC := Aside0.mk hC
  have HV := Aside0.mk hv
  have HL := Aside0.mk hl
  have hna : l.length ≤ 65536 := hl
  clear hb hC h hc hv hl
  go_enter Try.func46, Try.ntmps46
  go_wp2
  go_loopw [3, 13] (fun v3 v13 wr => BytIn w l v3 v13 wr) (fun _ v13 _ => l.length - (intOf v13).toNat)
  case atStart => exact ⟨0, none, 0, [], by omega, rfl, rfl, ⟨rfl⟩, ⟨Kd.R_nil _ _ _ _ _⟩, ⟨Below.refl _ _⟩⟩
  case round =>
    obtain ⟨k, A3, c3, bs, hk, rfl, rfl, HBS, HRB, HB⟩ := hrel
    by_cases hlt : k < l.length
    · have hltI : (k : Int) < (l.length : Int) := by omega
      have hk0 : (0 : Int) ≤ (k : Int) := by omega
      obtain ⟨ad, rfl, hx0, hx1, hx2, hx3, hx4, hx5, hx6, hx7⟩ := at_T53 (Kd.C_below HC.out HB.out) (k : Int) hk0 hltI
      rw [Int.toNat_natCast] at hx0 hx1 hx2 hx3 hx4 hx5 hx6 hx7
      have hsz := HV.out _ (rd_rec_mem hlt)
      have hbt := bytesF_take hlt
      rw [← HBS.out] at hbt
      generalize rd_T53 l (k : Int) = x at hx0 hx1 hx2 hx3 hx4 hx5 hx6 hx7 hsz hbt
      obtain ⟨x0, x1, x2, x3, x4, x5, x6, x7⟩ := x
      dsimp only [toV] at hx0 hx1 hx2 hx3 hx4 hx5 hx6 hx7 hsz hbt
      have hen := latticeref09_Encode.calls x0 x1 x2 x3 x4 x5 x6 x7 (frameF (x0, x1, x2, x3, x4, x5, x6, x7)).1 (frameF (x0, x1, x2, x3, x4, x5, x6, x7)).2 (wr.alloc (.cells #[.int .i64 x0, .int .i64 x1, .int .i64 x2, .int .i64 x3, .int .i64 x4, .int .i64 x5, .string x6, .string x7] 53)) (refenc_f x0 x1 x2 x3 x4 x5 x6 x7 hsz)
      have hfl := frameF_length (x0, x1, x2, x3, x4, x5, x6, x7)
      generalize frameF (x0, x1, x2, x3, x4, x5, x6, x7) = P at hen hfl hbt
      obtain ⟨ps, pe⟩ := P
      dsimp only at hen hfl hbt
      have hbl : bs.length ≤ 315 * 65536 := by
        have h1 := bytesF_length (l.take k)
        rw [← HBS.out, List.length_take] at h1
        omega
      have HBL : Aside0 (bs.length + ps.length ≤ 100000000) := ⟨by omega⟩
      obtain ⟨zs, hzs⟩ : ∃ zs, bs ++ ps = zs := ⟨_, rfl⟩
      rw [hzs] at hbt
      have HZS := Aside0.mk hzs
      have HBT := Aside0.mk hbt
      have HN := Aside0.mk (rc_new wr x0 x1 x2 x3 x4 x5 x6 x7)
      have HBA := Aside0.mk (below_alloc (Below.refl wr.heap.size wr) (.cells #[.int .i64 x0, .int .i64 x1, .int .i64 x2, .int .i64 x3, .int .i64 x4, .int .i64 x5, .string x6, .string x7] 53))
      clear hsz hfl hbl hzs hbt
      go_wp2_with (first
        | (go_at_call 67; (with_reducible refine hen.mono ?_); rintro e w2 ⟨v8, rfl, hR, hB⟩; obtain ⟨A8, c8, rfl⟩ := Kd.R_slice hR; (replace HBA := Aside0.mk (below_from2 HBA.out (Nat.le_refl _) hB)); (have HCR := Aside0.mk (Kd.R_reads' hR).2.2); (have HRB2 := Aside0.mk (Kd.R_below HRB.out HBA.out)); (have HB2 := Aside0.mk (below_from2 HB.out (Nat.le_refl _) HBA.out)); clear hx0 hx1 hx2 hx3 hx4 hx5 hx6 hx7 hR hB hen)
        | ((with_reducible refine gate_builtin (b := .append) (xs := #[.tmp 22, .tmp 23]) rfl ?_); at_builtin; refine Kd.R_append_row (Value.int .u8) (0 : Int) (h1 := fun _ => rfl) (w0 := w) w.heap.size rfl (.tmp 22) (.tmp 23) 67 5 (.int .u8 0) 1 rfl Try.underlying67 info8 rfl (by decide) (.slice A3 bs.length c3) bs ps A8 ps.length c8 (fun _ => True) rfl rfl (fun _ _ => trivial) HRB2.out HCR.out HB2.out HB2.out.size ?aL ?_; (case aL => (have h1 := HBL.out; omega)); intro v1 w4 ho hbel hg hat; rw [HZS.out] at ho; obtain ⟨A9, c9, rfl⟩ := Kd.R_slice ho; (have HO1 := Aside0.mk ho); (have HB4 := Aside0.mk hbel); clear ho hbel hg hat))
      go_roundw
      case rel => exact ⟨k + 1, A9, c9, zs, by omega, by go_num, rfl, ⟨HBT.out.symm⟩, HO1, HB4⟩
      case measure => simp [intOf]; omega
    · have hge : ¬ (k : Int) < (l.length : Int) := by omega
      have hbs : bs = bytesF l := by rw [HBS.out, List.take_of_length_le (by omega)]
      have HBF := Aside0.mk hbs
      clear hbs
      go_wp2
      go_ret
      rw [← HBF.out]
      exact ⟨A3, c3, rfl, HRB.out, HB.out⟩
end Go.Proofs.Ytgjibcfkjaedfaa.Wal

/- latticeref10's Marks. -/
namespace Go.Proofs.Ytgjibcfkjaedfaa.Wal
open Go.RowKit Go.Proofs.YtgjibcfkjaedfaaW.PrintWords Go.Proofs.YtgjibcfkjaedfaaW.PrintLast Go.Proofs.YtgjibcfkjaedfaaW.PrintMore Go.Proofs.Ytgjibcfkjaedfaa.Wire Go.Proofs.Ytgjibcfkjaedfaa.Pr Go.Proofs.Ytgjibcfkjaedfaa.Rec
open Go.Proofs.Ytgjibcfkjaedfaa.Back (AllB)
set_option linter.unusedVariables false
set_option linter.unusedSimpArgs false
theorem markStep_last (out : List MarkS) (r : RecS) : 0 < (markStep out r).length ∧ (rd_T24 (markStep out r) (((markStep out r).length : Int) - 1)).f0 = r.f1 := by
  unfold markStep
  by_cases h0 : out.length = 0
  · rw [if_pos h0]
    exact ⟨by simp, rfl⟩
  · rw [if_neg h0]
    by_cases h1 : (rd_T24 out ((out.length : Int) - 1)).f0 ≠ r.f1
    · rw [if_pos h1]
      refine ⟨by simp, ?_⟩
      have e : ((out ++ [(⟨r.f1, r.f0⟩ : MarkS)]).length : Int) - 1 = (out.length : Int) := by rw [List.length_append, List.length_singleton]; omega
      rw [e]
      unfold rd_T24
      rw [Int.toNat_natCast, List.getD_eq_getElem?_getD, List.getElem?_append_right (Nat.le_refl _), Nat.sub_self]
      rfl
    · rw [if_neg h1]
      exact ⟨by omega, Classical.not_not.1 h1⟩
theorem marksF_last {l : List RecS} {k : Nat} (hk : k ≤ l.length) (h0 : 0 < k) : 0 < (marksF (l.take k)).length ∧ (rd_T24 (marksF (l.take k)) (((marksF (l.take k)).length : Int) - 1)).f0 = (rd_T53 l ((k : Int) - 1)).f1 := by
  obtain ⟨m, rfl⟩ : ∃ m, k = m + 1 := ⟨k - 1, by omega⟩
  have e : ((m + 1 : Nat) : Int) - 1 = (m : Int) := by omega
  rw [e, marksF_take (by omega)]
  exact markStep_last _ _
set_option maxHeartbeats 8000000 in
set_option maxRecDepth 100000 in
theorem rmarks_ok {w : World} {ok : Nat → Prop} {g : Nat} {l : List RecS} {fl : Int} (h : LogAt 37 w ok g l fl) (hl : l.length ≤ 1759218604441) :
    Calls Try.prog 61 #[.pointer (some ⟨g, 0, none⟩)] w fun e w' => ∃ A c, e = .returned (.slice A (marksF l).length c) ∧ RMark w' w.heap.size (.slice A (marksF l).length c) (marksF l) ∧ Below w.heap.size w w' := by
  obtain ⟨A, c, hb, ⟨h0, h1, f0, f1⟩, hc, hC⟩ := h.row
  have HC := Aside0.mk hC
  have HBK := Aside0.mk hb
  have HL := Aside0.mk hl
  have hna : l.length ≤ 1759218604441 := hl
  clear hb hC h hc hl
  go_enter Try.func61, Try.ntmps61
  go_wp2
  go_loopw [3, 11] (fun v3 v11 wr => MarkIn w l v3 v11 wr) (fun _ v11 _ => l.length - (intOf v11).toNat)
  case atStart => exact ⟨0, none, 0, [], by omega, rfl, rfl, ⟨rfl, by simp⟩, ⟨Kd.R_nil _ _ _ _ _⟩, ⟨Below.refl _ _⟩⟩
  case round =>
    obtain ⟨k, A3, c3, ms, hk, rfl, rfl, HMS, HRM, HB⟩ := hrel
    by_cases hlt : k < l.length
    · have hltI : (k : Int) < (l.length : Int) := by omega
      have hk0 : (0 : Int) ≤ (k : Int) := by omega
      obtain ⟨ad, rfl, hx0, hx1, hx2, hx3, hx4, hx5, hx6, hx7⟩ := at_T53 (Kd.C_below HC.out HB.out) (k : Int) hk0 hltI
      rw [Int.toNat_natCast] at hx0 hx1 hx2 hx3 hx4 hx5 hx6 hx7
      have hbt := marksF_take hlt
      rw [← HMS.out.1] at hbt
      generalize rd_T53 l (k : Int) = x at hx0 hx1 hx2 hx3 hx4 hx5 hx6 hx7 hbt
      obtain ⟨x0, x1, x2, x3, x4, x5, x6, x7⟩ := x
      dsimp only at hx0 hx1 hx2 hx3 hx4 hx5 hx6 hx7
      have hml : ms.length ≤ k := HMS.out.2
      have HMB := Aside0.mk (show (ms.length + 1) * 16 ≤ 140737488355328 by omega)
      have HN := Aside0.mk (rc_new wr x0 x1 x2 x3 x4 x5 x6 x7)
      have HBA := Aside0.mk (below_alloc (Below.refl wr.heap.size wr) (.cells #[.int .i64 x0, .int .i64 x1, .int .i64 x2, .int .i64 x3, .int .i64 x4, .int .i64 x5, .string x6, .string x7] 53))
      have HB2 := Aside0.mk (below_from2 HB.out (Nat.le_refl _) HBA.out)
      have HRM2 := Aside0.mk (Kd.R_below HRM.out HBA.out)
      obtain ⟨b, hst, hbc⟩ : ∃ b : Bool, markStep ms ⟨x0, x1, x2, x3, x4, x5, x6, x7⟩ = (if b = true then ms ++ [⟨x1, x0⟩] else ms) ∧ ((k = 0 ∧ b = true) ∨ (0 < k ∧ ((rd_T53 l ((k : Int) - 1)).f1 != x1) = b)) := by
        have hla := marksF_last (l := l) (k := k) (by omega)
        rw [← HMS.out.1] at hla
        unfold markStep
        by_cases hz : k = 0
        · have hz1 : ms.length = 0 := by have := HMS.out.2; omega
          have hz2 : ms = [] := List.length_eq_zero_iff.1 hz1
          subst hz2
          exact ⟨true, rfl, .inl ⟨hz, rfl⟩⟩
        · obtain ⟨hp, he⟩ := hla (by omega)
          rw [if_neg (by omega), he]
          by_cases hq : (rd_T53 l ((k : Int) - 1)).f1 = x1
          · exact ⟨false, by rw [if_neg (by simp [hq])]; rfl, .inr ⟨by omega, by simp [hq]⟩⟩
          · exact ⟨true, by rw [if_pos hq]; rfl, .inr ⟨by omega, by simp [hq]⟩⟩
      rw [hst] at hbt
      have HBT := Aside0.mk hbt
      have HBC := Aside0.mk hbc
      clear hbt hst hml hbc
      go_upto_region 5 with (fail)
      obtain ⟨⟨b0, b1, b2, b3, b4, b5, b6, b7⟩, ⟨fb0, fb1, fb2, fb3, fb4, fb5, fb6, fb7⟩⟩ := HN.out.cells
      have ltn := HN.out.lt
      go_cut [31] from 16 to 30 (fun v31 wx => v31 = .bool b ∧ Aside0 (Below (wr.alloc (.cells #[.int .i64 x0, .int .i64 x1, .int .i64 x2, .int .i64 x3, .int .i64 x4, .int .i64 x5, .string x6, .string x7] 53)).heap.size (wr.alloc (.cells #[.int .i64 x0, .int .i64 x1, .int .i64 x2, .int .i64 x3, .int .i64 x4, .int .i64 x5, .string x6, .string x7] 53)) wx))
      case first =>
        rcases HBC.out with ⟨hz, hbt⟩ | ⟨hz, hbt⟩
        · subst hbt
          subst hz
          go_quiet (fail)
          try go_wp2
          go_meet
          exact ⟨rfl, ⟨pw_below_drewN (Below.refl _ _) _⟩⟩
        · obtain ⟨m, hm⟩ : ∃ m : Nat, k = m + 1 := ⟨k - 1, by omega⟩
          have hmi : (k : Int) - 1 = (m : Int) := by omega
          rw [hmi] at hbt
          have hbk := (Chg.of_below HB2.out (fun _ => False)).blk HBK.out (fun h => h)
          obtain ⟨q0, q1⟩ : (wr.alloc (.cells #[.int .i64 x0, .int .i64 x1, .int .i64 x2, .int .i64 x3, .int .i64 x4, .int .i64 x5, .string x6, .string x7] 53)).cell? ⟨g, 0, none⟩ = some (.slice (some ad) l.length c) ∧ (wr.alloc (.cells #[.int .i64 x0, .int .i64 x1, .int .i64 x2, .int .i64 x3, .int .i64 x4, .int .i64 x5, .string x6, .string x7] 53)).cell? ⟨g, 1, none⟩ = some (.int .i64 fl) := by simp only [World.cell?, hbk]; exact ⟨rfl, rfl⟩
          obtain ⟨ad2, ead, y0, y1, y2, y3, y4, y5, y6, y7⟩ := at_T53 (Kd.C_below HC.out HB2.out) (m : Int) (by omega) (by omega)
          injection ead with ead
          subst ead
          rw [Int.toNat_natCast] at y1
          have hn0 : ((k : Int) == 0) = false := by rw [beq_eq_false_iff_ne]; omega
          have hw1 : IntKind.i64.wrap ((k : Int) - 1) = (m : Int) := by rw [hmi, IntKind.wrap_i64]; omega
          have hw3 : wrap64 ((k : Int) - 1) = (m : Int) := by rw [hmi]; unfold wrap64; omega
          have hw0 : (0 : Int) ≤ (m : Int) := by omega
          have hw2 : (m : Int) < (l.length : Int) := by omega
          have hw4 : m < l.length := by omega
          generalize (rd_T53 l (m : Int)).f1 = z at y1 hbt
          clear hm hmi hz y0 y2 y3 y4 y5 y6 y7 hbk
          go_quiet (fail)
          try go_wp2
          go_meet
          exact ⟨rfl, ⟨pw_below_drewN (Below.refl _ _) _⟩⟩
      case rest =>
      obtain ⟨rfl, HBW⟩ := hcut
      clear HBC b0 b1 b2 b3 b4 b5 b6 b7 fb0 fb1 fb2 fb3 fb4 fb5 fb6 fb7 ltn hx0 hx1 hx2 hx3 hx4 hx5 hx6 hx7
      replace HN := Aside0.mk (HN.out.below HBW.out)
      obtain ⟨⟨b0, b1, b2, b3, b4, b5, b6, b7⟩, ⟨fb0, fb1, fb2, fb3, fb4, fb5, fb6, fb7⟩⟩ := HN.out.cells
      have ltn := HN.out.lt
      have HB3 := Aside0.mk (below_from2 HB2.out (Nat.le_refl _) HBW.out)
      have HRM3 := Aside0.mk (Kd.R_below HRM2.out HBW.out)
      cases b
      · rw [if_neg (by decide)] at HBT
        go_wp2
        go_roundw
        case rel => exact ⟨k + 1, A3, c3, ms, by omega, by go_num, rfl, ⟨HBT.out.symm, by have := HMS.out.2; omega⟩, HRM3, HB3⟩
        case measure => simp [intOf]; omega
      · rw [if_pos rfl] at HBT
        obtain ⟨qs, hqs⟩ : ∃ qs, ms ++ [(⟨x1, x0⟩ : MarkS)] = qs := ⟨_, rfl⟩
        rw [hqs] at HBT
        have HQS := Aside0.mk hqs
        have HQL : Aside0 (qs.length ≤ k + 1) := ⟨by rw [← hqs, List.length_append, List.length_singleton]; have := HMS.out.2; omega⟩
        clear hqs
        go_wp2_with ((with_reducible refine gate_builtin (b := .append) (xs := #[.tmp 32, .tmp 38]) rfl ?_); at_builtin; refine Kd.R_append kMark (w0 := w) w.heap.size rfl (.tmp 32) (.tmp 38) 90 24 (.agg #[.int .i64 0, .int .i64 0]) 16 rfl Try.underlying90 infoMk rfl (by decide) (by omega) (.slice A3 ms.length c3) ms ⟨x1, x0⟩ [.int .i64 x1, .int .i64 x0] (fun _ => True) (fun _ => False) rfl rfl ?aP (fun _ hk => hk.elim) ?aF ?aO ?aB ?aS ?aL ?_; (case aP => exact k24_mkM _ _ _ _); (case aF => exact (fun _ _ => trivial)); (case aO => exact HRM3.out); (case aB => exact HB3.out); (case aS => exact HB3.out.size); (case aL => exact HMB.out); intro v8 w8 ho hbel hg hat; rw [HQS.out] at ho; obtain ⟨A8, c8, rfl⟩ := Kd.R_slice ho; (have HO := Aside0.mk ho); (have HB8 := Aside0.mk hbel); clear ho hbel hg hat)
        go_roundw
        case rel => exact ⟨k + 1, A8, c8, qs, by omega, by go_num, rfl, ⟨HBT.out.symm, HQL.out⟩, HO, HB8⟩
        case measure => simp [intOf]; omega
    · have hge : ¬ (k : Int) < (l.length : Int) := by omega
      have hbs : ms = marksF l := by rw [HMS.out.1, List.take_of_length_le (by omega)]
      have HBF := Aside0.mk hbs
      clear hbs
      go_wp2
      go_ret
      rw [← HBF.out]
      exact ⟨A3, c3, rfl, HRM.out, HB.out⟩
end Go.Proofs.Ytgjibcfkjaedfaa.Wal
