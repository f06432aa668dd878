-- Parts melded by a program of this session.
import Derived.Test.YtgjibcfkjaedfaaKWA
import Derived.WalkMore
/- wal's Append. -/
namespace Go.Proofs.Ytgjibcfkjaedfaa.Wal
open Go.RowKit Go.Proofs.YtgjibcfkjaedfaaW.PrintWords Go.Proofs.YtgjibcfkjaedfaaW.PrintLast Go.Proofs.YtgjibcfkjaedfaaW.PrintMore Go.Proofs.Ytgjibcfkjaedfaa.Wire Go.Proofs.Ytgjibcfkjaedfaa.Pr Go.Proofs.Ytgjibcfkjaedfaa.Rec
set_option linter.unusedVariables false
set_option linter.unusedSimpArgs false
theorem _root_.Go.Proofs.Ytgjibcfkjaedfaa.Rec.RcAt.set0 {w : World} {g : Nat} {a1 a2 a3 a4 a5 a6 : Int} {a7 a8 : ByteArray} (h : RcAt w g a1 a2 a3 a4 a5 a6 a7 a8) (y : Int) : RcAt (w.setCell ⟨g, 0, none⟩ (.int .i64 y)) g y a2 a3 a4 a5 a6 a7 a8 := blk_set h 0 _
def withLsn (r : RecS) (n : Int) : RecS := ⟨n, r.f1, r.f2, r.f3, r.f4, r.f5, r.f6, r.f7⟩
def appF (l : List RecS) (r : RecS) : List RecS × Int × Int :=
  if rightV (toV (withLsn r ((l.length : Int) + 1))) = true then
    if r.f1 < lastE l then (l, 0, 100) else if l.length = 65536 then (l, 0, 5) else (l ++ [withLsn r ((l.length : Int) + 1)], (l.length : Int) + 1, 0)
  else (l, 0, 90)
set_option maxHeartbeats 16000000 in
set_option maxRecDepth 100000 in
theorem append_ok {w : World} {ok : Nat → Prop} {g : Nat} {l : List RecS} {fl : Int} (h : LogAt 98 w ok g l fl) (hl : l.length ≤ 65536) (x0 x1 x2 x3 x4 x5 : Int) (x6 x7 : ByteArray) (hv : x7.size ≤ 140737488351232) :
    Calls Try.prog 33 #[.pointer (some ⟨g, 0, none⟩), .agg #[.int .i64 x0, .int .i64 x1, .int .i64 x2, .int .i64 x3, .int .i64 x4, .int .i64 x5, .string x6, .string x7]] w fun e w' => e = .returned (.tuple #[.int .i64 (appF l ⟨x0, x1, x2, x3, x4, x5, x6, x7⟩).2.1, .int .i64 (appF l ⟨x0, x1, x2, x3, x4, x5, x6, x7⟩).2.2]) ∧ LogAt 98 w' (fun k => ok k ∨ w.heap.size ≤ k) g (appF l ⟨x0, x1, x2, x3, x4, x5, x6, x7⟩).1 fl ∧ Chg w w' ok := by
  have hn := rc_new w x0 x1 x2 x3 x4 x5 x6 x7
  have hlast := last_okB (h.below (below_alloc (Below.refl w.heap.size w) (.cells #[.int .i64 x0, .int .i64 x1, .int .i64 x2, .int .i64 x3, .int .i64 x4, .int .i64 x5, .string x6, .string x7] 53))) (by omega)
  have HCK := Aside0.mk (fun W => reccheck_ok ((l.length : Int) + 1) x1 x2 x3 x4 x5 x6 x7 hv W)
  obtain ⟨⟨b0, b1, b2, b3, b4, b5, b6, b7⟩, ⟨fb0, fb1, fb2, fb3, fb4, fb5, fb6, fb7⟩⟩ := hn.cells
  have hln : (l.length : Int) ≤ 65536 := by omega
  have hl0 : (0 : Int) ≤ (l.length : Int) := by omega
  have hw1 : IntKind.i64.wrap ((l.length : Int) + 1) = (l.length : Int) + 1 := by rw [IntKind.wrap_i64]; omega
  have HL := Aside0.mk h
  have HLL := Aside0.mk hl
  unfold appF withLsn
  dsimp only
  by_cases hr : rightB ((l.length : Int) + 1) x1 x2 x3 x4 x5 x6 x7 = true
  · have hr' : rightV (((l.length : Int) + 1), x1, x2, x3, x4, x5, x6, x7) = true := hr
    rw [if_pos hr']
    rw [if_pos hr] at HCK
    by_cases he : x1 < lastE l
    · rw [if_pos he]
      have de : decide (x1 < lastE l) = true := decide_eq_true he
      clear hn h hl hv hr hr'
      go_enter Try.func33, Try.ntmps33
      go_wp2_with (first
      | (go_at_call 21; (with_reducible refine hlast.mono ?_); rintro e w2 ⟨rfl, hB⟩; clear b0 b1 b2 b3 b4 b5 b6 b7 fb0 fb1 fb2 fb3 fb4 fb5 fb6 fb7; (have HN := Aside0.mk ((rc_new w x0 x1 x2 x3 x4 x5 x6 x7).below hB)); obtain ⟨⟨b0, b1, b2, b3, b4, b5, b6, b7⟩, ⟨fb0, fb1, fb2, fb3, fb4, fb5, fb6, fb7⟩⟩ := HN.out.cells; (have ltn := HN.out.lt); (have HW := Aside0.mk ((below_from (below_alloc (Below.refl w.heap.size w) (.cells #[.int .i64 x0, .int .i64 x1, .int .i64 x2, .int .i64 x3, .int .i64 x4, .int .i64 x5, .string x6, .string x7] 53)) (Nat.le_refl _) hB).setCell (p := ⟨w.heap.size, 0, none⟩) (Nat.le_refl _) (.int .i64 ((l.length : Int) + 1)))); clear hB hlast)
      | (go_at_call 55; (with_reducible refine (HCK.out _).mono ?_); rintro e w3 ⟨rfl, hB⟩; clear b0 b1 b2 b3 b4 b5 b6 b7 fb0 fb1 fb2 fb3 fb4 fb5 fb6 fb7 ltn; (replace HN := Aside0.mk ((HN.out.set0 ((l.length : Int) + 1)).below hB)); obtain ⟨⟨b0, b1, b2, b3, b4, b5, b6, b7⟩, ⟨fb0, fb1, fb2, fb3, fb4, fb5, fb6, fb7⟩⟩ := HN.out.cells; (have ltn := HN.out.lt); (replace HW := Aside0.mk (below_from HW.out (Nat.le_refl _) hB)); clear hB))
      go_ret2
      exact ⟨rfl, (HL.out.below HW.out).mono (fun k hk => .inl hk), Chg.of_below HW.out _⟩
    · rw [if_neg he]
      have de : decide (x1 < lastE l) = false := decide_eq_false he
      have de2 : lastE l ≤ x1 := by omega
      by_cases hf : l.length = 65536
      · rw [if_pos hf]
        have df : ((l.length : Int) == 65536) = true := by rw [hf]; rfl
        have HF := Aside0.mk hf
        clear hn h hl hv hr hr' hf he
        go_enter Try.func33, Try.ntmps33
        go_wp2_with (first
      | (go_at_call 21; (with_reducible refine hlast.mono ?_); rintro e w2 ⟨rfl, hB⟩; clear b0 b1 b2 b3 b4 b5 b6 b7 fb0 fb1 fb2 fb3 fb4 fb5 fb6 fb7; (have HN := Aside0.mk ((rc_new w x0 x1 x2 x3 x4 x5 x6 x7).below hB)); obtain ⟨⟨b0, b1, b2, b3, b4, b5, b6, b7⟩, ⟨fb0, fb1, fb2, fb3, fb4, fb5, fb6, fb7⟩⟩ := HN.out.cells; (have ltn := HN.out.lt); (have HW := Aside0.mk ((below_from (below_alloc (Below.refl w.heap.size w) (.cells #[.int .i64 x0, .int .i64 x1, .int .i64 x2, .int .i64 x3, .int .i64 x4, .int .i64 x5, .string x6, .string x7] 53)) (Nat.le_refl _) hB).setCell (p := ⟨w.heap.size, 0, none⟩) (Nat.le_refl _) (.int .i64 ((l.length : Int) + 1)))); clear hB hlast)
      | (go_at_call 55; (with_reducible refine (HCK.out _).mono ?_); rintro e w3 ⟨rfl, hB⟩; clear b0 b1 b2 b3 b4 b5 b6 b7 fb0 fb1 fb2 fb3 fb4 fb5 fb6 fb7 ltn; (replace HN := Aside0.mk ((HN.out.set0 ((l.length : Int) + 1)).below hB)); obtain ⟨⟨b0, b1, b2, b3, b4, b5, b6, b7⟩, ⟨fb0, fb1, fb2, fb3, fb4, fb5, fb6, fb7⟩⟩ := HN.out.cells; (have ltn := HN.out.lt); (replace HW := Aside0.mk (below_from HW.out (Nat.le_refl _) hB)); clear hB))
        go_ret2
        exact ⟨rfl, (HL.out.below HW.out).mono (fun k hk => .inl hk), Chg.of_below HW.out _⟩
      · rw [if_neg hf]
        have df : ((l.length : Int) == 65536) = false := by rw [beq_eq_false_iff_ne]; omega
        obtain ⟨qs, hqs⟩ : ∃ qs, l ++ [(⟨(l.length : Int) + 1, x1, x2, x3, x4, x5, x6, x7⟩ : RecS)] = qs := ⟨_, rfl⟩
        rw [hqs]
        have HQS := Aside0.mk hqs
        clear hn h hl hv hr hr' hf he hqs
        go_enter Try.func33, Try.ntmps33
        go_upto_region 9 with (first
      | (go_at_call 21; (with_reducible refine hlast.mono ?_); rintro e w2 ⟨rfl, hB⟩; clear b0 b1 b2 b3 b4 b5 b6 b7 fb0 fb1 fb2 fb3 fb4 fb5 fb6 fb7; (have HN := Aside0.mk ((rc_new w x0 x1 x2 x3 x4 x5 x6 x7).below hB)); obtain ⟨⟨b0, b1, b2, b3, b4, b5, b6, b7⟩, ⟨fb0, fb1, fb2, fb3, fb4, fb5, fb6, fb7⟩⟩ := HN.out.cells; (have ltn := HN.out.lt); (have HW := Aside0.mk ((below_from (below_alloc (Below.refl w.heap.size w) (.cells #[.int .i64 x0, .int .i64 x1, .int .i64 x2, .int .i64 x3, .int .i64 x4, .int .i64 x5, .string x6, .string x7] 53)) (Nat.le_refl _) hB).setCell (p := ⟨w.heap.size, 0, none⟩) (Nat.le_refl _) (.int .i64 ((l.length : Int) + 1)))); clear hB hlast)
      | (go_at_call 55; (with_reducible refine (HCK.out _).mono ?_); rintro e w3 ⟨rfl, hB⟩; clear b0 b1 b2 b3 b4 b5 b6 b7 fb0 fb1 fb2 fb3 fb4 fb5 fb6 fb7 ltn; (replace HN := Aside0.mk ((HN.out.set0 ((l.length : Int) + 1)).below hB)); obtain ⟨⟨b0, b1, b2, b3, b4, b5, b6, b7⟩, ⟨fb0, fb1, fb2, fb3, fb4, fb5, fb6, fb7⟩⟩ := HN.out.cells; (have ltn := HN.out.lt); (replace HW := Aside0.mk (below_from HW.out (Nat.le_refl _) hB)); clear hB))
        obtain ⟨A, c, hb0, hok, hR0⟩ := HL.out
        have hb : w3.heap[g]? = some (.cells #[.slice A l.length c, .int .i64 fl] 98 (0, 0)) := (Chg.of_below HW.out (fun _ => False)).blk hb0 (fun h => h)
        have hR := Kd.R_below hR0 HW.out
        have HLT := Aside0.mk (Kd.R_lt hR0)
        have HOWN : Aside0 (∀ k, (Value.slice A l.length c).ownBlock = some k → ok k) := ⟨hR0.1⟩
        obtain ⟨h0, h1, f0, f1⟩ : w3.cell? ⟨g, 0, none⟩ = some (.slice A l.length c) ∧ w3.cell? ⟨g, 1, none⟩ = some (.int .i64 fl) ∧ w3.frozen? ⟨g, 0, none⟩ = false ∧ w3.frozen? ⟨g, 1, none⟩ = false := by simp [World.cell?, World.frozen?, hb]
        have hlc : l.length ≤ c := (Kd.R_reads' hR).2.1
        have ltg := blk_lt hb
        have HBK := Aside0.mk hb
        have HOK := Aside0.mk hok
        have HR : Aside0 (Kd.R kRec 53 w3 0 (fun k => ok k ∨ w.heap.size ≤ k) (.slice A l.length c) l) := ⟨Kd.R_mono hR (fun k hk => .inl hk)⟩
        have hne : ¬ g = w.heap.size := by have := HL.out.lt; omega
        have hne2 : ¬ w.heap.size = g := fun e => hne e.symm
        clear hb hok hR hb0 hR0
        go_region_law (refine Kd.R_append_step kRec (w0 := w3.drew) (W := w3.drew) 0 (by simp [Region.wanted]) (.tmp 36) (.tmp 38) 22 53 (.agg #[.int .i64 0, .int .i64 0, .int .i64 0, .int .i64 0, .int .i64 0, .int .i64 0, .string ⟨#[]⟩, .string ⟨#[]⟩]) 80 rfl Try.underlying22 infoRec rfl (by decide) (by decide) (.slice A l.length c) l ⟨(l.length : Int) + 1, x1, x2, x3, x4, x5, x6, x7⟩ [.int .i64 ((l.length : Int) + 1), .int .i64 x1, .int .i64 x2, .int .i64 x3, .int .i64 x4, .int .i64 x5, .string x6, .string x7] (fun k => ok k ∨ w.heap.size ≤ k) (fun _ => False) (by simp [Act.eval, Act.put]) (by first | rfl | (simp [Act.eval, Act.put]; rfl)) (k53_mkM _ _ _ _) (fun _ hk => hk.elim) (fun k hk => .inr (Nat.le_trans HW.out.size hk)) (Kd.R_below HR.out (below_drew (Below.refl _ _))) (Below.refl _ _) (Nat.zero_le _) (by have := HLL.out; omega) ?_; intro v1 w5 ho hb5 hg5 hat5; rw [HQS.out] at ho; (have HB5 : Aside0 (w5.heap[g]? = some (.cells #[.slice A l.length c, .int .i64 fl] 98 (0, 0))) := ⟨(Chg.of_grown hg5).blk (show w3.drew.heap[g]? = _ from HBK.out) (fun e => by obtain ⟨cells, hcs⟩ := Kd.R_typed HR.out _ e.symm; rw [HBK.out] at hcs; injection hcs with hcs; injection hcs with _ hcs; cases hcs)⟩); (have HN5 : Aside0 (RcAt w5 w.heap.size ((l.length : Int) + 1) x1 x2 x3 x4 x5 x6 x7) := ⟨(Chg.of_grown hg5).blk (show w3.drew.heap[w.heap.size]? = _ from HN.out) (fun e => by have h9 := HLT.out _ e.symm; omega)⟩); obtain ⟨A1, c1, rfl⟩ := Kd.R_slice ho; (have HO := Aside0.mk ho); (have HG5 : Aside0 (Chg w3 w5 (fun k => some k = (Value.slice A l.length c).ownBlock)) := ⟨(show Chg w3 w3.drew (fun k => some k = (Value.slice A l.length c).ownBlock) from Chg.of_below (below_drew (Below.refl _ _)) _).trans (Chg.of_grown hg5) (fun k hk => .inl hk)⟩); clear b0 b1 b2 b3 b4 b5 b6 b7 fb0 fb1 fb2 fb3 fb4 fb5 fb6 fb7 ltn h0 h1 f0 f1 ltg; obtain ⟨⟨b0, b1, b2, b3, b4, b5, b6, b7⟩, _⟩ := HN5.out.cells; (have ltn := HN5.out.lt); (have ltg := blk_lt HB5.out); obtain ⟨h0, h1, f0, f1⟩ : w5.cell? ⟨g, 0, none⟩ = some (.slice A l.length c) ∧ w5.cell? ⟨g, 1, none⟩ = some (.int .i64 fl) ∧ w5.frozen? ⟨g, 0, none⟩ = false ∧ w5.frozen? ⟨g, 1, none⟩ = false := (by simp [World.cell?, World.frozen?, HB5.out]); clear ho hb5 hg5 hat5)
        all_goals
          go_wp2
          go_ret2
          exact ⟨rfl, LogAt.put HB5.out (by decide) (.inl HOK.out) HO.out, (Chg.of_below HW.out ok).trans ((HG5.out.mono (fun k hk => HOWN.out k hk.symm)).trans (Chg.setCell _ _ _) (fun k hk => .inl (by rw [hk]; exact HOK.out))) (fun k hk => .inl hk)⟩
  · have hr' : ¬ rightV (((l.length : Int) + 1), x1, x2, x3, x4, x5, x6, x7) = true := hr
    rw [if_neg hr']
    rw [if_neg hr] at HCK
    clear hn h hl hv hr hr'
    go_enter Try.func33, Try.ntmps33
    go_wp2_with (first
      | (go_at_call 21; (with_reducible refine hlast.mono ?_); rintro e w2 ⟨rfl, hB⟩; clear b0 b1 b2 b3 b4 b5 b6 b7 fb0 fb1 fb2 fb3 fb4 fb5 fb6 fb7; (have HN := Aside0.mk ((rc_new w x0 x1 x2 x3 x4 x5 x6 x7).below hB)); obtain ⟨⟨b0, b1, b2, b3, b4, b5, b6, b7⟩, ⟨fb0, fb1, fb2, fb3, fb4, fb5, fb6, fb7⟩⟩ := HN.out.cells; (have ltn := HN.out.lt); (have HW := Aside0.mk ((below_from (below_alloc (Below.refl w.heap.size w) (.cells #[.int .i64 x0, .int .i64 x1, .int .i64 x2, .int .i64 x3, .int .i64 x4, .int .i64 x5, .string x6, .string x7] 53)) (Nat.le_refl _) hB).setCell (p := ⟨w.heap.size, 0, none⟩) (Nat.le_refl _) (.int .i64 ((l.length : Int) + 1)))); clear hB hlast)
      | (go_at_call 55; (with_reducible refine (HCK.out _).mono ?_); rintro e w3 ⟨rfl, hB⟩; clear b0 b1 b2 b3 b4 b5 b6 b7 fb0 fb1 fb2 fb3 fb4 fb5 fb6 fb7 ltn; (replace HN := Aside0.mk ((HN.out.set0 ((l.length : Int) + 1)).below hB)); obtain ⟨⟨b0, b1, b2, b3, b4, b5, b6, b7⟩, ⟨fb0, fb1, fb2, fb3, fb4, fb5, fb6, fb7⟩⟩ := HN.out.cells; (have ltn := HN.out.lt); (replace HW := Aside0.mk (below_from HW.out (Nat.le_refl _) hB)); clear hB))
    go_ret2
    exact ⟨rfl, (HL.out.below HW.out).mono (fun k hk => .inl hk), Chg.of_below HW.out _⟩
end Go.Proofs.Ytgjibcfkjaedfaa.Wal

/- wal's Read. -/
namespace Go.Proofs.Ytgjibcfkjaedfaa.Wal
open Go.RowKit Go.Proofs.YtgjibcfkjaedfaaW.PrintWords Go.Proofs.YtgjibcfkjaedfaaW.PrintLast Go.Proofs.YtgjibcfkjaedfaaW.PrintMore Go.Proofs.Ytgjibcfkjaedfaa.Wire Go.Proofs.Ytgjibcfkjaedfaa.Pr Go.Proofs.Ytgjibcfkjaedfaa.Rec
open Go.Proofs.Ytgjibcfkjaedfaa.Back (AllB)
set_option linter.unusedVariables false
set_option linter.unusedSimpArgs false
/-- l is what is read of bytes up to u -/
inductive Reads (xs : List Int) : List RecS → Nat → Prop where
  | nil : Reads xs [] 0
  | snoc {l : List RecS} {u m : Nat} {r : RecS} (h : Reads xs l u) (hd : decF9 (xs.drop u) = (toV r, (m : Int), 0)) (h1 : r.f0 = (l.length : Int) + 1) (h2 : lastE l ≤ r.f1) (h3 : l.length < 65536) : Reads xs (l ++ [r]) (u + m)
/-- there nothing more is read -/
def Stops (xs : List Int) (l : List RecS) (u : Nat) : Prop := (decF9 (xs.drop u)).2.2 ≠ 0 ∨ (decF9 (xs.drop u)).1.1 ≠ (l.length : Int) + 1 ∨ (decF9 (xs.drop u)).1.2.1 < lastE l ∨ l.length = 65536
theorem dec9_le {xs : List Int} (hb : AllB xs) {v : RecV} {n : Int} (h : decF9 xs = (v, n, 0)) : rightV v = true ∧ ∃ m : Nat, n = (m : Int) ∧ 6 ≤ m ∧ m ≤ xs.length ∧ m = (bodyR v).length + 6 ∧ xs.take m = frameB v := by
  have hf := frame_dec hb (by rw [h])
  rw [h] at hf
  obtain ⟨h1, h2, h3, h4⟩ := hf
  dsimp only at h1 h2 h3 h4
  exact ⟨h1, (bodyR v).length + 6, by rw [h2]; omega, by omega, h3, rfl, h4⟩
theorem allB_drop {xs : List Int} (hb : AllB xs) (u : Nat) : AllB (xs.drop u) := fun x hx => hb x (List.mem_of_mem_drop hx)
theorem Reads.len {xs : List Int} {l : List RecS} {u : Nat} (h : Reads xs l u) (hb : AllB xs) : u ≤ xs.length ∧ l.length ≤ 65536 := by
  induction h with
  | nil => simp
  | snoc h hd h1 h2 h3 ih =>
    obtain ⟨_, m', he, h6, hle, _⟩ := dec9_le (allB_drop hb _) hd
    have he := Int.natCast_inj.1 he
    rw [List.length_drop] at hle
    rw [List.length_append, List.length_singleton]
    omega
theorem Reads.right {xs : List Int} {l : List RecS} {u : Nat} (h : Reads xs l u) (hb : AllB xs) : allR l := by
  induction h with
  | nil => intro x hx; simp at hx
  | snoc h hd h1 h2 h3 ih => exact allR_snoc ih (dec9_le (allB_drop hb _) hd).1
/-- what two read of the same bytes goes on from one another -/
theorem Reads.cmp {xs : List Int} {l : List RecS} {u : Nat} (h : Reads xs l u) : ∀ {l' : List RecS} {u' : Nat}, Reads xs l' u' → l'.length ≤ l.length → (l.length = l'.length → l = l' ∧ u = u') ∧ (l'.length < l.length → ¬ Stops xs l' u') := by
  induction h with
  | nil =>
    intro l' u' h' hle
    have hz : l' = [] := List.length_eq_zero_iff.1 (by simpa using hle)
    subst hz
    refine ⟨fun _ => ?_, fun hlt => by simp at hlt⟩
    generalize hl : ([] : List RecS) = l2 at h'
    cases h' with
    | nil => exact ⟨rfl, rfl⟩
    | snoc => simp at hl
  | @snoc l u m r h hd h1 h2 h3 ih =>
    intro l' u' h' hle
    rw [List.length_append, List.length_singleton] at hle ⊢
    constructor
    · intro he
      generalize hl2 : l' = l2 at h'
      cases h' with
      | nil => rw [hl2] at he; simp at he
      | @snoc l3 u3 m3 r3 k kd k1 k2 k3 =>
        rw [hl2, List.length_append, List.length_singleton] at he
        obtain ⟨e1, e2⟩ := (ih k (by omega)).1 (by omega)
        subst e1 e2
        rw [hd] at kd
        have e3 : toV r = toV r3 := congrArg Prod.fst kd
        have e4 : (m : Int) = (m3 : Int) := congrArg (fun p => p.2.1) kd
        have e5 : r = r3 := by
          obtain ⟨x0, x1, x2, x3, x4, x5, x6, x7⟩ := r
          obtain ⟨y0, y1, y2, y3, y4, y5, y6, y7⟩ := r3
          simp only [toV, Prod.mk.injEq] at e3
          obtain ⟨f0, f1, f2, f3, f4, f5, f6, f7⟩ := e3
          subst f0 f1 f2 f3 f4 f5 f6 f7
          rfl
        rw [e5]
        exact ⟨rfl, by omega⟩
    · intro hlt hs
      by_cases hq : l'.length = l.length
      · obtain ⟨e1, e2⟩ := (ih h' (by omega)).1 hq.symm
        subst e1 e2
        unfold Stops at hs
        rw [hd] at hs
        rcases hs with hs | hs | hs | hs
        · exact hs rfl
        · exact hs h1
        · have : r.f1 < lastE l := hs
          omega
        · omega
      · exact (ih h' (by omega)).2 (by omega) hs
theorem Reads.unique {xs : List Int} {l l' : List RecS} {u u' : Nat} (h : Reads xs l u) (hs : Stops xs l u) (h' : Reads xs l' u') (hs' : Stops xs l' u') : l = l' ∧ u = u' := by
  rcases Nat.lt_trichotomy l.length l'.length with hlt | he | hlt
  · exact absurd hs ((h'.cmp h (by omega)).2 hlt)
  · exact (h.cmp h' (by omega)).1 he
  · exact absurd hs' ((h.cmp h' (by omega)).2 hlt)
def ReadIn (w : World) (T g : Nat) (xs : List Int) (v5 : Value) (wr : World) : Prop :=
  ∃ (l : List RecS) (u : Nat), v5 = .int .i64 u ∧ Aside0 (Reads xs l u) ∧ Aside0 (LogAt T wr (fun k => w.heap.size ≤ k) g l 0) ∧ Aside0 (Below w.heap.size w wr)
def ReadOut (w : World) (T g : Nat) (xs : List Int) (v5 : Value) (wr : World) : Prop :=
  ∃ (l : List RecS) (u : Nat), v5 = .int .i64 u ∧ Aside0 (Reads xs l u ∧ Stops xs l u) ∧ Aside0 (LogAt T wr (fun k => w.heap.size ≤ k) g l 0) ∧ Aside0 (Below w.heap.size w wr)
theorem appF_own {l : List RecS} {r : RecS} (hr : rightV (toV r) = true) (h : r.f0 = (l.length : Int) + 1) : appF l r = if r.f1 < lastE l then (l, 0, 100) else if l.length = 65536 then (l, 0, 5) else (l ++ [r], (l.length : Int) + 1, 0) := by
  have e : withLsn r ((l.length : Int) + 1) = r := by rw [← h]; rfl
  unfold appF
  rw [e, if_pos hr]
theorem bytes_rest {A : Option Addr} {c n m : Nat} (hm : m ≤ n) : ∃ A' : Option Addr, (∀ W : World, (Instr.slice 67 (.slice A n c) (some (.int .i64 (m : Int))) none none).run Try.prog W = .ok (.slice A' (n - m) (c - m)) W) ∧ ∀ (W : World) (xs : List Int), xs.length = n → n ≤ c → Kd.C (Kd.int .u8) W A n xs → Kd.C (Kd.int .u8) W A' (n - m) (xs.drop m) := cut_rest hm
set_option maxHeartbeats 8000000 in
set_option maxRecDepth 100000 in
theorem read_ok (A : Option Addr) (c : Nat) (xs : List Int) (w : World) (hr : Kd.C (Kd.int .u8) w A xs.length xs) (hc : xs.length ≤ c) (hb : AllB xs) (hl : xs.length ≤ 211106232532992) :
    Calls Try.prog 35 #[.slice A xs.length c] w fun e w' => ∃ (g : Nat) (l : List RecS) (u : Nat), e = .returned (.tuple #[.pointer (some ⟨g, 0, none⟩), .int .i64 u]) ∧ (Reads xs l u ∧ Stops xs l u) ∧ LogAt 98 w' (fun k => w.heap.size ≤ k) g l l.length ∧ Below w.heap.size w w' := by
  have hnew := new_ok w
  have HX := Aside0.mk hr
  have HXC := Aside0.mk hc
  have HXB := Aside0.mk hb
  have HXL := Aside0.mk hl
  have hxl : xs.length ≤ 9223372036854775807 := hr.2.1
  clear hr hc hb hl
  go_enter Try.func35, Try.ntmps35
  go_wp2
  go_step3
  go_wp2_with (go_at_call 20; (with_reducible refine hnew.mono ?_); rintro e w1 ⟨rfl, hL, hB⟩; (have HL := Aside0.mk hL); (have HB := Aside0.mk hB); clear hL hB hnew)
  go_step3
  go_upto_block 0 with (fail)
  go_cut [5] (fun v5 wx => ReadOut w 98 w.heap.size xs v5 wx)
  case first =>
    go_wp2
    go_loopw [5] (fun v5 wr => ReadIn w 98 w.heap.size xs v5 wr) (fun v5 _ => xs.length - (intOf v5).toNat)
    case atStart => exact ⟨[], 0, rfl, ⟨.nil⟩, HL, HB⟩
    case round =>
      clear HL HB
      obtain ⟨l, u, rfl, HRD, HL, HB⟩ := hrel
      obtain ⟨hu, hll⟩ := HRD.out.len HXB.out
      have HLN : Aside0 (l.length ≤ 1759218604441) := ⟨by omega⟩
      have HUX := Aside0.mk hu
      obtain ⟨A', hcut, hcr⟩ := bytes_rest (A := A) (c := c) (n := xs.length) (m := u) hu
      have hC2 := hcr wr xs rfl HXC.out (Kd.C_below HX.out HB.out)
      have hdl : (xs.drop u).length = xs.length - u := List.length_drop
      have hde := recdec_ok A' (c - u) (xs.drop u) wr (by rw [hdl]; exact hC2) (by have := HXC.out; omega) (allB_drop HXB.out u) (by have := HXL.out; omega)
      rw [hdl] at hde
      obtain ⟨nd, hnd⟩ : ∃ nd, xs.length - u = nd := ⟨_, rfl⟩
      rw [hnd] at hcut hde
      obtain ⟨⟨⟨a0, a1, a2, a3, a4, a5, a6, a7⟩, n, f⟩, hD⟩ : ∃ D, decF9 (xs.drop u) = D := ⟨_, rfl⟩
      rw [hD] at hde
      dsimp only at hde
      have hu0 : (0 : Int) ≤ (u : Int) := by omega
      have hu1 : (u : Int) ≤ (xs.length : Int) := by omega
      have hln : (l.length : Int) ≤ 65536 := by omega
      have hw1 : IntKind.i64.wrap ((l.length : Int) + 1) = (l.length : Int) + 1 := by rw [IntKind.wrap_i64]; omega
      have hw2 : wrap64 ((l.length : Int) + 1) = (l.length : Int) + 1 := by unfold wrap64; omega
      have hl0 : (0 : Int) ≤ (l.length : Int) := by omega
      have HD := Aside0.mk hD
      clear hC2 hcr hdl hnd
      by_cases hf : f = 0
      · subst hf
        obtain ⟨hr, m, rfl, hm6, hmx, hmb, hmt⟩ := dec9_le (allB_drop HXB.out u) hD
        clear hmb hmt
        rw [List.length_drop] at hmx
        have hsz : a7.size ≤ 140737488351232 := by
          have := (fits_of hr).1.h8
          dsimp only at this
          omega
        by_cases h1 : a0 = (l.length : Int) + 1
        · have d1 : (a0 != (l.length : Int) + 1) = false := by simp [h1]
          have HAP : Aside0 (∀ W, Below wr.heap.size wr W → Calls Try.prog 33 #[.pointer (some ⟨w.heap.size, 0, none⟩), .agg #[.int .i64 a0, .int .i64 a1, .int .i64 a2, .int .i64 a3, .int .i64 a4, .int .i64 a5, .string a6, .string a7]] W fun e w' => e = .returned (.tuple #[.int .i64 (appF l ⟨a0, a1, a2, a3, a4, a5, a6, a7⟩).2.1, .int .i64 (appF l ⟨a0, a1, a2, a3, a4, a5, a6, a7⟩).2.2]) ∧ LogAt 98 w' (fun k => w.heap.size ≤ k ∨ W.heap.size ≤ k) w.heap.size (appF l ⟨a0, a1, a2, a3, a4, a5, a6, a7⟩).1 0 ∧ Chg W w' (fun k => w.heap.size ≤ k)) := ⟨fun W hB => append_ok (HL.out.below hB) hll a0 a1 a2 a3 a4 a5 a6 a7 hsz⟩
          rw [appF_own hr h1] at HAP
          have H1 := Aside0.mk h1
          by_cases hstop : a1 < lastE l ∨ l.length = 65536
          · have hq : ∃ q : Int, q ≠ 0 ∧ (if a1 < lastE l then (l, (0 : Int), (100 : Int)) else if l.length = 65536 then (l, 0, 5) else (l ++ [⟨a0, a1, a2, a3, a4, a5, a6, a7⟩], (l.length : Int) + 1, 0)) = (l, 0, q) := by
              by_cases he : a1 < lastE l
              · exact ⟨100, by omega, by rw [if_pos he]⟩
              · rw [if_neg he, if_pos (by omega)]
                exact ⟨5, by omega, rfl⟩
            obtain ⟨q, hq0, hq⟩ := hq
            have e1 : (⟨a0, a1, a2, a3, a4, a5, a6, a7⟩ : RecS).f1 = a1 := rfl
            rw [e1, hq] at HAP
            dsimp only at HAP
            have dq : (q != 0) = true := by simp [hq0]
            have HST : Aside0 (Stops xs l u) := ⟨by
              unfold Stops
              rw [HD.out]
              rcases hstop with hs | hs
              · exact .inr (.inr (.inl hs))
              · exact .inr (.inr (.inr hs))⟩
            clear hD hr hm6 hmx hsz h1 hstop hq hq0 e1 hu hll
            go_wp2_with (first
              | (go_at_call 57; (with_reducible refine hde.mono ?_); rintro e w2 ⟨rfl, hB⟩; (have HN := Aside0.mk (rc_new w2 a0 a1 a2 a3 a4 a5 a6 a7)); (have HBA := Aside0.mk (below_alloc hB (.cells #[.int .i64 a0, .int .i64 a1, .int .i64 a2, .int .i64 a3, .int .i64 a4, .int .i64 a5, .string a6, .string a7] 53))); obtain ⟨⟨b0, b1, b2, b3, b4, b5, b6, b7⟩, ⟨fb0, fb1, fb2, fb3, fb4, fb5, fb6, fb7⟩⟩ := HN.out.cells; (have ltn := HN.out.lt); (have hla := last_okB (HL.out.below HBA.out) HLN.out); clear hB hde)
              | (go_at_call 21; (with_reducible refine hla.mono ?_); rintro e w3 ⟨rfl, hB⟩; clear b0 b1 b2 b3 b4 b5 b6 b7 fb0 fb1 fb2 fb3 fb4 fb5 fb6 fb7 ltn; (replace HN := Aside0.mk (HN.out.below hB)); (replace HBA := Aside0.mk (below_from2 HBA.out (Nat.le_refl _) hB)); obtain ⟨⟨b0, b1, b2, b3, b4, b5, b6, b7⟩, ⟨fb0, fb1, fb2, fb3, fb4, fb5, fb6, fb7⟩⟩ := HN.out.cells; (have ltn := HN.out.lt); (have hap := HAP.out _ HBA.out); clear hB hla)
              | (go_at_call 33; (with_reducible refine hap.mono ?_); rintro e w4 ⟨rfl, hL, hC⟩; (have HL4 := Aside0.mk hL); (have HC4 := Aside0.mk hC); clear b0 b1 b2 b3 b4 b5 b6 b7 fb0 fb1 fb2 fb3 fb4 fb5 fb6 fb7 ltn; clear hL hC hap))
            go_meet
            exact ⟨l, u, rfl, ⟨HRD.out, HST.out⟩, ⟨HL4.out.mono (fun k hk => hk.elim id (fun h => Nat.le_trans (Nat.le_trans HB.out.size HBA.out.size) h))⟩, ⟨below_from2 HB.out (Nat.le_refl _) HBA.out |> fun h => Below.trans h (HC4.out.below h.size (fun k hk => hk))⟩⟩
          · have hq : (if a1 < lastE l then (l, (0 : Int), (100 : Int)) else if l.length = 65536 then (l, 0, 5) else (l ++ [⟨a0, a1, a2, a3, a4, a5, a6, a7⟩], (l.length : Int) + 1, 0)) = (l ++ [⟨a0, a1, a2, a3, a4, a5, a6, a7⟩], (l.length : Int) + 1, 0) := by
              rw [if_neg (fun h => hstop (.inl h)), if_neg (fun h => hstop (.inr h))]
            have e1 : (⟨a0, a1, a2, a3, a4, a5, a6, a7⟩ : RecS).f1 = a1 := rfl
            rw [e1, hq] at HAP
            dsimp only at HAP
            have HST : Aside0 (Reads xs (l ++ [⟨a0, a1, a2, a3, a4, a5, a6, a7⟩]) (u + m)) := ⟨.snoc HRD.out HD.out h1 (by have : ¬ a1 < lastE l := fun h => hstop (.inl h); show lastE l ≤ a1; omega) (by have : ¬ l.length = 65536 := fun h => hstop (.inr h); omega)⟩
            have hum : (u : Int) + (m : Int) ≤ (xs.length : Int) := by omega
            have hw4 : IntKind.i64.wrap ((u : Int) + (m : Int)) = ((u + m : Nat) : Int) := by have := HXL.out; rw [IntKind.wrap_i64]; omega
            have hw5 : wrap64 ((u : Int) + (m : Int)) = ((u + m : Nat) : Int) := by have := HXL.out; unfold wrap64; omega
            have HM6 := Aside0.mk hm6
            have HUM := Aside0.mk hum
            generalize l ++ [(⟨a0, a1, a2, a3, a4, a5, a6, a7⟩ : RecS)] = l2 at HAP HST
            clear hD hr hm6 hmx hsz h1 hstop hq e1 hu hll hum
            go_wp2_with (first
              | (go_at_call 57; (with_reducible refine hde.mono ?_); rintro e w2 ⟨rfl, hB⟩; (have HN := Aside0.mk (rc_new w2 a0 a1 a2 a3 a4 a5 a6 a7)); (have HBA := Aside0.mk (below_alloc hB (.cells #[.int .i64 a0, .int .i64 a1, .int .i64 a2, .int .i64 a3, .int .i64 a4, .int .i64 a5, .string a6, .string a7] 53))); obtain ⟨⟨b0, b1, b2, b3, b4, b5, b6, b7⟩, ⟨fb0, fb1, fb2, fb3, fb4, fb5, fb6, fb7⟩⟩ := HN.out.cells; (have ltn := HN.out.lt); (have hla := last_okB (HL.out.below HBA.out) HLN.out); clear hB hde)
              | (go_at_call 21; (with_reducible refine hla.mono ?_); rintro e w3 ⟨rfl, hB⟩; clear b0 b1 b2 b3 b4 b5 b6 b7 fb0 fb1 fb2 fb3 fb4 fb5 fb6 fb7 ltn; (replace HN := Aside0.mk (HN.out.below hB)); (replace HBA := Aside0.mk (below_from2 HBA.out (Nat.le_refl _) hB)); obtain ⟨⟨b0, b1, b2, b3, b4, b5, b6, b7⟩, ⟨fb0, fb1, fb2, fb3, fb4, fb5, fb6, fb7⟩⟩ := HN.out.cells; (have ltn := HN.out.lt); (have hap := HAP.out _ HBA.out); clear hB hla)
              | (go_at_call 33; (with_reducible refine hap.mono ?_); rintro e w4 ⟨rfl, hL, hC⟩; (have HL4 := Aside0.mk hL); (have HC4 := Aside0.mk hC); clear b0 b1 b2 b3 b4 b5 b6 b7 fb0 fb1 fb2 fb3 fb4 fb5 fb6 fb7 ltn; clear hL hC hap))
            go_roundw
            case rel => exact ⟨l2, u + m, by first | rfl | go_num | rw [hw5], HST, ⟨HL4.out.mono (fun k hk => hk.elim id (fun h => Nat.le_trans (Nat.le_trans HB.out.size HBA.out.size) h))⟩, ⟨below_from2 HB.out (Nat.le_refl _) HBA.out |> fun h => Below.trans h (HC4.out.below h.size (fun k hk => hk))⟩⟩
            case measure => have h1 := HM6.out; have h2 := HUM.out; simp [intOf]; omega
        · have d1 : (a0 != (l.length : Int) + 1) = true := by simp [h1]
          have HST : Aside0 (Stops xs l u) := ⟨by
            unfold Stops
            rw [HD.out]
            exact .inr (.inl h1)⟩
          have HAP : Aside0 (∀ W, Below wr.heap.size wr W → True) := ⟨fun _ _ => trivial⟩
          clear hD hr hm6 hmx hsz h1 hu hll
          go_wp2_with (first
            | (go_at_call 57; (with_reducible refine hde.mono ?_); rintro e w2 ⟨rfl, hB⟩; (have HN := Aside0.mk (rc_new w2 a0 a1 a2 a3 a4 a5 a6 a7)); (have HBA := Aside0.mk (below_alloc hB (.cells #[.int .i64 a0, .int .i64 a1, .int .i64 a2, .int .i64 a3, .int .i64 a4, .int .i64 a5, .string a6, .string a7] 53))); obtain ⟨⟨b0, b1, b2, b3, b4, b5, b6, b7⟩, ⟨fb0, fb1, fb2, fb3, fb4, fb5, fb6, fb7⟩⟩ := HN.out.cells; (have ltn := HN.out.lt); (have hla := last_okB (HL.out.below HBA.out) HLN.out); clear hB hde)
            | (go_at_call 21; (with_reducible refine hla.mono ?_); rintro e w3 ⟨rfl, hB⟩; clear b0 b1 b2 b3 b4 b5 b6 b7 fb0 fb1 fb2 fb3 fb4 fb5 fb6 fb7 ltn; (replace HN := Aside0.mk (HN.out.below hB)); (replace HBA := Aside0.mk (below_from2 HBA.out (Nat.le_refl _) hB)); obtain ⟨⟨b0, b1, b2, b3, b4, b5, b6, b7⟩, ⟨fb0, fb1, fb2, fb3, fb4, fb5, fb6, fb7⟩⟩ := HN.out.cells; (have ltn := HN.out.lt); (have hap := HAP.out _ HBA.out); clear hB hla))
          go_meet
          exact ⟨l, u, rfl, ⟨HRD.out, HST.out⟩, ⟨HL.out.below HBA.out⟩, ⟨below_from2 HB.out (Nat.le_refl _) HBA.out⟩⟩
      · have dq : (f != 0) = true := by simp [hf]
        have HST : Aside0 (Stops xs l u) := ⟨by
          unfold Stops
          rw [HD.out]
          exact .inl hf⟩
        have HAP : Aside0 (∀ W, Below wr.heap.size wr W → True) := ⟨fun _ _ => trivial⟩
        clear hD hf hu hll
        go_wp2_with (first
          | (go_at_call 57; (with_reducible refine hde.mono ?_); rintro e w2 ⟨rfl, hB⟩; (have HN := Aside0.mk (rc_new w2 a0 a1 a2 a3 a4 a5 a6 a7)); (have HBA := Aside0.mk (below_alloc hB (.cells #[.int .i64 a0, .int .i64 a1, .int .i64 a2, .int .i64 a3, .int .i64 a4, .int .i64 a5, .string a6, .string a7] 53))); obtain ⟨⟨b0, b1, b2, b3, b4, b5, b6, b7⟩, ⟨fb0, fb1, fb2, fb3, fb4, fb5, fb6, fb7⟩⟩ := HN.out.cells; (have ltn := HN.out.lt); (have hla := last_okB (HL.out.below HBA.out) HLN.out); clear hB hde)
          | (go_at_call 21; (with_reducible refine hla.mono ?_); rintro e w3 ⟨rfl, hB⟩; clear b0 b1 b2 b3 b4 b5 b6 b7 fb0 fb1 fb2 fb3 fb4 fb5 fb6 fb7 ltn; (replace HN := Aside0.mk (HN.out.below hB)); (replace HBA := Aside0.mk (below_from2 HBA.out (Nat.le_refl _) hB)); obtain ⟨⟨b0, b1, b2, b3, b4, b5, b6, b7⟩, ⟨fb0, fb1, fb2, fb3, fb4, fb5, fb6, fb7⟩⟩ := HN.out.cells; (have ltn := HN.out.lt); (have hap := HAP.out _ HBA.out); clear hB hla))
        go_meet
        exact ⟨l, u, rfl, ⟨HRD.out, HST.out⟩, ⟨HL.out.below HBA.out⟩, ⟨below_from2 HB.out (Nat.le_refl _) HBA.out⟩⟩
  case rest =>
    clear HL HB
    obtain ⟨l, u, rfl, HRD, HL, HB⟩ := hcut
    obtain ⟨A2, c2, hb, ⟨h0, h1, f0, f1⟩, hc2, hC2⟩ := HL.out.row
    have ltg := blk_lt hb
    clear hb hc2 hC2
    go_wp2
    try rw [Exit.noGoto_ret]
    go_ret2
    exact ⟨w.heap.size, l, u, rfl, HRD.out, HL.out.putF (by decide) _, HB.out.setCell (Nat.le_refl _) _⟩
end Go.Proofs.Ytgjibcfkjaedfaa.Wal
