-- Parts melded by a program of this session.
import Derived.Test.YtgjibcfkjaedfaaTHRecHub
/- slices.Clone of records. -/
namespace Go.Proofs.Ytgjibcfkjaedfaa.Wal
open Go.RowKit Go.Proofs.YtgjibcfkjaedfaaW.PrintWords Go.Proofs.YtgjibcfkjaedfaaW.PrintLast Go.Proofs.YtgjibcfkjaedfaaW.PrintMore Go.Proofs.Ytgjibcfkjaedfaa.Wire Go.Proofs.Ytgjibcfkjaedfaa.Pr Go.Proofs.Ytgjibcfkjaedfaa.Rec
set_option linter.unusedVariables false
set_option linter.unusedSimpArgs false
theorem rec_empty (w : World) : Kd.R kRec 53 (w.alloc (.cells #[] 53)) w.heap.size (fun _ => True) (.slice (some ⟨w.heap.size, 0, none⟩) 0 0) [] :=
  ⟨fun _ _ => trivial, [], World.ownsRow_lit w #[] 0 (Nat.le_refl _) (by decide) rfl, ⟨rfl, fun i x h => by simp at h⟩⟩
set_option maxHeartbeats 4000000 in
set_option maxRecDepth 100000 in
theorem clone_ok (A : Option Addr) (c : Nat) (l : List RecS) (w : World) (hr : Kd.C kRec w A l.length l) (hc : l.length ≤ c) (hn : l.length ≤ 1759218604441) :
    Calls Try.prog 52 #[.slice A l.length c] w fun e w' => ∃ A' c', e = .returned (.slice A' l.length c') ∧ Kd.R kRec 53 w' w.heap.size (fun _ => True) (.slice A' l.length c') l ∧ Below w.heap.size w w' := by
  cases A with
  | none =>
    have hz : l = [] := by
      rcases l with _ | ⟨x, l⟩
      · rfl
      · obtain ⟨ad, e, _⟩ := hr.2.2 (by simp)
        cases e
    subst hz
    clear hr hc hn
    have heq : ∀ W, (binOp .eql 22 (.slice none 0 c) (.slice none 0 0)).run Try.prog W = .ok (.bool true) W := fun W => by kernel_rfl
    go_enter Try.func52, Try.ntmps52
    go_wp2
    go_ret
    exact ⟨_, _, rfl, Kd.R_nil _ _ _ _ _, Below.refl _ _⟩
  | some ad =>
    have HE := Aside0.mk (rec_empty w)
    have HR := Aside0.mk hr
    have HN := Aside0.mk hn
    have hB := below_alloc (Below.refl w.heap.size w) (.cells #[] 53)
    have HB := Aside0.mk hB
    have hl : l.length ≤ 9223372036854775807 := hr.2.1
    clear hr hn hB
    have heq : ∀ W, (binOp .eql 22 (.slice (some ad) l.length c) (.slice none 0 0)).run Try.prog W = .ok (.bool false) W := fun W => by kernel_rfl
    go_enter Try.func52, Try.ntmps52
    go_wp2_with ((with_reducible refine gate_builtin (b := .append) (xs := #[.tmp 5, .tmp 6]) rfl ?_); at_builtin; refine Kd.R_append_rows kRec (Rr := fun x cs => kRec.K (w.alloc (.cells #[] 53)) x cs) (w0 := w) w.heap.size rfl (.tmp 5) (.tmp 6) 22 53 (.agg #[.int .i64 0, .int .i64 0, .int .i64 0, .int .i64 0, .int .i64 0, .int .i64 0, .string ⟨#[]⟩, .string ⟨#[]⟩]) 80 rfl Try.underlying22 infoRec rfl (by decide) (by omega) (.slice (some ⟨w.heap.size, 0, none⟩) 0 0) [] l (some ad) l.length c (fun _ => True) (fun _ => False) rfl rfl HE.out (Kd.C_below HR.out HB.out) ?aK (fun _ hk => hk.elim) (fun _ _ => trivial) HB.out HB.out.size ?aL ?_; (case aK => (intro x cs h; rw [k53_open h]; exact k53_mkM _ _ _ _)); (case aL => (have := HN.out; simp; omega)); intro v1 w1 ho hbel hg hat; rw [List.nil_append] at ho; obtain ⟨A1, c1, rfl⟩ := Kd.R_slice ho; (have HO := Aside0.mk ho); (have HB1 := Aside0.mk hbel); clear ho hbel hg hat)
    go_ret
    exact ⟨A1, c1, rfl, HO.out, HB1.out⟩
end Go.Proofs.Ytgjibcfkjaedfaa.Wal

/- A log in memory, and what wal's smaller methods do. -/
namespace Go.Proofs.Ytgjibcfkjaedfaa.Wal
open Go.RowKit Go.Proofs.YtgjibcfkjaedfaaW.PrintWords Go.Proofs.YtgjibcfkjaedfaaW.PrintLast Go.Proofs.YtgjibcfkjaedfaaW.PrintMore Go.Proofs.Ytgjibcfkjaedfaa.Wire Go.Proofs.Ytgjibcfkjaedfaa.Pr Go.Proofs.Ytgjibcfkjaedfaa.Rec
set_option linter.unusedVariables false
set_option linter.unusedSimpArgs false
/-- Block g is a log with these records; it and its row lie in ok. -/
def LogAt (T : Nat) (w : World) (ok : Nat → Prop) (g : Nat) (l : List RecS) (fl : Int) : Prop :=
  ∃ A c, w.heap[g]? = some (.cells #[.slice A l.length c, .int .i64 fl] T (0, 0)) ∧ ok g ∧ Kd.R kRec 53 w 0 ok (.slice A l.length c) l
section
variable {T : Nat} {w w1 : World} {ok ok' : Nat → Prop} {g : Nat} {l : List RecS} {fl : Int} {S : Nat → Prop}
theorem LogAt.lt (h : LogAt T w ok g l fl) : g < w.heap.size := by
  obtain ⟨A, c, hb, _⟩ := h
  exact blk_lt hb
theorem LogAt.okg (h : LogAt T w ok g l fl) : ok g := by
  obtain ⟨A, c, _, ho, _⟩ := h
  exact ho
theorem LogAt.chg (h : LogAt T w ok g l fl) (hc : Chg w w1 S) (hn : ∀ k, ok k → k < w.heap.size → ¬ S k) : LogAt T w1 ok g l fl := by
  obtain ⟨A, c, hb, ho, hR⟩ := h
  exact ⟨A, c, hc.blk hb (hn g ho (blk_lt hb)), ho, Kd.R_step hR (fun k hk hlt => hc.block k hlt (hn k hk hlt))⟩
theorem LogAt.below (h : LogAt T w ok g l fl) (hB : Below w.heap.size w w1) : LogAt T w1 ok g l fl := h.chg (Chg.of_below hB (fun _ => False)) (fun _ _ _ h => h)
theorem LogAt.mono (h : LogAt T w ok g l fl) (hk : ∀ k, ok k → ok' k) : LogAt T w ok' g l fl := by
  obtain ⟨A, c, hb, ho, hR⟩ := h
  exact ⟨A, c, hb, hk g ho, Kd.R_mono hR hk⟩
theorem LogAt.bound (h : LogAt T w ok g l fl) : LogAt T w (fun k => ok k ∧ k < w.heap.size) g l fl := by
  obtain ⟨A, c, hb, ho, hR⟩ := h
  exact ⟨A, c, hb, ⟨ho, blk_lt hb⟩, Kd.R_mono (Kd.R_bound hR) (fun k hk => ⟨hk.1, hk.2.2.1⟩)⟩
/-- the log's row, read -/
theorem LogAt.row (h : LogAt T w ok g l fl) : ∃ A c, w.heap[g]? = some (.cells #[.slice A l.length c, .int .i64 fl] T (0, 0)) ∧ (w.cell? ⟨g, 0, none⟩ = some (.slice A l.length c) ∧ w.cell? ⟨g, 1, none⟩ = some (.int .i64 fl) ∧ w.frozen? ⟨g, 0, none⟩ = false ∧ w.frozen? ⟨g, 1, none⟩ = false) ∧ l.length ≤ c ∧ Kd.C kRec w A l.length l := by
  obtain ⟨A, c, hb, ho, hR⟩ := h
  have hr := Kd.R_reads' hR
  refine ⟨A, c, hb, ?_, hr.2.1, hr.2.2⟩
  simp [World.cell?, World.frozen?, hb]
theorem LogAt.put {A : Option Addr} {c : Nat} {x : Value} (hb : w.heap[g]? = some (.cells #[x, .int .i64 fl] T (0, 0))) (hT : T ≠ 53) (hok : ok g) (hR : Kd.R kRec 53 w 0 ok (.slice A l.length c) l) : LogAt T (w.setCell ⟨g, 0, none⟩ (.slice A l.length c)) ok g l fl := by
  refine ⟨A, c, blk_set hb 0 _, hok, ?_⟩
  exact Kd.R_mono (Kd.R_far (Kd.R_types hR hb (fun q hq => by rw [rec_E q hq]; exact fun e => hT e.symm)) (fun k hk => hk.2) _) (fun k hk => hk.1)
theorem LogAt.putF (h : LogAt T w ok g l fl) (hT : T ≠ 53) (x : Int) : LogAt T (w.setCell ⟨g, 1, none⟩ (.int .i64 x)) ok g l x := by
  obtain ⟨A, c, hb, ho, hR⟩ := h
  refine ⟨A, c, blk_set hb 1 _, ho, ?_⟩
  exact Kd.R_mono (Kd.R_far (Kd.R_types hR hb (fun q hq => by rw [rec_E q hq]; exact fun e => hT e.symm)) (fun k hk => hk.2) _) (fun k hk => hk.1)
end
/-- the last epoch -/
def lastE (l : List RecS) : Int := if l.length = 0 then 0 else (rd_T53 l ((l.length : Int) - 1)).f1
set_option maxHeartbeats 4000000 in
set_option maxRecDepth 100000 in
theorem last_ok {w : World} {ok : Nat → Prop} {g : Nat} {l : List RecS} {fl : Int} (h : LogAt 98 w ok g l fl) (hl : l.length ≤ 1759218604441) :
    Calls Try.prog 21 #[.pointer (some ⟨g, 0, none⟩)] w fun e w' => e = .returned (.tuple #[.int .i64 (l.length : Int), .int .i64 (lastE l)]) ∧ Drawn0 w w' := by
  obtain ⟨A, c, hb, ⟨h0, h1, f0, f1⟩, hc, hC⟩ := h.row
  by_cases hz : l.length = 0
  · have he : lastE l = 0 := by unfold lastE; rw [if_pos hz]
    rw [he, hz]
    rw [hz] at h0
    clear hb hC h hc
    go_enter Try.func21, Try.ntmps21
    go_wp2
    go_ret2
    exact ⟨rfl, Drawn0.refl _⟩
  · obtain ⟨m, hm⟩ : ∃ m : Nat, l.length = m + 1 := ⟨l.length - 1, by omega⟩
    have hmi : (l.length : Int) - 1 = (m : Int) := by omega
    have he : lastE l = (rd_T53 l (m : Int)).f1 := by unfold lastE; rw [if_neg hz, hmi]
    rw [he]
    obtain ⟨ad, rfl, hx0, hx1, hx2, hx3, hx4, hx5, hx6, hx7⟩ := at_T53 hC (m : Int) (by omega) (by omega)
    rw [Int.toNat_natCast] at hx1
    generalize rd_T53 l (m : Int) = x at hx1
    have hn0 : ((l.length : Int) == 0) = false := by rw [beq_eq_false_iff_ne]; omega
    have hw1 : IntKind.i64.wrap ((l.length : Int) - 1) = (m : Int) := by rw [hmi, IntKind.wrap_i64]; omega
    have hw3 : wrap64 ((l.length : Int) - 1) = (m : Int) := by rw [hmi]; unfold wrap64; omega
    have hw0 : (0 : Int) ≤ (m : Int) := by omega
    have hw2 : (m : Int) < (l.length : Int) := by omega
    have hw4 : m < l.length := by omega
    generalize l.length = n at *
    clear hb hC h hc hx0 hx2 hx3 hx4 hx5 hx6 hx7 hz hm hmi
    go_enter Try.func21, Try.ntmps21
    go_wp2
    go_quiet (fail)
    try go_wp2
    go_ret2
    exact ⟨rfl, by repeat (first | exact Drawn0.refl _ | apply Drawn0.step)⟩
end Go.Proofs.Ytgjibcfkjaedfaa.Wal

/- wal's smaller methods. -/
namespace Go.Proofs.Ytgjibcfkjaedfaa.Wal
open Go.RowKit Go.Proofs.YtgjibcfkjaedfaaW.PrintWords Go.Proofs.YtgjibcfkjaedfaaW.PrintLast Go.Proofs.YtgjibcfkjaedfaaW.PrintMore Go.Proofs.Ytgjibcfkjaedfaa.Wire Go.Proofs.Ytgjibcfkjaedfaa.Pr Go.Proofs.Ytgjibcfkjaedfaa.Rec
set_option linter.unusedVariables false
set_option linter.unusedSimpArgs false
theorem max_two' (ats : Array TypeId) (ty : TypeId) (x y : Int) : Builtin.max_ ats ty #[.int .i64 x, .int .i64 y] = pure (.int .i64 (max x y)) := by
  have e : (if y > x then y else x) = max x y := by split <;> omega
  rw [← e]
  rfl
theorem min_two' (ats : Array TypeId) (ty : TypeId) (x y : Int) : Builtin.min_ ats ty #[.int .i64 x, .int .i64 y] = pure (.int .i64 (min x y)) := by
  have e : (if y < x then y else x) = min x y := by split <;> omega
  rw [← e]
  rfl
theorem last_okB {w : World} {ok : Nat → Prop} {g : Nat} {l : List RecS} {fl : Int} (h : LogAt 98 w ok g l fl) (hl : l.length ≤ 1759218604441) :
    Calls Try.prog 21 #[.pointer (some ⟨g, 0, none⟩)] w fun e w' => e = .returned (.tuple #[.int .i64 (l.length : Int), .int .i64 (lastE l)]) ∧ Below w.heap.size w w' :=
  (last_ok h hl).mono fun _ _ ⟨e, d⟩ => ⟨e, d.below⟩
theorem last_nil (w : World) : Calls Try.prog 21 #[.pointer none] w fun e w' => e = .returned (.tuple #[.int .i64 0, .int .i64 0]) ∧ Below w.heap.size w w' := by
  go_enter Try.func21, Try.ntmps21
  go_wp2
  go_ret2
  exact ⟨rfl, Below.refl _ _⟩
theorem new_ok (w : World) : Calls Try.prog 20 #[] w fun e w' => e = .returned (.pointer (some ⟨w.heap.size, 0, none⟩)) ∧ LogAt 98 w' (fun k => w.heap.size ≤ k) w.heap.size [] 0 ∧ Below w.heap.size w w' := by
  have hn : LogAt 98 (w.alloc (.cells #[.slice none 0 0, .int .i64 0] 98)) (fun k => w.heap.size ≤ k) w.heap.size [] 0 := ⟨none, 0, blk_newN _ _, Nat.le_refl _, Kd.R_nil _ _ _ _ _⟩
  have HN := Aside0.mk hn
  clear hn
  go_enter Try.func20, Try.ntmps20
  go_wp2
  go_ret
  exact ⟨rfl, HN.out, below_alloc (Below.refl _ _) _⟩
theorem flushed_ok {w : World} {ok : Nat → Prop} {g : Nat} {l : List RecS} {fl : Int} (h : LogAt 98 w ok g l fl) :
    Calls Try.prog 36 #[.pointer (some ⟨g, 0, none⟩)] w fun e w' => e = .returned (.int .i64 fl) ∧ Below w.heap.size w w' := by
  obtain ⟨A, c, hb, ⟨h0, h1, f0, f1⟩, hc, hC⟩ := h.row
  clear hb hc hC h
  go_enter Try.func36, Try.ntmps36
  go_wp2
  go_ret
  exact ⟨rfl, Below.refl _ _⟩
theorem flushed_nil (w : World) : Calls Try.prog 36 #[.pointer none] w fun e w' => e = .returned (.int .i64 0) ∧ Below w.heap.size w w' := by
  go_enter Try.func36, Try.ntmps36
  go_wp2
  go_ret
  exact ⟨rfl, Below.refl _ _⟩
/-! ### within, Cut, Flush -/
def withinB (n : Nat) (lsn : Int) : Bool := decide (0 ≤ lsn) && decide (lsn ≤ (n : Int))
theorem within_any {p : Value} {w : World} {n : Nat} {x : Int} (lsn : Int) (hlast : Calls Try.prog 21 #[p] w fun e w' => e = .returned (.tuple #[.int .i64 (n : Int), .int .i64 x]) ∧ Below w.heap.size w w') :
    Calls Try.prog 62 #[p, .int .i64 lsn] w fun e w' => e = .returned (.bool (withinB n lsn)) ∧ Below w.heap.size w w' := by
  unfold withinB
  by_cases h0 : 0 ≤ lsn
  · have d0 : decide (lsn ≥ 0) = true := decide_eq_true h0
    have d1 : decide (0 ≤ lsn) = true := decide_eq_true h0
    rw [d1, Bool.true_and]
    go_enter Try.func62, Try.ntmps62
    go_wp2_with (go_at_call 21; (with_reducible refine hlast.mono ?_); rintro e w2 ⟨rfl, hB⟩; (have HB := Aside0.mk hB); clear hB hlast)
    try (go_quiet (fail); try go_wp2)
    go_ret
    exact ⟨rfl, HB.out⟩
  · have d0 : decide (lsn ≥ 0) = false := decide_eq_false h0
    have d1 : decide (0 ≤ lsn) = false := decide_eq_false h0
    rw [d1, Bool.false_and]
    clear h0
    go_enter Try.func62, Try.ntmps62
    go_wp2_with (go_at_call 21; (with_reducible refine hlast.mono ?_); rintro e w2 ⟨rfl, hB⟩; (have HB := Aside0.mk hB); clear hB hlast)
    try (go_quiet (fail); try go_wp2)
    go_ret
    exact ⟨rfl, HB.out⟩
def flushF (n : Nat) (fl lsn : Int) : Int × Int := if withinB n lsn = true then (max fl lsn, 0) else (fl, 1)
set_option maxHeartbeats 4000000 in
theorem flush_ok {w : World} {ok : Nat → Prop} {g : Nat} {l : List RecS} {fl : Int} (h : LogAt 98 w ok g l fl) (hl : l.length ≤ 1759218604441) (lsn : Int) :
    Calls Try.prog 44 #[.pointer (some ⟨g, 0, none⟩), .int .i64 lsn] w fun e w' => e = .returned (.int .i64 (flushF l.length fl lsn).2) ∧ LogAt 98 w' ok g l (flushF l.length fl lsn).1 ∧ Chg w w' ok := by
  have hin := within_any lsn (last_okB h hl)
  have HL := Aside0.mk h
  unfold flushF
  have hmx := fun ats ty => max_two' ats ty fl lsn
  generalize max fl lsn = m at hmx
  cases hb : withinB l.length lsn
  · rw [if_neg (by decide)]
    rw [hb] at hin
    clear hb h hl
    go_enter Try.func44, Try.ntmps44
    go_wp2_with (go_at_call 62; (with_reducible refine hin.mono ?_); rintro e w2 ⟨rfl, hB⟩; (have HB := Aside0.mk hB); clear hB hin)
    go_ret
    exact ⟨rfl, HL.out.below HB.out, Chg.of_below HB.out _⟩
  · rw [if_pos rfl]
    rw [hb] at hin
    clear hb h hl
    go_enter Try.func44, Try.ntmps44
    go_wp2_with (go_at_call 62; (with_reducible refine hin.mono ?_); rintro e w2 ⟨rfl, hB⟩; (replace HL := Aside0.mk (HL.out.below hB)); obtain ⟨A, c, hb, ⟨h0, h1, f0, f1⟩, hc, hC⟩ := HL.out.row; (have HB := Aside0.mk hB); clear hb hc hC hB hin)
    go_ret
    exact ⟨rfl, HL.out.putF (by decide) m, (Chg.of_below HB.out ok).trans (Chg.setCell _ _ _) (fun k hk => .inl (by rw [hk]; exact HL.out.okg))⟩
end Go.Proofs.Ytgjibcfkjaedfaa.Wal

/- wal's Get, From, Cut. -/
namespace Go.Proofs.Ytgjibcfkjaedfaa.Wal
open Go.RowKit Go.Proofs.YtgjibcfkjaedfaaW.PrintWords Go.Proofs.YtgjibcfkjaedfaaW.PrintLast Go.Proofs.YtgjibcfkjaedfaaW.PrintMore Go.Proofs.Ytgjibcfkjaedfaa.Wire Go.Proofs.Ytgjibcfkjaedfaa.Pr Go.Proofs.Ytgjibcfkjaedfaa.Rec
set_option linter.unusedVariables false
set_option linter.unusedSimpArgs false
/-- a record by its LSN -/
def getF (l : List RecS) (n : Int) : RecS × Int := if 1 ≤ n ∧ n ≤ (l.length : Int) then (rd_T53 l (n - 1), 0) else (z53, 6)
set_option maxHeartbeats 8000000 in
set_option maxRecDepth 100000 in
theorem get_any {p : Value} {w : World} {l : List RecS} {x : Int} (n : Int) (hl : l.length ≤ 1759218604441) (hlast : ∀ W, Below w.heap.size w W → Calls Try.prog 21 #[p] W fun e w' => e = .returned (.tuple #[.int .i64 (l.length : Int), .int .i64 x]) ∧ Below W.heap.size W w')
    (hrow : l ≠ [] → ∃ g A c fl, p = .pointer (some ⟨g, 0, none⟩) ∧ w.heap[g]? = some (.cells #[.slice A l.length c, .int .i64 fl] 98 (0, 0)) ∧ l.length ≤ c ∧ Kd.C kRec w A l.length l) :
    Calls Try.prog 47 #[p, .int .i64 n] w fun e w' => e = .returned (.tuple #[.agg #[.int .i64 (getF l n).1.f0, .int .i64 (getF l n).1.f1, .int .i64 (getF l n).1.f2, .int .i64 (getF l n).1.f3, .int .i64 (getF l n).1.f4, .int .i64 (getF l n).1.f5, .string (getF l n).1.f6, .string (getF l n).1.f7], .int .i64 (getF l n).2]) ∧ Below w.heap.size w w' := by
  have hrc := rc_new w 0 0 0 0 0 0 ⟨#[]⟩ ⟨#[]⟩
  have HB := Aside0.mk (below_alloc (Below.refl w.heap.size w) (.cells #[.int .i64 0, .int .i64 0, .int .i64 0, .int .i64 0, .int .i64 0, .int .i64 0, .string ⟨#[]⟩, .string ⟨#[]⟩] 53))
  have hla := hlast _ HB.out
  have HRC := Aside0.mk hrc
  obtain ⟨⟨b0, b1, b2, b3, b4, b5, b6, b7⟩, ⟨f0, f1, f2, f3, f4, f5, f6, f7⟩⟩ := hrc.cells
  unfold getF
  by_cases hin : 1 ≤ n ∧ n ≤ (l.length : Int)
  · rw [if_pos hin]
    obtain ⟨g, A, c, fl, rfl, hb, hc, hC⟩ := hrow (by intro e; rw [e] at hin; simp at hin; omega)
    obtain ⟨m, hm⟩ : ∃ m : Nat, n = (m : Int) + 1 := ⟨(n - 1).toNat, by omega⟩
    have hmi : n - 1 = (m : Int) := by omega
    rw [hmi]
    have hml : m < l.length := by omega
    have d1 : decide (n < 1) = false := decide_eq_false (by omega)
    have d2 : decide (n > (l.length : Int)) = false := decide_eq_false (by omega)
    have hw1 : IntKind.i64.wrap (n - 1) = (m : Int) := by rw [hmi, IntKind.wrap_i64]; omega
    have hw3 : wrap64 (n - 1) = (m : Int) := by rw [hmi]; unfold wrap64; omega
    have hw0 : (0 : Int) ≤ (m : Int) := by omega
    have hw2 : (m : Int) < (l.length : Int) := by omega
    have HBK := Aside0.mk hb
    have HC := Aside0.mk hC
    have HLG := Aside0.mk (blk_lt hb)
    have HML := Aside0.mk hml
    clear hlast hrow hin hm hmi hrc hb hC hl
    go_enter Try.func47, Try.ntmps47
    go_wp2_with (go_at_call 21; (with_reducible refine hla.mono ?_); rintro e w2 ⟨rfl, hB⟩; clear b0 b1 b2 b3 b4 b5 b6 b7 f0 f1 f2 f3 f4 f5 f6 f7; (replace HRC := Aside0.mk (HRC.out.below hB)); (replace HB := Aside0.mk (below_from HB.out (Nat.le_refl _) hB)); obtain ⟨⟨b0, b1, b2, b3, b4, b5, b6, b7⟩, ⟨f0, f1, f2, f3, f4, f5, f6, f7⟩⟩ := HRC.out.cells; (have hbk := (Chg.of_below HB.out (fun _ => False)).blk HBK.out (fun h => h)); obtain ⟨h0, h1⟩ : w2.cell? ⟨g, 0, none⟩ = some (.slice A l.length c) ∧ w2.cell? ⟨g, 1, none⟩ = some (.int .i64 fl) := (by simp [World.cell?, hbk]); obtain ⟨ad, rfl, hx0, hx1, hx2, hx3, hx4, hx5, hx6, hx7⟩ := at_T53 (Kd.C_below HC.out HB.out) (m : Int) (by omega) (by have := HML.out; omega); rw [Int.toNat_natCast] at hx0 hx1 hx2 hx3 hx4 hx5 hx6 hx7; clear hbk hB hla)
    generalize rd_T53 l (m : Int) = x at hx0 hx1 hx2 hx3 hx4 hx5 hx6 hx7 ⊢
    obtain ⟨x0, x1, x2, x3, x4, x5, x6, x7⟩ := x
    refine bodyPost_ret (results_ct rfl _ _ w.heap.size 53 #[.int .i64 x0, .int .i64 x1, .int .i64 x2, .int .i64 x3, .int .i64 x4, .int .i64 x5, .string x6, .string x7] (0, 0) _ rfl (HRC.out.set8 x0 x1 x2 x3 x4 x5 x6 x7) Try.underlying53 rfl (by kernel_rfl)) rfl ?_
    exact ⟨rfl, below_set8 HB.out (Nat.le_refl _)⟩
  · rw [if_neg hin]
    clear hrow hlast hrc hl
    by_cases h1 : n < 1
    · have d1 : decide (n < 1) = true := decide_eq_true h1
      clear hin h1
      go_enter Try.func47, Try.ntmps47
      go_wp2_with (go_at_call 21; (with_reducible refine hla.mono ?_); rintro e w2 ⟨rfl, hB⟩; clear b0 b1 b2 b3 b4 b5 b6 b7 f0 f1 f2 f3 f4 f5 f6 f7; (replace HRC := Aside0.mk (HRC.out.below hB)); (replace HB := Aside0.mk (below_from HB.out (Nat.le_refl _) hB)); obtain ⟨⟨b0, b1, b2, b3, b4, b5, b6, b7⟩, ⟨f0, f1, f2, f3, f4, f5, f6, f7⟩⟩ := HRC.out.cells; clear hB hla)
      refine bodyPost_ret (results_ct rfl _ _ w.heap.size 53 #[.int .i64 0, .int .i64 0, .int .i64 0, .int .i64 0, .int .i64 0, .int .i64 0, .string ⟨#[]⟩, .string ⟨#[]⟩] (0, 0) _ rfl (HRC.out.set8 0 0 0 0 0 0 ⟨#[]⟩ ⟨#[]⟩) Try.underlying53 rfl (by kernel_rfl)) rfl ?_
      exact ⟨rfl, below_set8 HB.out (Nat.le_refl _)⟩
    · have d1 : decide (n < 1) = false := decide_eq_false h1
      have d2 : decide (n > (l.length : Int)) = true := decide_eq_true (by omega)
      clear hin h1
      go_enter Try.func47, Try.ntmps47
      go_wp2_with (go_at_call 21; (with_reducible refine hla.mono ?_); rintro e w2 ⟨rfl, hB⟩; clear b0 b1 b2 b3 b4 b5 b6 b7 f0 f1 f2 f3 f4 f5 f6 f7; (replace HRC := Aside0.mk (HRC.out.below hB)); (replace HB := Aside0.mk (below_from HB.out (Nat.le_refl _) hB)); obtain ⟨⟨b0, b1, b2, b3, b4, b5, b6, b7⟩, ⟨f0, f1, f2, f3, f4, f5, f6, f7⟩⟩ := HRC.out.cells; clear hB hla)
      refine bodyPost_ret (results_ct rfl _ _ w.heap.size 53 #[.int .i64 0, .int .i64 0, .int .i64 0, .int .i64 0, .int .i64 0, .int .i64 0, .string ⟨#[]⟩, .string ⟨#[]⟩] (0, 0) _ rfl (HRC.out.set8 0 0 0 0 0 0 ⟨#[]⟩ ⟨#[]⟩) Try.underlying53 rfl (by kernel_rfl)) rfl ?_
      exact ⟨rfl, below_set8 HB.out (Nat.le_refl _)⟩
theorem get_ok {w : World} {ok : Nat → Prop} {g : Nat} {l : List RecS} {fl : Int} (h : LogAt 98 w ok g l fl) (hl : l.length ≤ 1759218604441) (n : Int) :
    Calls Try.prog 47 #[.pointer (some ⟨g, 0, none⟩), .int .i64 n] w fun e w' => e = .returned (.tuple #[.agg #[.int .i64 (getF l n).1.f0, .int .i64 (getF l n).1.f1, .int .i64 (getF l n).1.f2, .int .i64 (getF l n).1.f3, .int .i64 (getF l n).1.f4, .int .i64 (getF l n).1.f5, .string (getF l n).1.f6, .string (getF l n).1.f7], .int .i64 (getF l n).2]) ∧ Below w.heap.size w w' :=
  get_any n hl (fun W hB => last_okB (h.below hB) hl) (fun _ => by
    obtain ⟨A, c, hb, _, hc, hC⟩ := h.row
    exact ⟨g, A, c, fl, rfl, hb, hc, hC⟩)
theorem get_nil (w : World) (n : Int) :
    Calls Try.prog 47 #[.pointer none, .int .i64 n] w fun e w' => e = .returned (.tuple #[.agg #[.int .i64 (getF [] n).1.f0, .int .i64 (getF [] n).1.f1, .int .i64 (getF [] n).1.f2, .int .i64 (getF [] n).1.f3, .int .i64 (getF [] n).1.f4, .int .i64 (getF [] n).1.f5, .string (getF [] n).1.f6, .string (getF [] n).1.f7], .int .i64 (getF [] n).2]) ∧ Below w.heap.size w w' :=
  get_any n (by simp) (fun W hB => last_nil W) (fun h => absurd rfl h)
/-! ### From -/
def fromF (l : List RecS) (lsn most : Int) : List RecS := if (l.length : Int) < max lsn 1 ∨ most < 1 then [] else (l.drop ((max lsn 1) - 1).toNat).take (min most ((l.length : Int) - max lsn 1 + 1)).toNat
theorem rec_rest {A : Option Addr} {c n m : Nat} (hm : m ≤ n) : ∃ A' : Option Addr, (∀ W : World, (Instr.slice 22 (.slice A n c) (some (.int .i64 (m : Int))) none none).run Try.prog W = .ok (.slice A' (n - m) (c - m)) W) ∧ ∀ (W : World) (xs : List RecS), xs.length = n → n ≤ c → Kd.C kRec W A n xs → Kd.C kRec W A' (n - m) (xs.drop m) := by
  refine ⟨if c = m then A else A.map (·.add (m * 8)), fun W => ?_, fun W xs hl hc h => ?_⟩
  · have h := cut_from (P := Try.prog) 22 53 .i64 Try.underlying22 (info_parts infoRec).choose_spec.1 8 (info_parts infoRec).choose_spec.2.2.1 A n c (m : Int) (by omega) (by omega) W
    rw [Int.toNat_natCast] at h
    exact h
  · subst hl
    have h1 := Kd.C_drop h hm hc
    rw [List.length_drop] at h1
    exact h1
set_option maxHeartbeats 8000000 in
set_option maxRecDepth 100000 in
theorem from_ok {w : World} {ok : Nat → Prop} {g : Nat} {l : List RecS} {fl : Int} (h : LogAt 98 w ok g l fl) (hl : l.length ≤ 1759218604441) (lsn most : Int) :
    Calls Try.prog 18 #[.pointer (some ⟨g, 0, none⟩), .int .i64 lsn, .int .i64 most] w fun e w' => ∃ A c, e = .returned (.slice A (fromF l lsn most).length c) ∧ Kd.R kRec 53 w' w.heap.size (fun _ => True) (.slice A (fromF l lsn most).length c) (fromF l lsn most) ∧ Below w.heap.size w w' := by
  have hlast := last_okB h hl
  have hmx := fun ats ty => max_two' ats ty lsn 1
  unfold fromF
  obtain ⟨a, ha⟩ : ∃ a, max lsn 1 = a := ⟨_, rfl⟩
  have ha1 : 1 ≤ a := by omega
  rw [ha] at hmx ⊢
  by_cases h1 : (l.length : Int) < a
  · rw [if_pos (.inl h1)]
    have d1 : decide (a > (l.length : Int)) = true := decide_eq_true h1
    clear h hl ha h1
    go_enter Try.func18, Try.ntmps18
    go_wp2_with (go_at_call 21; (with_reducible refine hlast.mono ?_); rintro e w2 ⟨rfl, hB⟩; (have HB := Aside0.mk hB); clear hB hlast)
    try (go_quiet (fail); try go_wp2)
    go_ret
    exact ⟨none, 0, rfl, Kd.R_nil _ _ _ _ _, HB.out⟩
  · have d1 : decide (a > (l.length : Int)) = false := decide_eq_false (by omega)
    by_cases h2 : most < 1
    · rw [if_pos (.inr h2)]
      have d2 : decide (most < 1) = true := decide_eq_true h2
      clear h hl ha h1 h2
      go_enter Try.func18, Try.ntmps18
      go_wp2_with (go_at_call 21; (with_reducible refine hlast.mono ?_); rintro e w2 ⟨rfl, hB⟩; (have HB := Aside0.mk hB); clear hB hlast)
      try (go_quiet (fail); try go_wp2)
      go_ret
      exact ⟨none, 0, rfl, Kd.R_nil _ _ _ _ _, HB.out⟩
    · rw [if_neg (by omega)]
      have d2 : decide (most < 1) = false := decide_eq_false h2
      obtain ⟨m, hm⟩ : ∃ m : Nat, a - 1 = (m : Int) := ⟨(a - 1).toNat, by omega⟩
      have hml : m < l.length := by omega
      have hb1 : (l.length : Int) - a + 1 = ((l.length - m : Nat) : Int) := by omega
      have hb0 : (l.length : Int) - a = ((l.length - m : Nat) : Int) - 1 := by omega
      have hmn := fun ats ty => min_two' ats ty most (((l.length - m : Nat) : Int))
      obtain ⟨k, hk⟩ : ∃ k : Nat, min most (((l.length - m : Nat) : Int)) = (k : Int) := ⟨(min most (((l.length - m : Nat) : Int))).toNat, by omega⟩
      have hkl : k ≤ l.length - m := by omega
      rw [hk] at hmn
      rw [hb1, hm, hk, Int.toNat_natCast, Int.toNat_natCast]
      have hw1 : IntKind.i64.wrap (a - 1) = (m : Int) := by rw [hm, IntKind.wrap_i64]; omega
      have hw2 : IntKind.i64.wrap ((l.length : Int) - a) = (l.length : Int) - a := by rw [IntKind.wrap_i64]; omega
      have hw3 : IntKind.i64.wrap ((l.length : Int) - a + 1) = ((l.length - m : Nat) : Int) := by rw [hb1, IntKind.wrap_i64]; omega
      have hw4 : wrap64 (a - 1) = (m : Int) := by rw [hm]; unfold wrap64; omega
      have hw5 : wrap64 ((l.length : Int) - a) = (l.length : Int) - a := by unfold wrap64; omega
      have hw6 : wrap64 ((l.length : Int) - a + 1) = ((l.length - m : Nat) : Int) := by rw [hb1]; unfold wrap64; omega
      have HL := Aside0.mk h
      obtain ⟨A, c, hb, _, hc, hC⟩ := h.row
      obtain ⟨A', hcut, hcr⟩ := rec_rest (A := A) (c := c) (n := l.length) (m := m) (by omega)
      have hC2 := hcr w l rfl hc hC
      have hlen : ((l.drop m).take k).length = k := by rw [List.length_take, List.length_drop]; omega
      have hC3 : Kd.C kRec w A' k ((l.drop m).take k) := by
        have hd : (l.drop m).length = l.length - m := List.length_drop
        rw [← hd] at hC2
        have h9 := Kd.C_take hC2 (show k ≤ (l.drop m).length by omega)
        rw [hlen] at h9
        exact h9
      have hcut2 : ∀ W : World, (Instr.slice 22 (.slice A' (l.length - m) (c - m)) none (some (.int .i64 (k : Int))) none).run Try.prog W = .ok (.slice A' k (c - m)) W := by
        intro W
        have h := cut_to (P := Try.prog) 22 53 .i64 Try.underlying22 (info_parts infoRec).choose_spec.1 A' (l.length - m) (c - m) (k : Int) (by omega) (by omega) (by omega) W
        rw [Int.toNat_natCast] at h
        exact h
      have HCL : Aside0 (∀ W, Below w.heap.size w W → Calls Try.prog 52 #[.slice A' k (c - m)] W fun e w' => ∃ B d, e = .returned (.slice B k d) ∧ Kd.R kRec 53 w' W.heap.size (fun _ => True) (.slice B k d) ((l.drop m).take k) ∧ Below W.heap.size W w') := ⟨fun W hB => by
        have h9 := clone_ok A' (c - m) ((l.drop m).take k) W (by rw [hlen]; exact Kd.C_below hC3 hB) (by omega) (by omega)
        rw [hlen] at h9
        exact h9⟩
      have HBK := Aside0.mk hb
      obtain ⟨nm, hnm⟩ : ∃ nm, l.length - m = nm := ⟨_, rfl⟩
      rw [hnm] at hmn hw3 hw6 hcut hcut2
      rw [hlen]
      generalize (l.drop m).take k = ys at HCL ⊢
      clear h hl ha h1 h2 hm hml hb1 hb0 hk hkl hb hC hcr hC2 hC3 hlen hnm hc
      go_enter Try.func18, Try.ntmps18
      go_wp2_with (first
        | (go_at_call 21; (with_reducible refine hlast.mono ?_); rintro e w2 ⟨rfl, hB⟩; (have HB := Aside0.mk hB); (have hbk := (Chg.of_below HB.out (fun _ => False)).blk HBK.out (fun h => h)); obtain ⟨h0, h1⟩ : w2.cell? ⟨g, 0, none⟩ = some (.slice A l.length c) ∧ w2.cell? ⟨g, 1, none⟩ = some (.int .i64 fl) := (by simp [World.cell?, hbk]); (have hcl := HCL.out w2 HB.out); clear hB hlast hbk)
        | (go_at_call 52; (with_reducible refine hcl.mono ?_); rintro e w3 ⟨B, d, rfl, hR, hB⟩; (have HR := Aside0.mk (Kd.R_lower hR HB.out.size)); (replace HB := Aside0.mk (below_from2 HB.out (Nat.le_refl _) hB)); clear hB hR hcl))
      go_ret
      exact ⟨B, d, rfl, HR.out, HB.out⟩
end Go.Proofs.Ytgjibcfkjaedfaa.Wal

/- wal's Cut, Marks, Bytes. -/
namespace Go.Proofs.Ytgjibcfkjaedfaa.Wal
open Go.RowKit Go.Proofs.YtgjibcfkjaedfaaW.PrintWords Go.Proofs.YtgjibcfkjaedfaaW.PrintLast Go.Proofs.YtgjibcfkjaedfaaW.PrintMore Go.Proofs.Ytgjibcfkjaedfaa.Wire Go.Proofs.Ytgjibcfkjaedfaa.Pr Go.Proofs.Ytgjibcfkjaedfaa.Rec
open Go.Proofs.Ytgjibcfkjaedfaa.Back (AllB)
set_option linter.unusedVariables false
set_option linter.unusedSimpArgs false
def cutF (l : List RecS) (fl lsn : Int) : List RecS × Int × Int := if withinB l.length lsn = true then (l.take lsn.toNat, min fl lsn, 0) else (l, fl, 1)
theorem withinB_iff {n : Nat} {x : Int} : withinB n x = true ↔ 0 ≤ x ∧ x ≤ (n : Int) := by unfold withinB; simp
theorem R_newk {w1 : World} {b : Nat} {v : Value} {xs : List RecS} {ok : Nat → Prop} (h : Kd.R kRec 53 w1 b (fun _ => True) v xs) (hk : ∀ k, b ≤ k → ok k) : Kd.R kRec 53 w1 0 ok v xs :=
  Kd.R_lower (Kd.R_mono (Kd.R_bound h) (fun k h => hk k h.2.1)) (Nat.zero_le _)
set_option maxHeartbeats 8000000 in
set_option maxRecDepth 100000 in
theorem cut_ok {w : World} {ok : Nat → Prop} {g : Nat} {l : List RecS} {fl : Int} (h : LogAt 98 w ok g l fl) (hl : l.length ≤ 1759218604441) (lsn : Int) :
    Calls Try.prog 40 #[.pointer (some ⟨g, 0, none⟩), .int .i64 lsn] w fun e w' => e = .returned (.int .i64 (cutF l fl lsn).2.2) ∧ LogAt 98 w' (fun k => ok k ∨ w.heap.size ≤ k) g (cutF l fl lsn).1 (cutF l fl lsn).2.1 ∧ Chg w w' ok := by
  have hin := within_any lsn (last_okB h hl)
  have HL := Aside0.mk h
  unfold cutF
  cases hb : withinB l.length lsn
  · rw [if_neg (by decide)]
    rw [hb] at hin
    clear hb h hl
    go_enter Try.func40, Try.ntmps40
    go_wp2_with (go_at_call 62; (with_reducible refine hin.mono ?_); rintro e w2 ⟨rfl, hB⟩; (have HB := Aside0.mk hB); clear hB hin)
    go_ret
    exact ⟨rfl, (HL.out.below HB.out).mono (fun k hk => .inl hk), Chg.of_below HB.out _⟩
  · rw [if_pos rfl]
    rw [hb] at hin
    obtain ⟨hi0, hi1⟩ := withinB_iff.1 hb
    obtain ⟨m, rfl⟩ : ∃ m : Nat, lsn = (m : Int) := ⟨lsn.toNat, by omega⟩
    rw [Int.toNat_natCast]
    have hmn := fun ats ty => min_two' ats ty fl (m : Int)
    generalize min fl (m : Int) = q at hmn
    obtain ⟨A, c, hbk, hok, hR⟩ := h
    have hr := Kd.R_reads' hR
    have hc : l.length ≤ c := hr.2.1
    have hC := hr.2.2
    have hml : m ≤ l.length := by omega
    have hlen : (l.take m).length = m := by rw [List.length_take]; omega
    have hcut2 : ∀ W : World, (Instr.slice 22 (.slice A l.length c) none (some (.int .i64 (m : Int))) none).run Try.prog W = .ok (.slice A m c) W := by
      intro W
      have h := cut_to (P := Try.prog) 22 53 .i64 Try.underlying22 (info_parts infoRec).choose_spec.1 A l.length c (m : Int) (by omega) (by omega) hc W
      rw [Int.toNat_natCast] at h
      exact h
    have HCL : Aside0 (∀ W, Below w.heap.size w W → Calls Try.prog 52 #[.slice A m c] W fun e w' => ∃ B d, e = .returned (.slice B m d) ∧ Kd.R kRec 53 w' W.heap.size (fun _ => True) (.slice B m d) (l.take m) ∧ Below W.heap.size W w') := ⟨fun W hB => by
      have h8 := Kd.C_take (Kd.C_below hC hB) hml
      have h9 := clone_ok A c (l.take m) W h8 (by omega) (by omega)
      rw [hlen] at h9
      exact h9⟩
    have HBK := Aside0.mk hbk
    have HOK := Aside0.mk hok
    have HLEN := Aside0.mk hlen
    generalize l.take m = ys at HCL HLEN ⊢
    clear hb hl hbk hok hR hr hC hml hlen hi0 hi1
    go_enter Try.func40, Try.ntmps40
    go_wp2_with (first
      | (go_at_call 62; (with_reducible refine hin.mono ?_); rintro e w2 ⟨rfl, hB⟩; (have HB := Aside0.mk hB); (have hbk := (Chg.of_below HB.out (fun _ => False)).blk HBK.out (fun h => h)); obtain ⟨h0, h1, f0, f1⟩ : w2.cell? ⟨g, 0, none⟩ = some (.slice A l.length c) ∧ w2.cell? ⟨g, 1, none⟩ = some (.int .i64 fl) ∧ w2.frozen? ⟨g, 0, none⟩ = false ∧ w2.frozen? ⟨g, 1, none⟩ = false := (by simp [World.cell?, World.frozen?, hbk]); (have hcl := HCL.out w2 HB.out); clear hB hin hbk)
      | (go_at_call 52; (with_reducible refine hcl.mono ?_); rintro e w3 ⟨B, d, rfl, hR, hB⟩; clear h0 h1 f0 f1; (have HR := Aside0.mk (Kd.R_lower hR HB.out.size)); (replace HB := Aside0.mk (below_from2 HB.out (Nat.le_refl _) hB)); (have hbk := (Chg.of_below HB.out (fun _ => False)).blk HBK.out (fun h => h)); (have HB3 := Aside0.mk hbk); (have ltg := blk_lt hbk); obtain ⟨h0, h1, f0, f1⟩ : w3.cell? ⟨g, 0, none⟩ = some (.slice A l.length c) ∧ w3.cell? ⟨g, 1, none⟩ = some (.int .i64 fl) ∧ w3.frozen? ⟨g, 0, none⟩ = false ∧ w3.frozen? ⟨g, 1, none⟩ = false := (by simp [World.cell?, World.frozen?, hbk]); clear hB hR hcl hbk))
    go_ret
    have hfin := LogAt.put (T := 98) (ok := fun k => ok k ∨ w.heap.size ≤ k) (l := ys) (A := B) (c := d) HB3.out (by decide) (.inl HOK.out) (by rw [HLEN.out]; exact R_newk HR.out (fun k hk => .inr hk))
    rw [HLEN.out] at hfin
    exact ⟨rfl, hfin.putF (by decide) q, ((Chg.of_below HB.out ok).trans (Chg.setCell _ _ _) (fun k hk => .inl (by rw [hk]; exact HOK.out))).trans (Chg.setCell _ _ _) (fun k hk => .inl (by rw [hk]; exact HOK.out))⟩
/-! ### Bytes -/
/-- all frames -/
def bytesF (l : List RecS) : List Int := l.flatMap (fun x => (frameF (toV x)).1)
theorem frameF_length (v : RecV) : (frameF v).1.length ≤ 315 := by
  unfold frameF
  split
  · rename_i h
    rw [frame_length]
    have := (fits_of h).2
    omega
  · simp
theorem frameF_allB (v : RecV) : AllB (frameF v).1 := by
  unfold frameF
  split
  · exact frame_allB v
  · intro y hy; simp at hy
theorem bytesF_length (l : List RecS) : (bytesF l).length ≤ 315 * l.length := framesB_length (fun x _ => frameF_length (toV x))
theorem bytesF_allB (l : List RecS) : AllB (bytesF l) := by
  intro y hy
  unfold bytesF at hy
  rw [List.mem_flatMap] at hy
  obtain ⟨x, _, hx⟩ := hy
  exact frameF_allB _ y hx
theorem bytesF_take {l : List RecS} {k : Nat} (h : k < l.length) : bytesF (l.take (k + 1)) = bytesF (l.take k) ++ (frameF (toV (rd_T53 l (k : Int)))).1 := by
  have e2 : rd_T53 l (k : Int) = l[k] := by
    unfold rd_T53
    rw [Int.toNat_natCast, List.getD_eq_getElem?_getD, List.getElem?_eq_getElem h]
    rfl
  rw [List.take_succ_eq_append_getElem h, e2]
  unfold bytesF
  rw [List.flatMap_append, List.flatMap_cons, List.flatMap_nil, List.append_nil]
def BytIn (w : World) (l : List RecS) (v3 v15 : Value) (wr : World) : Prop :=
  ∃ (k : Nat) (A : Option Addr) (c : Nat) (bs : List Int), k ≤ l.length ∧ v15 = .int .i64 k ∧ v3 = .slice A bs.length c ∧ Aside0 (bs = bytesF (l.take k)) ∧ Aside0 (RByt wr w.heap.size (.slice A bs.length c) bs) ∧ Aside0 (Below w.heap.size w wr)
set_option maxHeartbeats 8000000 in
set_option maxRecDepth 100000 in
theorem bytes_ok {w : World} {ok : Nat → Prop} {g : Nat} {l : List RecS} {fl : Int} (h : LogAt 98 w ok g l fl) (hl : l.length ≤ 65536) (hv : ∀ x ∈ l, x.f7.size ≤ 140737488351232) :
    Calls Try.prog 34 #[.pointer (some ⟨g, 0, none⟩)] w fun e w' => ∃ A c, e = .returned (.slice A (bytesF l).length c) ∧ RByt w' w.heap.size (.slice A (bytesF l).length c) (bytesF l) ∧ Below w.heap.size w w' := by
  obtain ⟨A, c, hb, ⟨h0, h1, f0, f1⟩, hc, hC⟩ := h.row
  have HC := Aside0.mk hC
  have HV := Aside0.mk hv
  have HL := Aside0.mk hl
  have hna : l.length ≤ 65536 := hl
  clear hb hC h hc hv hl
  go_enter Try.func34, Try.ntmps34
  go_wp2
  go_loopw [3, 15] (fun v3 v15 wr => BytIn w l v3 v15 wr) (fun _ v15 _ => l.length - (intOf v15).toNat)
  case atStart => exact ⟨0, none, 0, [], by omega, rfl, rfl, ⟨rfl⟩, ⟨Kd.R_nil _ _ _ _ _⟩, ⟨Below.refl _ _⟩⟩
  case round =>
    obtain ⟨k, A3, c3, bs, hk, rfl, rfl, HBS, HRB, HB⟩ := hrel
    by_cases hlt : k < l.length
    · have hltI : (k : Int) < (l.length : Int) := by omega
      have hk0 : (0 : Int) ≤ (k : Int) := by omega
      obtain ⟨ad, rfl, hx0, hx1, hx2, hx3, hx4, hx5, hx6, hx7⟩ := at_T53 (Kd.C_below HC.out HB.out) (k : Int) hk0 hltI
      rw [Int.toNat_natCast] at hx0 hx1 hx2 hx3 hx4 hx5 hx6 hx7
      have hsz := HV.out _ (rd_rec_mem hlt)
      have hbt := bytesF_take hlt
      rw [← HBS.out] at hbt
      generalize rd_T53 l (k : Int) = x at hx0 hx1 hx2 hx3 hx4 hx5 hx6 hx7 hsz hbt
      obtain ⟨x0, x1, x2, x3, x4, x5, x6, x7⟩ := x
      dsimp only [toV] at hx0 hx1 hx2 hx3 hx4 hx5 hx6 hx7 hsz hbt
      have hen := recenc_ok x0 x1 x2 x3 x4 x5 x6 x7 hsz (wr.alloc (.cells #[.int .i64 x0, .int .i64 x1, .int .i64 x2, .int .i64 x3, .int .i64 x4, .int .i64 x5, .string x6, .string x7] 53))
      have hfl := frameF_length (x0, x1, x2, x3, x4, x5, x6, x7)
      generalize frameF (x0, x1, x2, x3, x4, x5, x6, x7) = P at hen hfl hbt
      obtain ⟨ps, pe⟩ := P
      dsimp only at hen hfl hbt
      have hbl : bs.length ≤ 315 * 65536 := by
        have h1 := bytesF_length (l.take k)
        rw [← HBS.out, List.length_take] at h1
        omega
      have HBL : Aside0 (bs.length + ps.length ≤ 100000000) := ⟨by omega⟩
      obtain ⟨zs, hzs⟩ : ∃ zs, bs ++ ps = zs := ⟨_, rfl⟩
      rw [hzs] at hbt
      have HZS := Aside0.mk hzs
      have HBT := Aside0.mk hbt
      have HN := Aside0.mk (rc_new wr x0 x1 x2 x3 x4 x5 x6 x7)
      have HBA := Aside0.mk (below_alloc (Below.refl wr.heap.size wr) (.cells #[.int .i64 x0, .int .i64 x1, .int .i64 x2, .int .i64 x3, .int .i64 x4, .int .i64 x5, .string x6, .string x7] 53))
      clear hsz hfl hbl hzs hbt
      go_wp2_with (first
        | (go_at_call 56; (with_reducible refine hen.mono ?_); rintro e w2 ⟨A8, c8, rfl, hR, hB⟩; (replace HBA := Aside0.mk (below_from2 HBA.out (Nat.le_refl _) hB)); (have HCR := Aside0.mk (Kd.R_reads' hR).2.2); (have HRB2 := Aside0.mk (Kd.R_below HRB.out HBA.out)); (have HB2 := Aside0.mk (below_from2 HB.out (Nat.le_refl _) HBA.out)); clear hx0 hx1 hx2 hx3 hx4 hx5 hx6 hx7 hR hB hen)
        | ((with_reducible refine gate_builtin (b := .append) (xs := #[.tmp 24, .tmp 25]) rfl ?_); at_builtin; refine Kd.R_append_row (Value.int .u8) (0 : Int) (h1 := fun _ => rfl) (w0 := w) w.heap.size rfl (.tmp 24) (.tmp 25) 67 5 (.int .u8 0) 1 rfl Try.underlying67 info8 rfl (by decide) (.slice A3 bs.length c3) bs ps A8 ps.length c8 (fun _ => True) rfl rfl (fun _ _ => trivial) HRB2.out HCR.out HB2.out HB2.out.size ?aL ?_; (case aL => (have h1 := HBL.out; omega)); intro v1 w4 ho hbel hg hat; rw [HZS.out] at ho; obtain ⟨A9, c9, rfl⟩ := Kd.R_slice ho; (have HO1 := Aside0.mk ho); (have HB4 := Aside0.mk hbel); clear ho hbel hg hat))
      go_roundw
      case rel => exact ⟨k + 1, A9, c9, zs, by omega, by go_num, rfl, ⟨HBT.out.symm⟩, HO1, HB4⟩
      case measure => simp [intOf]; omega
    · have hge : ¬ (k : Int) < (l.length : Int) := by omega
      have hbs : bs = bytesF l := by rw [HBS.out, List.take_of_length_le (by omega)]
      have HBF := Aside0.mk hbs
      clear hbs
      go_wp2
      go_ret
      rw [← HBF.out]
      exact ⟨A3, c3, rfl, HRB.out, HB.out⟩
end Go.Proofs.Ytgjibcfkjaedfaa.Wal

/- wal's Marks. -/
namespace Go.Proofs.Ytgjibcfkjaedfaa.Wal
open Go.RowKit Go.Proofs.YtgjibcfkjaedfaaW.PrintWords Go.Proofs.YtgjibcfkjaedfaaW.PrintLast Go.Proofs.YtgjibcfkjaedfaaW.PrintMore Go.Proofs.Ytgjibcfkjaedfaa.Wire Go.Proofs.Ytgjibcfkjaedfaa.Pr Go.Proofs.Ytgjibcfkjaedfaa.Rec
open Go.Proofs.Ytgjibcfkjaedfaa.Back (AllB)
set_option linter.unusedVariables false
set_option linter.unusedSimpArgs false
abbrev MarkS := S24
abbrev kMark : Kd MarkS := k24
theorem infoMk : (Try.prog.info? 24).map (fun i => (i.zero, i.size, i.bytes)) = some (some (.agg #[.int .i64 0, .int .i64 0]), 2, 16) := by kernel_rfl
abbrev RMark (w : World) (b : Nat) (v : Value) (xs : List MarkS) : Prop := Kd.R kMark 24 w b (fun _ => True) v xs
def markStep (out : List MarkS) (r : RecS) : List MarkS := if out.length = 0 then [⟨r.f1, r.f0⟩] else if (rd_T24 out ((out.length : Int) - 1)).f0 ≠ r.f1 then out ++ [⟨r.f1, r.f0⟩] else out
def marksF (l : List RecS) : List MarkS := l.foldl markStep []
theorem marksF_take {l : List RecS} {k : Nat} (h : k < l.length) : marksF (l.take (k + 1)) = markStep (marksF (l.take k)) (rd_T53 l (k : Int)) := by
  have e2 : rd_T53 l (k : Int) = l[k] := by
    unfold rd_T53
    rw [Int.toNat_natCast, List.getD_eq_getElem?_getD, List.getElem?_eq_getElem h]
    rfl
  rw [List.take_succ_eq_append_getElem h, e2]
  unfold marksF
  rw [List.foldl_append]
  rfl
theorem markStep_length (out : List MarkS) (r : RecS) : (markStep out r).length ≤ out.length + 1 := by
  unfold markStep
  split
  · simp
  · split
    · simp
    · omega
def MarkIn (w : World) (l : List RecS) (v3 v13 : Value) (wr : World) : Prop :=
  ∃ (k : Nat) (A : Option Addr) (c : Nat) (ms : List MarkS), k ≤ l.length ∧ v13 = .int .i64 k ∧ v3 = .slice A ms.length c ∧ Aside0 (ms = marksF (l.take k) ∧ ms.length ≤ k) ∧ Aside0 (RMark wr w.heap.size (.slice A ms.length c) ms) ∧ Aside0 (Below w.heap.size w wr)
set_option maxHeartbeats 8000000 in
set_option maxRecDepth 100000 in
theorem marks_ok {w : World} {ok : Nat → Prop} {g : Nat} {l : List RecS} {fl : Int} (h : LogAt 98 w ok g l fl) (hl : l.length ≤ 1759218604441) :
    Calls Try.prog 48 #[.pointer (some ⟨g, 0, none⟩)] w fun e w' => ∃ A c, e = .returned (.slice A (marksF l).length c) ∧ RMark w' w.heap.size (.slice A (marksF l).length c) (marksF l) ∧ Below w.heap.size w w' := by
  obtain ⟨A, c, hb, ⟨h0, h1, f0, f1⟩, hc, hC⟩ := h.row
  have HC := Aside0.mk hC
  have HL := Aside0.mk hl
  have hna : l.length ≤ 1759218604441 := hl
  clear hb hC h hc hl
  go_enter Try.func48, Try.ntmps48
  go_wp2
  go_loopw [3, 13] (fun v3 v13 wr => MarkIn w l v3 v13 wr) (fun _ v13 _ => l.length - (intOf v13).toNat)
  case atStart => exact ⟨0, none, 0, [], by omega, rfl, rfl, ⟨rfl, by simp⟩, ⟨Kd.R_nil _ _ _ _ _⟩, ⟨Below.refl _ _⟩⟩
  case round =>
    obtain ⟨k, A3, c3, ms, hk, rfl, rfl, HMS, HRM, HB⟩ := hrel
    by_cases hlt : k < l.length
    · have hltI : (k : Int) < (l.length : Int) := by omega
      have hk0 : (0 : Int) ≤ (k : Int) := by omega
      obtain ⟨ad, rfl, hx0, hx1, hx2, hx3, hx4, hx5, hx6, hx7⟩ := at_T53 (Kd.C_below HC.out HB.out) (k : Int) hk0 hltI
      rw [Int.toNat_natCast] at hx0 hx1 hx2 hx3 hx4 hx5 hx6 hx7
      have hbt := marksF_take hlt
      rw [← HMS.out.1] at hbt
      generalize rd_T53 l (k : Int) = x at hx0 hx1 hx2 hx3 hx4 hx5 hx6 hx7 hbt
      obtain ⟨x0, x1, x2, x3, x4, x5, x6, x7⟩ := x
      dsimp only at hx0 hx1 hx2 hx3 hx4 hx5 hx6 hx7
      have hml : ms.length ≤ k := HMS.out.2
      have HMB := Aside0.mk (show (ms.length + 1) * 16 ≤ 140737488355328 by omega)
      have HN := Aside0.mk (rc_new wr x0 x1 x2 x3 x4 x5 x6 x7)
      have HBA := Aside0.mk (below_alloc (Below.refl wr.heap.size wr) (.cells #[.int .i64 x0, .int .i64 x1, .int .i64 x2, .int .i64 x3, .int .i64 x4, .int .i64 x5, .string x6, .string x7] 53))
      have HB2 := Aside0.mk (below_from2 HB.out (Nat.le_refl _) HBA.out)
      have HRM2 := Aside0.mk (Kd.R_below HRM.out HBA.out)
      obtain ⟨b, hst, hbc⟩ : ∃ b : Bool, markStep ms ⟨x0, x1, x2, x3, x4, x5, x6, x7⟩ = (if b = true then ms ++ [⟨x1, x0⟩] else ms) ∧ ((ms.length = 0 ∧ b = true) ∨ (0 < ms.length ∧ ((rd_T24 ms ((ms.length : Int) - 1)).f0 != x1) = b)) := by
        unfold markStep
        by_cases hz : ms.length = 0
        · have hz2 : ms = [] := List.length_eq_zero_iff.1 hz
          subst hz2
          exact ⟨true, rfl, .inl ⟨rfl, rfl⟩⟩
        · rw [if_neg hz]
          by_cases hq : (rd_T24 ms ((ms.length : Int) - 1)).f0 = x1
          · exact ⟨false, by rw [if_neg (by simp [hq])]; rfl, .inr ⟨by omega, by simp [hq]⟩⟩
          · exact ⟨true, by rw [if_pos hq]; rfl, .inr ⟨by omega, by simp [hq]⟩⟩
      rw [hst] at hbt
      have HBT := Aside0.mk hbt
      have HBC := Aside0.mk hbc
      clear hbt hst hml hbc
      go_upto_region 7 with (fail)
      obtain ⟨⟨b0, b1, b2, b3, b4, b5, b6, b7⟩, ⟨fb0, fb1, fb2, fb3, fb4, fb5, fb6, fb7⟩⟩ := HN.out.cells
      have ltn := HN.out.lt
      go_cut [31] from 17 to 30 (fun v31 wx => v31 = .bool b ∧ Aside0 (Below (wr.alloc (.cells #[.int .i64 x0, .int .i64 x1, .int .i64 x2, .int .i64 x3, .int .i64 x4, .int .i64 x5, .string x6, .string x7] 53)).heap.size (wr.alloc (.cells #[.int .i64 x0, .int .i64 x1, .int .i64 x2, .int .i64 x3, .int .i64 x4, .int .i64 x5, .string x6, .string x7] 53)) wx))
      case first =>
        rcases HBC.out with ⟨hz, hbt⟩ | ⟨hz, hbt⟩
        · subst hbt
          have hz2 : ms = [] := List.length_eq_zero_iff.1 hz
          subst hz2
          clear hz
          go_quiet (fail)
          try go_wp2
          go_meet
          exact ⟨rfl, ⟨pw_below_drewN (Below.refl _ _) _⟩⟩
        · have hml0 := HMS.out.2
          obtain ⟨m, hm⟩ : ∃ m : Nat, ms.length = m + 1 := ⟨ms.length - 1, by omega⟩
          have hmi : (ms.length : Int) - 1 = (m : Int) := by omega
          rw [hmi] at hbt
          obtain ⟨ad2, rfl, y0, y1⟩ := at_T24 (Kd.R_reads' HRM2.out).2.2 (m : Int) (by omega) (by omega)
          rw [Int.toNat_natCast] at y0 y1
          have hn0 : ((ms.length : Int) == 0) = false := by rw [beq_eq_false_iff_ne]; omega
          have hw1 : IntKind.i64.wrap ((ms.length : Int) - 1) = (m : Int) := by rw [hmi, IntKind.wrap_i64]; omega
          have hw3 : wrap64 ((ms.length : Int) - 1) = (m : Int) := by rw [hmi]; unfold wrap64; omega
          have hw0 : (0 : Int) ≤ (m : Int) := by omega
          have hw2 : (m : Int) < (ms.length : Int) := by omega
          have hw4 : m < ms.length := by omega
          have hml : ms.length ≤ 9223372036854775807 := by omega
          generalize (rd_T24 ms (m : Int)).f0 = z at y0 hbt
          generalize ms.length = n at *
          clear hm hmi hz y1 hml0
          go_quiet (fail)
          try go_wp2
          go_meet
          exact ⟨rfl, ⟨pw_below_drewN (Below.refl _ _) _⟩⟩
      case rest =>
      obtain ⟨rfl, HBW⟩ := hcut
      clear HBC b0 b1 b2 b3 b4 b5 b6 b7 fb0 fb1 fb2 fb3 fb4 fb5 fb6 fb7 ltn hx0 hx1 hx2 hx3 hx4 hx5 hx6 hx7
      replace HN := Aside0.mk (HN.out.below HBW.out)
      obtain ⟨⟨b0, b1, b2, b3, b4, b5, b6, b7⟩, ⟨fb0, fb1, fb2, fb3, fb4, fb5, fb6, fb7⟩⟩ := HN.out.cells
      have ltn := HN.out.lt
      have HB3 := Aside0.mk (below_from2 HB2.out (Nat.le_refl _) HBW.out)
      have HRM3 := Aside0.mk (Kd.R_below HRM2.out HBW.out)
      cases b
      · rw [if_neg (by decide)] at HBT
        go_wp2
        go_roundw
        case rel => exact ⟨k + 1, A3, c3, ms, by omega, by go_num, rfl, ⟨HBT.out.symm, by have := HMS.out.2; omega⟩, HRM3, HB3⟩
        case measure => simp [intOf]; omega
      · rw [if_pos rfl] at HBT
        obtain ⟨qs, hqs⟩ : ∃ qs, ms ++ [(⟨x1, x0⟩ : MarkS)] = qs := ⟨_, rfl⟩
        rw [hqs] at HBT
        have HQS := Aside0.mk hqs
        have HQL : Aside0 (qs.length ≤ k + 1) := ⟨by rw [← hqs, List.length_append, List.length_singleton]; have := HMS.out.2; omega⟩
        clear hqs
        go_wp2_with ((with_reducible refine gate_builtin (b := .append) (xs := #[.tmp 32, .tmp 38]) rfl ?_); at_builtin; refine Kd.R_append kMark (w0 := w) w.heap.size rfl (.tmp 32) (.tmp 38) 90 24 (.agg #[.int .i64 0, .int .i64 0]) 16 rfl Try.underlying90 infoMk rfl (by decide) (by omega) (.slice A3 ms.length c3) ms ⟨x1, x0⟩ [.int .i64 x1, .int .i64 x0] (fun _ => True) (fun _ => False) rfl rfl ?aP (fun _ hk => hk.elim) ?aF ?aO ?aB ?aS ?aL ?_; (case aP => exact k24_mkM _ _ _ _); (case aF => exact (fun _ _ => trivial)); (case aO => exact HRM3.out); (case aB => exact HB3.out); (case aS => exact HB3.out.size); (case aL => exact HMB.out); intro v8 w8 ho hbel hg hat; rw [HQS.out] at ho; obtain ⟨A8, c8, rfl⟩ := Kd.R_slice ho; (have HO := Aside0.mk ho); (have HB8 := Aside0.mk hbel); clear ho hbel hg hat)
        go_roundw
        case rel => exact ⟨k + 1, A8, c8, qs, by omega, by go_num, rfl, ⟨HBT.out.symm, HQL.out⟩, HO, HB8⟩
        case measure => simp [intOf]; omega
    · have hge : ¬ (k : Int) < (l.length : Int) := by omega
      have hbs : ms = marksF l := by rw [HMS.out.1, List.take_of_length_le (by omega)]
      have HBF := Aside0.mk hbs
      clear hbs
      go_wp2
      go_ret
      rw [← HBF.out]
      exact ⟨A3, c3, rfl, HRM.out, HB.out⟩
end Go.Proofs.Ytgjibcfkjaedfaa.Wal
