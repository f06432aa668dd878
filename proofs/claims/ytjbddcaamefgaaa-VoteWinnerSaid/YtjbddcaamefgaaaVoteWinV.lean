/- One winner in one epoch: the three arrays, the voters and the tallies, as they lie in memory; and what each step makes of them. -/
import Derived.Test.YtjbddcaamefgaaaVoteWinP
import Derived.Test.YtjbddcaamefgaaaVoteOnceP
namespace Go.Proofs.Ytjbddcaamefgaaa.Vote
open Go.RowKit Go.Proofs.YtjbddcaamefgaaaW.PrintWords Go.Proofs.YtjbddcaamefgaaaW.PrintLast Go.Proofs.YtjbddcaamefgaaaW.PrintMore Go.Proofs.Ytjbddcaamefgaaa.Wire
set_option linter.unusedVariables false
set_option linter.unusedSimpArgs false
theorem blk_ne {w : World} {g g' : Nat} {a b : Array Value} {T T' : TypeId} {r r' : Nat × Nat} (h : w.heap[g]? = some (.cells a T r)) (h' : w.heap[g']? = some (.cells b T' r')) (hT : T ≠ T') : g ≠ g' := by
  rintro rfl
  rw [h] at h'
  injection h' with h'
  injection h' with _ h' _
  exact hT h'
/-- Block g (of type T) holds seven pointers. -/
def PA (T : TypeId) (w : World) (g : Nat) (p : Nat → Option Addr) : Prop := w.heap[g]? = some (.cells #[.pointer (p 0), .pointer (p 1), .pointer (p 2), .pointer (p 3), .pointer (p 4), .pointer (p 5), .pointer (p 6)] T (0, 0))
theorem PA.cell {T : TypeId} {w : World} {g : Nat} {p : Nat → Option Addr} (h : PA T w g p) {i : Nat} (hi : i < 7) : w.cell? ⟨g, i, none⟩ = some (.pointer (p i)) ∧ w.frozen? ⟨g, i, none⟩ = false := by
  unfold PA at h
  have : i = 0 ∨ i = 1 ∨ i = 2 ∨ i = 3 ∨ i = 4 ∨ i = 5 ∨ i = 6 := by omega
  rcases this with rfl | rfl | rfl | rfl | rfl | rfl | rfl <;> simp [World.cell?, World.frozen?, h]
theorem PA.set {T : TypeId} {w : World} {g : Nat} {p : Nat → Option Addr} (h : PA T w g p) {i : Nat} (hi : i < 7) (q : Option Addr) : PA T (w.setCell ⟨g, i, none⟩ (.pointer q)) g (updF p i q) := by
  unfold PA at *
  have : i = 0 ∨ i = 1 ∨ i = 2 ∨ i = 3 ∨ i = 4 ∨ i = 5 ∨ i = 6 := by omega
  rcases this with rfl | rfl | rfl | rfl | rfl | rfl | rfl
  · exact blk_put h 0 _ rfl
  · exact blk_put h 1 _ rfl
  · exact blk_put h 2 _ rfl
  · exact blk_put h 3 _ rfl
  · exact blk_put h 4 _ rfl
  · exact blk_put h 5 _ rfl
  · exact blk_put h 6 _ rfl
/-- Block g holds seven marks. -/
def MA (w : World) (g : Nat) (m : Nat → Int) : Prop := w.heap[g]? = some (.cells #[.int .i64 (m 0), .int .i64 (m 1), .int .i64 (m 2), .int .i64 (m 3), .int .i64 (m 4), .int .i64 (m 5), .int .i64 (m 6), .int .i64 (m 7), .int .i64 (m 8), .int .i64 (m 9), .int .i64 (m 10), .int .i64 (m 11), .int .i64 (m 12), .int .i64 (m 13)] 52 (0, 0))
theorem MA.cell {w : World} {g : Nat} {m : Nat → Int} (h : MA w g m) {i : Nat} (hi : i < 14) : w.cell? ⟨g, i, none⟩ = some (.int .i64 (m i)) ∧ w.frozen? ⟨g, i, none⟩ = false := by
  unfold MA at h
  have : i = 0 ∨ i = 1 ∨ i = 2 ∨ i = 3 ∨ i = 4 ∨ i = 5 ∨ i = 6 ∨ i = 7 ∨ i = 8 ∨ i = 9 ∨ i = 10 ∨ i = 11 ∨ i = 12 ∨ i = 13 := by omega
  rcases this with rfl | rfl | rfl | rfl | rfl | rfl | rfl | rfl | rfl | rfl | rfl | rfl | rfl | rfl <;> simp [World.cell?, World.frozen?, h]
theorem MA.set {w : World} {g : Nat} {m : Nat → Int} (h : MA w g m) {i : Nat} (hi : i < 14) (q : Int) : MA (w.setCell ⟨g, i, none⟩ (.int .i64 q)) g (updF m i q) := by
  unfold MA at *
  have : i = 0 ∨ i = 1 ∨ i = 2 ∨ i = 3 ∨ i = 4 ∨ i = 5 ∨ i = 6 ∨ i = 7 ∨ i = 8 ∨ i = 9 ∨ i = 10 ∨ i = 11 ∨ i = 12 ∨ i = 13 := by omega
  rcases this with rfl | rfl | rfl | rfl | rfl | rfl | rfl | rfl | rfl | rfl | rfl | rfl | rfl | rfl
  · exact blk_put h 0 _ rfl
  · exact blk_put h 1 _ rfl
  · exact blk_put h 2 _ rfl
  · exact blk_put h 3 _ rfl
  · exact blk_put h 4 _ rfl
  · exact blk_put h 5 _ rfl
  · exact blk_put h 6 _ rfl
  · exact blk_put h 7 _ rfl
  · exact blk_put h 8 _ rfl
  · exact blk_put h 9 _ rfl
  · exact blk_put h 10 _ rfl
  · exact blk_put h 11 _ rfl
  · exact blk_put h 12 _ rfl
  · exact blk_put h 13 _ rfl
/-- The first i voters, and the tallies (of n nodes), with their arrays. -/
structure Vw (b n i : Nat) (bv bt be : Nat) (vp : Nat → Nat) (tp : Nat → Option Nat) (V : Nat → Int × Int) (T : Nat → Int × Nat) (w : World) : Prop where
  pv : PA 49 w bv (fun j => if j < i then some ⟨vp j, 0, none⟩ else none)
  pt : PA 51 w bt (fun j => (tp j).map fun g => ⟨g, 0, none⟩)
  me : ∃ m, MA w be m
  vot : ∀ j, j < i → VotAt 78 w (vp j) (V j).1 (V j).2
  tal : ∀ j g, tp j = some g → TalAt w g n (T j).1 ((T j).2 : Int) ∧ (T j).2 < 2 ^ n
  vi : ∀ j k, j < i → k < i → vp j = vp k → j = k
  ti : ∀ j k g, tp j = some g → tp k = some g → j = k
  bb : b ≤ bv ∧ b ≤ bt ∧ b ≤ be
  bp : ∀ j, j < i → b ≤ vp j
  bg : ∀ j g, tp j = some g → b ≤ g
theorem Vw.chg0 {b n i bv bt be : Nat} {vp : Nat → Nat} {tp : Nat → Option Nat} {V : Nat → Int × Int} {T : Nat → Int × Nat} {w w' : World} (h : Vw b n i bv bt be vp tp V T w) {S : Nat → Prop} (hc : Chg w w' S)
    (h1 : ¬ S bv) (h2 : ¬ S bt) (h3 : ¬ S be) (h4 : ∀ j, j < i → ¬ S (vp j)) (h5 : ∀ j g, tp j = some g → ¬ S g) : Vw b n i bv bt be vp tp V T w' := by
  obtain ⟨m, hm⟩ := h.me
  exact ⟨hc.blk h.pv h1, hc.blk h.pt h2, ⟨m, hc.blk hm h3⟩, fun j hj => hc.blk (h.vot j hj) (h4 j hj), fun j g hg => ⟨hc.blk (h.tal j g hg).1 (h5 j g hg), (h.tal j g hg).2⟩, h.vi, h.ti, h.bb, h.bp, h.bg⟩
theorem Vw.below {b n i bv bt be : Nat} {vp : Nat → Nat} {tp : Nat → Option Nat} {V : Nat → Int × Int} {T : Nat → Int × Nat} {w w' : World} (h : Vw b n i bv bt be vp tp V T w) (hc : Below w.heap.size w w') : Vw b n i bv bt be vp tp V T w' :=
  h.chg0 (Chg.of_below hc (fun _ => False)) (fun h => h) (fun h => h) (fun h => h) (fun _ _ h => h) (fun _ _ _ h => h)
/-- one voter's promise has changed -/
theorem Vw.vote {b n i bv bt be : Nat} {vp : Nat → Nat} {tp : Nat → Option Nat} {V : Nat → Int × Int} {T : Nat → Int × Nat} {w w' : World} (h : Vw b n i bv bt be vp tp V T w) {a : Nat} (ha : a < i) {x : Int × Int}
    (hv : VotAt 78 w' (vp a) x.1 x.2) (hc : Chg w w' (fun k => k = vp a)) : Vw b n i bv bt be vp tp (updF V a x) T w' := by
  obtain ⟨m, hm⟩ := h.me
  have hva := h.vot a ha
  refine ⟨hc.blk h.pv (blk_ne h.pv hva (by decide)), hc.blk h.pt (blk_ne h.pt hva (by decide)), ⟨m, hc.blk hm (blk_ne hm hva (by decide))⟩, fun j hj => ?_, fun j g hg => ⟨hc.blk (h.tal j g hg).1 (blk_ne (h.tal j g hg).1 hva (by decide)), (h.tal j g hg).2⟩, h.vi, h.ti, h.bb, h.bp, h.bg⟩
  unfold updF
  split
  · rename_i hja
    rw [hja]
    exact hv
  · rename_i hja
    exact hc.blk (h.vot j hj) (fun q => hja (h.vi j a hj ha q))
/-- one tally has changed -/
theorem Vw.tally {b n i bv bt be : Nat} {vp : Nat → Nat} {tp : Nat → Option Nat} {V : Nat → Int × Int} {T : Nat → Int × Nat} {w w' : World} (h : Vw b n i bv bt be vp tp V T w) {a ga : Nat} (ha : tp a = some ga) {x : Int × Nat}
    (hv : TalAt w' ga n x.1 (x.2 : Int)) (hx : x.2 < 2 ^ n) (hc : Chg w w' (fun k => k = ga)) : Vw b n i bv bt be vp tp V (updF T a x) w' := by
  obtain ⟨m, hm⟩ := h.me
  have hta := (h.tal a ga ha).1
  refine ⟨hc.blk h.pv (blk_ne h.pv hta (by decide)), hc.blk h.pt (blk_ne h.pt hta (by decide)), ⟨m, hc.blk hm (blk_ne hm hta (by decide))⟩, fun j hj => hc.blk (h.vot j hj) (blk_ne (h.vot j hj) hta (by decide)), fun j g hg => ?_, h.vi, h.ti, h.bb, h.bp, h.bg⟩
  unfold updF
  split
  · rename_i hja
    subst hja
    rw [ha] at hg
    injection hg with hg
    subst hg
    exact ⟨hv, hx⟩
  · rename_i hja
    refine ⟨hc.blk (h.tal j g hg).1 (fun q => hja ?_), (h.tal j g hg).2⟩
    have q : g = ga := q
    exact h.ti j a ga (by rw [hg, q]) ha
/-- a new tally is noted -/
theorem Vw.count {b n i bv bt be : Nat} {vp : Nat → Nat} {tp : Nat → Option Nat} {V : Nat → Int × Int} {T : Nat → Int × Nat} {w w' : World} (h : Vw b n i bv bt be vp tp V T w) {a g : Nat} (ha : a < 7) {x : Int × Nat}
    (hg : w.heap.size ≤ g) (hv : TalAt w' g n x.1 (x.2 : Int)) (hx : x.2 < 2 ^ n) (hc : Below w.heap.size w w') : Vw b n i bv bt be vp (updF tp a (some g)) V (updF T a x) (w'.setCell ⟨bt, a, none⟩ (.pointer (some ⟨g, 0, none⟩))) := by
  have h1 := h.below hc
  have hpt := h1.pt
  have hs := Chg.setCell w' ⟨bt, a, none⟩ (.pointer (some ⟨g, 0, none⟩))
  obtain ⟨m, hm⟩ := h1.me
  have hnew : ∀ j g', tp j = some g' → g' ≠ g := fun j g' hj q => by have := blk_lt (h.tal j g' hj).1; omega
  refine ⟨hs.blk h1.pv (blk_ne h1.pv hpt (by decide)), ?_, ⟨m, hs.blk hm (blk_ne hm hpt (by decide))⟩, fun j hj => hs.blk (h1.vot j hj) (blk_ne (h1.vot j hj) hpt (by decide)), fun j g' hg' => ?_, h.vi, fun j k g' hj hk => ?_, h.bb, h.bp, fun j g' hg' => ?_⟩
  · have := hpt.set ha (some ⟨g, 0, none⟩)
    have e : (updF (fun j => (tp j).map fun g => (⟨g, 0, none⟩ : Addr)) a (some ⟨g, 0, none⟩)) = fun j => (updF tp a (some g) j).map fun g => (⟨g, 0, none⟩ : Addr) := by
      funext j
      unfold updF
      split <;> rfl
    rw [e] at this
    exact this
  · unfold updF at hg' ⊢
    split at hg'
    · rename_i hja
      rw [if_pos hja]
      injection hg' with hg'
      subst hg'
      exact ⟨hs.blk hv (blk_ne hv hpt (by decide)), hx⟩
    · rename_i hja
      rw [if_neg hja]
      exact ⟨hs.blk (h1.tal j g' hg').1 (blk_ne (h1.tal j g' hg').1 hpt (by decide)), (h1.tal j g' hg').2⟩
  · unfold updF at hj hk
    split at hj <;> split at hk
    · omega
    · injection hj with hj
      exact absurd hj.symm (hnew k g' hk)
    · injection hk with hk
      exact absurd hk.symm (hnew j g' hj)
    · exact h.ti j k g' hj hk
  · unfold updF at hg'
    have := h.bb.1
    have := blk_lt h.pv
    split at hg'
    · injection hg' with hg'
      omega
    · exact h.bg j g' hg'
/-- at the beginning -/
theorem Vw.start (n : Nat) (w : World) : Vw w.heap.size n 0 w.heap.size (w.heap.size + 1) (w.heap.size + 1 + 1) (fun _ => 0) (fun _ => none) (fun _ => (0, -1)) (fun _ => (0, 0)) (((w.alloc (.cells #[.pointer none, .pointer none, .pointer none, .pointer none, .pointer none, .pointer none, .pointer none] 49)).alloc (.cells #[.pointer none, .pointer none, .pointer none, .pointer none, .pointer none, .pointer none, .pointer none] 51)).alloc (.cells #[.int .i64 0, .int .i64 0, .int .i64 0, .int .i64 0, .int .i64 0, .int .i64 0, .int .i64 0, .int .i64 0, .int .i64 0, .int .i64 0, .int .i64 0, .int .i64 0, .int .i64 0, .int .i64 0] 52)) := by
  have hs : ∀ (W : World) (o : Obj), (W.alloc o).heap.size = W.heap.size + 1 := fun W o => by
    show (W.heap.push _).size = _
    simp
  have h1 : ∀ (W : World) (o : Obj), (W.alloc o).heap[W.heap.size]? = some o := fun W o => by
    show (W.heap.push _)[W.heap.size]? = _
    simp
  have h2 : ∀ (W : World) (o o' : Obj) (k : Nat), k < W.heap.size → W.heap[k]? = some o → (W.alloc o').heap[k]? = some o := fun W o o' k hk h => by
    show (W.heap.push _)[k]? = _
    rw [Array.getElem?_push_lt hk, ← Array.getElem?_eq_getElem hk]
    exact h
  refine ⟨?_, ?_, ⟨fun _ => 0, ?_⟩, fun j hj => by omega, fun j g hg => (by cases hg), fun j k hj => by omega, fun j k g hg => (by cases hg), ⟨by omega, by omega, by omega⟩, fun j hj => by omega, fun j g hg => (by cases hg)⟩
  · exact h2 _ _ _ _ (by rw [hs, hs]; omega) (h2 _ _ _ _ (by rw [hs]; omega) (h1 _ _))
  · refine h2 _ _ _ _ (by rw [hs, hs]; omega) ?_
    have := h1 (w.alloc (.cells #[.pointer none, .pointer none, .pointer none, .pointer none, .pointer none, .pointer none, .pointer none] 49)) (.cells #[.pointer none, .pointer none, .pointer none, .pointer none, .pointer none, .pointer none, .pointer none] 51)
    rw [hs] at this
    exact this
  · have := h1 ((w.alloc (.cells #[.pointer none, .pointer none, .pointer none, .pointer none, .pointer none, .pointer none, .pointer none] 49)).alloc (.cells #[.pointer none, .pointer none, .pointer none, .pointer none, .pointer none, .pointer none, .pointer none] 51)) (.cells #[.int .i64 0, .int .i64 0, .int .i64 0, .int .i64 0, .int .i64 0, .int .i64 0, .int .i64 0, .int .i64 0, .int .i64 0, .int .i64 0, .int .i64 0, .int .i64 0, .int .i64 0, .int .i64 0] 52)
    rw [hs, hs] at this
    exact this
theorem ixV (g : Nat) (W : World) : ∀ i : Nat, i < 7 → (Instr.indexAt 49 (.pointer (some ⟨g, 0, none⟩)) (.int .i64 (i : Int))).run Try.prog W = .ok (.pointer (some ⟨g, i, none⟩)) W
  | 0, _ => by kernel_rfl
  | 1, _ => by kernel_rfl
  | 2, _ => by kernel_rfl
  | 3, _ => by kernel_rfl
  | 4, _ => by kernel_rfl
  | 5, _ => by kernel_rfl
  | 6, _ => by kernel_rfl
  | i + 7, h => by omega
theorem ixT (g : Nat) (W : World) : ∀ i : Nat, i < 7 → (Instr.indexAt 51 (.pointer (some ⟨g, 0, none⟩)) (.int .i64 (i : Int))).run Try.prog W = .ok (.pointer (some ⟨g, i, none⟩)) W
  | 0, _ => by kernel_rfl
  | 1, _ => by kernel_rfl
  | 2, _ => by kernel_rfl
  | 3, _ => by kernel_rfl
  | 4, _ => by kernel_rfl
  | 5, _ => by kernel_rfl
  | 6, _ => by kernel_rfl
  | i + 7, h => by omega
theorem ixM (g : Nat) (W : World) : ∀ i : Nat, i < 7 → (Instr.indexAt 52 (.pointer (some ⟨g, 0, none⟩)) (.int .i64 (i : Int))).run Try.prog W = .ok (.pointer (some ⟨g, i * 2, none⟩)) W
  | 0, _ => by kernel_rfl
  | 1, _ => by kernel_rfl
  | 2, _ => by kernel_rfl
  | 3, _ => by kernel_rfl
  | 4, _ => by kernel_rfl
  | 5, _ => by kernel_rfl
  | 6, _ => by kernel_rfl
  | i + 7, h => by omega
/-- a voter more -/
theorem Vw.more {b n i bv bt be : Nat} {vp : Nat → Nat} {tp : Nat → Option Nat} {V : Nat → Int × Int} {T : Nat → Int × Nat} {w w' : World} (h : Vw b n i bv bt be vp tp V T w) {g : Nat} (hi : i < 7)
    (hg : w.heap.size ≤ g) (hv : VotAt 78 w' g (V i).1 (V i).2) (hc : Below w.heap.size w w') : Vw b n (i + 1) bv bt be (updF vp i g) tp V T (w'.setCell ⟨bv, i, none⟩ (.pointer (some ⟨g, 0, none⟩))) := by
  have h1 := h.below hc
  have hpv := h1.pv
  have hs := Chg.setCell w' ⟨bv, i, none⟩ (.pointer (some ⟨g, 0, none⟩))
  obtain ⟨m, hm⟩ := h1.me
  have hnew : ∀ j, j < i → vp j ≠ g := fun j hj q => by have := blk_lt (h.vot j hj); omega
  refine ⟨?_, hs.blk h1.pt (blk_ne h1.pt hpv (by decide)), ⟨m, hs.blk hm (blk_ne hm hpv (by decide))⟩, fun j hj => ?_, fun j g' hg' => ⟨hs.blk (h1.tal j g' hg').1 (blk_ne (h1.tal j g' hg').1 hpv (by decide)), (h1.tal j g' hg').2⟩, fun j k hj hk q => ?_, h.ti, h.bb, fun j hj => ?_, h.bg⟩
  · have := hpv.set hi (some ⟨g, 0, none⟩)
    have e : (updF (fun j => if j < i then some (⟨vp j, 0, none⟩ : Addr) else none) i (some ⟨g, 0, none⟩)) = fun j => if j < i + 1 then some (⟨updF vp i g j, 0, none⟩ : Addr) else none := by
      funext j
      unfold updF
      by_cases hj : j = i
      · subst hj
        simp
      · by_cases hl : j < i
        · rw [if_neg hj]; dsimp only; rw [if_pos hl, if_pos (by omega), if_neg hj]
        · rw [if_neg hj]; dsimp only; rw [if_neg hl, if_neg (by omega)]
    rw [e] at this
    exact this
  · unfold updF
    split
    · rename_i hji
      rw [hji]
      exact hs.blk hv (blk_ne hv hpv (by decide))
    · have hv1 := h1.vot j (by omega)
      exact hs.blk hv1 (blk_ne hv1 hpv (by decide))
  · unfold updF at q
    split at q <;> split at q
    · omega
    · exact absurd q.symm (hnew k (by omega))
    · exact absurd q (hnew j (by omega))
    · exact h.vi j k (by omega) (by omega) q
  · unfold updF
    have := h.bb.1
    have := blk_lt h.pv
    split
    · omega
    · exact h.bp j (by omega)
/-- a mark is written -/
theorem Vw.mark {b n i bv bt be : Nat} {vp : Nat → Nat} {tp : Nat → Option Nat} {V : Nat → Int × Int} {T : Nat → Int × Nat} {w : World} (h : Vw b n i bv bt be vp tp V T w) {j : Nat} (hj : j < 14) (q : Int) : Vw b n i bv bt be vp tp V T (w.setCell ⟨be, j, none⟩ (.int .i64 q)) := by
  have hs := Chg.setCell w ⟨be, j, none⟩ (.int .i64 q)
  obtain ⟨m, hm⟩ := h.me
  exact ⟨hs.blk h.pv (blk_ne h.pv hm (by decide)), hs.blk h.pt (blk_ne h.pt hm (by decide)), ⟨_, hm.set hj q⟩, fun j hj => hs.blk (h.vot j hj) (blk_ne (h.vot j hj) hm (by decide)), fun j g hg => ⟨hs.blk (h.tal j g hg).1 (blk_ne (h.tal j g hg).1 hm (by decide)), (h.tal j g hg).2⟩, h.vi, h.ti, h.bb, h.bp, h.bg⟩
/-- a list of what was won has grown -/
theorem Vw.grown {b n i bv bt be : Nat} {vp : Nat → Nat} {tp : Nat → Option Nat} {V : Nat → Int × Int} {T : Nat → Int × Nat} {w w' : World} (h : Vw b n i bv bt be vp tp V T w) {v : Value} {xs : List (Int × Int × Int)} {B : Nat} (hr : RG w B v xs) (hg : w.grownBy w' v.ownBlock) : Vw b n i bv bt be vp tp V T w' := by
  have hne : ∀ {g : Nat} {a : Array Value} {T : TypeId}, w.heap[g]? = some (.cells a T (0, 0)) → 61 ≠ T → ¬ some g = v.ownBlock := fun {g a T} hb hT e =>
    ((Kd.R_types hr hb (fun q hq => by
      have : q = 61 := by simpa [kG, Kd.pair, Kd.int, Kd.scalar] using hq
      rw [this]; exact hT)).1 g e.symm).2 rfl
  obtain ⟨m, hm⟩ := h.me
  exact h.chg0 (Chg.of_grown hg) (hne h.pv (by decide)) (hne h.pt (by decide)) (hne hm (by decide)) (fun j hj => hne (h.vot j hj) (by decide)) (fun j g hg => hne (h.tal j g hg).1 (by decide))
/-- the election that lies there -/
def electOf (V : Nat → Int × Int) (tp : Nat → Option Nat) (T : Nat → Int × Nat) (wl : List (Int × Nat)) : Elect := ⟨V, fun j => (tp j).map fun _ => ((T j).1, (T j).2.testBit), wl⟩
theorem EInv.up {n : Nat} {k : Int} {E : Elect} {H : Nat → Int → Option Nat} (h : EInv n k E H) : EInv n (k + 1) E H :=
  ⟨h.low, fun v => by have := h.top v; omega, fun c e s hc => by have := h.tt c e s hc; omega, h.past, h.now, h.tal, h.wins⟩
theorem electOf_T {V : Nat → Int × Int} {tp : Nat → Option Nat} {T : Nat → Int × Nat} {wl : List (Int × Nat)} (a g : Nat) (x : Int × Nat) : updF (electOf V tp T wl).T a (some (x.1, x.2.testBit)) = (electOf V (updF tp a (some g)) (updF T a x) wl).T := by
  funext j
  unfold electOf updF
  by_cases hj : j = a
  · subst hj
    simp
  · simp [hj]
theorem updF_same {α : Type} (f : Nat → α) (i : Nat) : updF f i (f i) = f := by
  funext j
  unfold updF
  split
  · rename_i h; rw [h]
  · rfl
theorem updF_two {α : Type} (f : Nat → α) (i : Nat) (a b : α) : updF (updF f i a) i b = updF f i b := by
  funext j
  unfold updF
  split <;> rfl
theorem electOf_T2 {V : Nat → Int × Int} {tp : Nat → Option Nat} {T : Nat → Int × Nat} {wl : List (Int × Nat)} {a g : Nat} (hg : tp a = some g) (x : Int × Nat) : updF (electOf V tp T wl).T a (some (x.1, x.2.testBit)) = (electOf V tp (updF T a x) wl).T := by
  rw [electOf_T a g x]
  have : updF tp a (some g) = tp := by rw [← hg]; exact updF_same tp a
  rw [this]
theorem step_stand {n : Nat} {k : Int} {V : Nat → Int × Int} {tp : Nat → Option Nat} {T : Nat → Int × Nat} {wl : List (Int × Nat)} {H : Nat → Int → Option Nat} (h : EInv n k (electOf V tp T wl) H) (a g : Nat) :
    ∃ H', EInv n (k + 1) (electOf (updF V a ((V a).1 + 1, (a : Int))) (updF tp a (some g)) (updF T a ((V a).1 + 1, 2 ^ a)) wl) H' := by
  have h1 := h.stand a
  refine ⟨voteH H a ((V a).1 + 1) a, ?_⟩
  have e := electOf_T (V := V) (tp := tp) (T := T) (wl := wl) a g ((V a).1 + 1, 2 ^ a)
  have e2 : (electOf (updF V a ((V a).1 + 1, (a : Int))) (updF tp a (some g)) (updF T a ((V a).1 + 1, 2 ^ a)) wl) = { electOf V tp T wl with V := updF (electOf V tp T wl).V a (((electOf V tp T wl).V a).1 + 1, (a : Int)), T := updF (electOf V tp T wl).T a (some (((electOf V tp T wl).V a).1 + 1, fun i => i == a)) } := by
    have e3 : (fun i => i == a) = (2 ^ a).testBit := (bit_one a).symm
    rw [e3]
    have e4 : (updF (electOf V tp T wl).T a (some (((electOf V tp T wl).V a).1 + 1, (2 ^ a).testBit))) = (electOf V (updF tp a (some g)) (updF T a ((V a).1 + 1, 2 ^ a)) wl).T := e
    rw [e4]
    rfl
  rw [e2]
  exact h1
theorem step_ask {n : Nat} {k : Int} {V : Nat → Int × Int} {tp : Nat → Option Nat} {T : Nat → Int × Nat} {wl : List (Int × Nat)} {H : Nat → Int → Option Nat} (h : EInv n k (electOf V tp T wl) H) {a g : Nat} (hg : tp a = some g) (v : Nat) (nw : Bool) {R : Bool × Int × Int} (hR : askF (V v).1 (V v).2 (a : Int) (T a).1 nw = R) :
    (R.1 = false → ∃ H', EInv n k (electOf (updF V v R.2) tp T wl) H') ∧ (R.1 = true → ∃ H', EInv n k (electOf (updF V v R.2) tp (updF T a ((T a).1, (T a).2 ||| 2 ^ v)) wl) H') := by
  subst hR
  have ht : (electOf V tp T wl).T a = some ((T a).1, (T a).2.testBit) := by unfold electOf; simp [hg]
  have htt := h.tt a _ _ ht
  unfold askF
  split
  · refine ⟨fun _ => ⟨H, ?_⟩, fun q => by cases q⟩
    have : updF V v ((V v).1, (V v).2) = V := updF_same V v
    dsimp only
    rw [this]
    exact h
  · rename_i hk
    have hle : ¬ (T a).1 < (V v).1 := fun q => hk (.inr (.inl q))
    have hsee : EInv n k (electOf (updF V v ((T a).1, if (T a).1 > (V v).1 then -1 else (V v).2)) tp T wl) H := by
      by_cases hlt : (T a).1 > (V v).1
      · rw [if_pos hlt]
        exact h.see v hlt htt.2
      · rw [if_neg hlt]
        have e : (T a).1 = (V v).1 := by omega
        rw [e]
        have : updF V v ((V v).1, (V v).2) = V := updF_same V v
        rw [this]
        exact h
    generalize (if (T a).1 > (V v).1 then -1 else (V v).2) = f1 at hsee ⊢
    split
    · exact ⟨fun _ => ⟨H, hsee⟩, fun q => by cases q⟩
    · rename_i hq
      refine ⟨fun q => (by cases q), fun _ => ?_⟩
      have hv : (electOf (updF V v ((T a).1, f1)) tp T wl).V v = ((T a).1, f1) := by unfold electOf updF; simp
      have hf : f1 = -1 ∨ f1 = (a : Int) := by
        by_cases q1 : f1 = (a : Int)
        · exact .inr q1
        · by_cases q2 : f1 = -1
          · exact .inl q2
          · exact absurd (.inl ⟨q1, q2⟩) hq
      have hgive := hsee.give v a (e := (T a).1) (s := (T a).2.testBit) (by unfold electOf; simp [hg]) (by rw [hv]) (by rw [hv]; exact hf)
      refine ⟨voteH H v (T a).1 a, ?_⟩
      have e1 : (electOf (updF V v ((T a).1, (a : Int))) tp (updF T a ((T a).1, (T a).2 ||| 2 ^ v)) wl) = { electOf (updF V v ((T a).1, f1)) tp T wl with V := updF (electOf (updF V v ((T a).1, f1)) tp T wl).V v ((T a).1, (a : Int)), T := updF (electOf (updF V v ((T a).1, f1)) tp T wl).T a (some ((T a).1, fun i => (T a).2.testBit i || i == v)) } := by
        have e3 : (fun i => (T a).2.testBit i || i == v) = ((T a).2 ||| 2 ^ v).testBit := (bit_or (T a).2 v).symm
        rw [e3]
        have e4 := electOf_T2 (V := updF V v ((T a).1, f1)) (T := T) (wl := wl) hg ((T a).1, (T a).2 ||| 2 ^ v)
        dsimp only at e4
        rw [e4]
        have e5 : updF (electOf (updF V v ((T a).1, f1)) tp T wl).V v ((T a).1, (a : Int)) = updF V v ((T a).1, (a : Int)) := updF_two V v _ _
        rw [e5]
        rfl
      rw [e1]
      exact hgive
/-- what was won -/
def gvOf (wl : List (Int × Nat)) : List (Int × Int × Int) := wl.map fun x => (x.1, 0, (x.2 : Int))
theorem gvOf_length (wl : List (Int × Nat)) : (gvOf wl).length = wl.length := by unfold gvOf; simp
theorem gvOf_push (wl : List (Int × Nat)) (e : Int) (c : Nat) : gvOf (wl ++ [(e, c)]) = gvOf wl ++ [(e, 0, (c : Int))] := by unfold gvOf; simp
theorem step_one {n : Nat} {k : Int} {V : Nat → Int × Int} {tp : Nat → Option Nat} {T : Nat → Int × Nat} {wl : List (Int × Nat)} {H : Nat → Int → Option Nat} (h : EInv n k (electOf V tp T wl) H) {a g : Nat} (hg : tp a = some g) (hn : n ≤ 7) (hs : (T a).2 < 2 ^ n) (hw : n / 2 < pop (T a).2) :
    (∀ x ∈ gvOf wl, x.1 = (T a).1 → x.2.2 = (a : Int)) ∧ EInv n k (electOf V tp T (wl ++ [((T a).1, a)])) H := by
  have ht : (electOf V tp T wl).T a = some ((T a).1, (T a).2.testBit) := by unfold electOf; simp [hg]
  have hc := won_cnt hn hs
  rw [decide_eq_decide] at hc
  have hm := hc.1 hw
  refine ⟨fun x hx he => ?_, h.note ht hm⟩
  unfold gvOf at hx
  obtain ⟨y, hy, rfl⟩ := List.mem_map.1 hx
  have := h.one ht hm y.2 (by dsimp only at he; rw [← he]; exact hy)
  dsimp only
  rw [this]
theorem below_set {b : Nat} {w W : World} (h : Below b w W) (hb : b ≤ w.heap.size) (p : Addr) (v : Value) (hp : b ≤ p.block) : Below b w (W.setCell p v) :=
  h.trans ((Chg.setCell W p v).below (Nat.le_trans hb h.size) (fun k hk => by rw [show k = p.block from hk]; exact hp))
theorem below_chg {b : Nat} {w W W' : World} (h : Below b w W) (hb : b ≤ w.heap.size) {g : Nat} (hc : Chg W W' (fun k => k = g)) (hg : b ≤ g) : Below b w W' :=
  h.trans (hc.below (Nat.le_trans hb h.size) (fun k hk => by rw [show k = g from hk]; exact hg))
theorem below_on {b : Nat} {w W W' : World} (h : Below b w W) (hb : b ≤ w.heap.size) (hc : Below W.heap.size W W') : Below b w W' :=
  h.trans ((Chg.of_below hc (fun _ => False)).below (Nat.le_trans hb h.size) (fun _ h => h.elim))
/-- Block g is an event. -/
def EvAt (w : World) (g : Nat) (x0 x1 x2 : Int) : Prop := w.heap[g]? = some (.cells #[.int .i64 x0, .int .i64 x1, .int .i64 x2] 55 (0, 0))
theorem EvAt.cells {w : World} {g : Nat} {x0 x1 x2 : Int} (h : EvAt w g x0 x1 x2) : w.cell? ⟨g, 0, none⟩ = some (.int .i64 x0) ∧ w.cell? ⟨g, 1, none⟩ = some (.int .i64 x1) ∧ w.cell? ⟨g, 2, none⟩ = some (.int .i64 x2) := by
  unfold EvAt at h
  simp [World.cell?, h]
theorem EvAt.below {w w1 : World} {g : Nat} {x0 x1 x2 : Int} (h : EvAt w g x0 x1 x2) (hc : Below w.heap.size w w1) : EvAt w1 g x0 x1 x2 := (Chg.of_below hc (fun _ => False)).blk h (fun h => h)
theorem EvAt.chg {w w1 : World} {g g' : Nat} {x0 x1 x2 : Int} {a : Array Value} {T : TypeId} {r : Nat × Nat} (h : EvAt w g x0 x1 x2) (hv : w.heap[g']? = some (.cells a T r)) (hT : 55 ≠ T) (hc : Chg w w1 (fun k => k = g')) : EvAt w1 g x0 x1 x2 := hc.blk h (blk_ne h hv hT)
theorem RG_chg2 {w w1 : World} {b g : Nat} {v : Value} {xs : List (Int × Int × Int)} {T : TypeId} {a : Array Value} (h : RG w b v xs) (hv : w.heap[g]? = some (.cells a T (0, 0))) (hT : 61 ≠ T) (hc : Chg w w1 (fun k => k = g)) : RG w1 b v xs :=
  Kd.R_mono (Kd.R_step (Kd.R_types h hv (fun q hq => by
    have : q = 61 := by simpa [kG, Kd.pair, Kd.int, Kd.scalar] using hq
    rw [this]; exact hT)) (fun k hk hlt => hc.block k hlt hk.2)) (fun _ _ => trivial)
theorem EInv.start (n : Nat) : EInv n 0 (electOf (fun _ => (0, -1)) (fun _ => none) (fun _ => (0, 0)) []) (fun _ _ => none) :=
  ⟨fun _ => Int.le_refl _, fun _ => Int.le_refl _, fun c e s h => (by cases h), fun v e c h => (by cases h), fun v c h => (by cases h), fun c e s h => (by cases h), fun e c h => (by cases h)⟩
/-- Block g is a win that was noted. -/
def GnAt (w : World) (g : Nat) (x0 x1 x2 : Int) : Prop := w.heap[g]? = some (.cells #[.int .i64 x0, .int .i64 x1, .int .i64 x2] 61 (0, 0))
theorem GnAt.cells {w : World} {g : Nat} {x0 x1 x2 : Int} (h : GnAt w g x0 x1 x2) : w.cell? ⟨g, 0, none⟩ = some (.int .i64 x0) ∧ w.cell? ⟨g, 1, none⟩ = some (.int .i64 x1) ∧ w.cell? ⟨g, 2, none⟩ = some (.int .i64 x2) := by
  unfold GnAt at h
  simp [World.cell?, h]
theorem rdG_mem {gv : List (Int × Int × Int)} {j : Nat} (hj : j < gv.length) : rdG gv (j : Int) ∈ gv := by
  unfold rdG
  rw [Int.toNat_natCast, List.getD_eq_getElem?_getD, List.getElem?_eq_getElem hj]
  exact List.getElem_mem _
/-- all that lies in memory in a round -/
structure Bd (b n bv bt be ge : Nat) (x0 : Int) (a v : Nat) (w : World) (vp : Nat → Nat) (A : Option Addr) (c : Nat) (gv : List (Int × Int × Int)) (tp : Nat → Option Nat) (V : Nat → Int × Int) (T : Nat → Int × Nat) (wx : World) : Prop where
  vw : Vw b n n bv bt be vp tp V T wx
  rg : RG wx b (.slice A gv.length c) gv
  ev : EvAt wx ge x0 a v
  bl : Below b w wx
  lo : b ≤ w.heap.size
section
variable {b n bv bt be ge : Nat} {x0 : Int} {a v : Nat} {w : World} {vp : Nat → Nat} {A : Option Addr} {c : Nat} {gv : List (Int × Int × Int)} {tp : Nat → Option Nat} {V : Nat → Int × Int} {T : Nat → Int × Nat} {wx w' : World}
theorem Bd.below (h : Bd b n bv bt be ge x0 a v w vp A c gv tp V T wx) (hc : Below wx.heap.size wx w') : Bd b n bv bt be ge x0 a v w vp A c gv tp V T w' :=
  ⟨h.vw.below hc, Kd.R_below h.rg hc, h.ev.below hc, below_on h.bl h.lo hc, h.lo⟩
theorem Bd.drew (h : Bd b n bv bt be ge x0 a v w vp A c gv tp V T wx) : Bd b n bv bt be ge x0 a v w vp A c gv tp V T wx.drew := h.below (below_drew (Below.refl _ _))
theorem Bd.who (h : Bd b n bv bt be ge x0 a v w vp A c gv tp V T wx) : wx.cell? ⟨ge, 0, none⟩ = some (.int .i64 x0) ∧ wx.cell? ⟨ge, 1, none⟩ = some (.int .i64 (a : Int)) ∧ wx.cell? ⟨ge, 2, none⟩ = some (.int .i64 (v : Int)) := h.ev.cells
theorem Bd.voter (h : Bd b n bv bt be ge x0 a v w vp A c gv tp V T wx) {j : Nat} (hj : j < n) (h7 : j < 7) : wx.cell? ⟨bv, j, none⟩ = some (.pointer (some ⟨vp j, 0, none⟩)) := by
  have := (h.vw.pv.cell h7).1
  rw [if_pos hj] at this
  exact this
theorem Bd.teller (h : Bd b n bv bt be ge x0 a v w vp A c gv tp V T wx) {j : Nat} (h7 : j < 7) : wx.cell? ⟨bt, j, none⟩ = some (.pointer ((tp j).map fun g => ⟨g, 0, none⟩)) ∧ wx.frozen? ⟨bt, j, none⟩ = false := h.vw.pt.cell h7
theorem Bd.tellerS (h : Bd b n bv bt be ge x0 a v w vp A c gv tp V T wx) {j g : Nat} (h7 : j < 7) (hg : tp j = some g) : wx.cell? ⟨bt, j, none⟩ = some (.pointer (some ⟨g, 0, none⟩)) := by
  have := (h.teller h7).1
  rw [hg] at this
  exact this
theorem Bd.tellerN (h : Bd b n bv bt be ge x0 a v w vp A c gv tp V T wx) {j : Nat} (h7 : j < 7) (hg : tp j = none) : wx.cell? ⟨bt, j, none⟩ = some (.pointer none) := by
  have := (h.teller h7).1
  rw [hg] at this
  exact this
theorem Bd.stand (h : Bd b n bv bt be ge x0 a v w vp A c gv tp V T wx) (hn : n ≤ 7) (ha : a < n) (h0 : 0 ≤ (V a).1) (h1 : (V a).1 < 1099511627776) :
    Calls Try.prog 15 #[.pointer (some ⟨vp a, 0, none⟩), .int .i64 (a : Int)] wx fun r w' => r = .returned (.tuple #[.int .i64 ((V a).1 + 1), .int .i64 0]) ∧ Bd b n bv bt be ge x0 a v w vp A c gv tp (updF V a ((V a).1 + 1, (a : Int))) T w' := by
  have hva := h.vw.vot a ha
  have hstd := stand_ok (vp a) (V a).1 (V a).2 a wx hva ⟨h0, by omega⟩
  have hsF : standF (V a).1 (V a).2 (a : Int) = (((V a).1 + 1, 0), (V a).1 + 1, (a : Int)) := by
    unfold standF
    rw [if_neg (by rw [okN_iff.2 ⟨by omega, by omega⟩]; simp), if_neg (by omega)]
  rw [hsF] at hstd
  refine hstd.mono ?_
  rintro r w3 ⟨rfl, hV3, hC3⟩
  exact ⟨rfl, h.vw.vote ha (x := ((V a).1 + 1, (a : Int))) hV3 hC3, RG_chg2 h.rg hva (by decide) hC3, h.ev.chg hva (by decide) hC3, below_chg h.bl h.lo hC3 (h.vw.bp a ha), h.lo⟩
theorem Bd.count (h : Bd b n bv bt be ge x0 a v w vp A c gv tp V T wx) (hn1 : 1 ≤ n) (hn : n ≤ 7) (ha : a < n) (e : Int) (h0 : 0 ≤ e) (h1 : e ≤ 1099511627776) :
    Calls Try.prog 18 #[.int .i64 n, .int .i64 e, .int .i64 a] wx fun r w' => ∃ g, r = .returned (.tuple #[.pointer (some ⟨g, 0, none⟩), .int .i64 0]) ∧ Bd b n bv bt be ge x0 a v w vp A c gv tp V T w' ∧ Bd b n bv bt be ge x0 a v w vp A c gv (updF tp a (some g)) V (updF T a (e, 2 ^ a)) (w'.setCell ⟨bt, a, none⟩ (.pointer (some ⟨g, 0, none⟩))) := by
  refine (count_ok n a e ⟨hn1, hn⟩ ha (okE_iff.2 ⟨h0, h1⟩) wx).mono ?_
  rintro r w3 ⟨g, rfl, hg, hT, hB⟩
  have h3 := h.below hB
  have hs := Chg.setCell w3 ⟨bt, a, none⟩ (.pointer (some ⟨g, 0, none⟩))
  refine ⟨g, rfl, h3, h.vw.count (by omega) (x := (e, 2 ^ a)) hg hT (Nat.pow_lt_pow_right (by decide) ha) hB, RG_chg2 h3.rg h3.vw.pt (by decide) hs, h3.ev.chg h3.vw.pt (by decide) hs, below_set h3.bl h.lo _ _ h.vw.bb.2.1, h.lo⟩
theorem Bd.ask (h : Bd b n bv bt be ge x0 a v w vp A c gv tp V T wx) (ha : v < n) (p e m1 m2 m3 m4 : Int) :
    Calls Try.prog 11 #[.pointer (some ⟨vp v, 0, none⟩), .int .i64 p, .int .i64 e, .agg #[.int .i64 m1, .int .i64 m2], .agg #[.int .i64 m3, .int .i64 m4]] wx fun r w' => r = .returned (.bool (askF (V v).1 (V v).2 p e (newer m1 m2 m3 m4)).1) ∧ Bd b n bv bt be ge x0 a v w vp A c gv tp (updF V v (askF (V v).1 (V v).2 p e (newer m1 m2 m3 m4)).2) T w' ∧ ∀ m, MA wx be m → MA w' be m := by
  have hva := h.vw.vot v ha
  refine (ask_ok (vp v) (V v).1 (V v).2 p e m1 m2 m3 m4 wx hva).mono ?_
  rintro r w3 ⟨rfl, hV3, hC3⟩
  exact ⟨rfl, ⟨h.vw.vote ha hV3 hC3, RG_chg2 h.rg hva (by decide) hC3, h.ev.chg hva (by decide) hC3, below_chg h.bl h.lo hC3 (h.vw.bp v ha), h.lo⟩, fun m hm => hC3.blk hm (blk_ne hm hva (by decide))⟩
/-- what the asking reads -/
theorem Bd.asked (h : Bd b n bv bt be ge x0 a v w vp A c gv tp V T wx) {m : Nat → Int} (hm : MA wx be m) (ha : a < 7) (hv : v < n) (hv7 : v < 7) :
    wx.cell? ⟨ge, 1, none⟩ = some (.int .i64 (a : Int)) ∧ wx.cell? ⟨ge, 2, none⟩ = some (.int .i64 (v : Int)) ∧ wx.cell? ⟨bv, v, none⟩ = some (.pointer (some ⟨vp v, 0, none⟩)) ∧ wx.cell? ⟨be, a * 2, none⟩ = some (.int .i64 (m (a * 2))) ∧ wx.cell? ⟨be, a * 2 + 1, none⟩ = some (.int .i64 (m (a * 2 + 1))) ∧ wx.cell? ⟨be, v * 2, none⟩ = some (.int .i64 (m (v * 2))) ∧ wx.cell? ⟨be, v * 2 + 1, none⟩ = some (.int .i64 (m (v * 2 + 1))) :=
  ⟨h.who.2.1, h.who.2.2, h.voter hv hv7, (hm.cell (i := a * 2) (by omega)).1, (hm.cell (i := a * 2 + 1) (by omega)).1, (hm.cell (i := v * 2) (by omega)).1, (hm.cell (i := v * 2 + 1) (by omega)).1⟩
theorem Bd.tvote (h : Bd b n bv bt be ge x0 a v w vp A c gv tp V T wx) (hn1 : 1 ≤ n) (hn : n ≤ 7) (ha : v < n) {g : Nat} (hg : tp a = some g) :
    Calls Try.prog 20 #[.pointer (some ⟨g, 0, none⟩), .int .i64 v, .int .i64 (T a).1] wx fun r w' => r = .returned (.bool true) ∧ Bd b n bv bt be ge x0 a v w vp A c gv tp V (updF T a ((T a).1, (T a).2 ||| 2 ^ v)) w' := by
  have hta := h.vw.tal a g hg
  refine (tvote_ok g n (T a).2 v (T a).1 ⟨hn1, hn⟩ hta.2 ha wx hta.1).mono ?_
  rintro r w3 ⟨rfl, hV3, hC3⟩
  exact ⟨rfl, h.vw.tally hg (x := ((T a).1, (T a).2 ||| 2 ^ v)) hV3 (or_lt hta.2 ha) hC3, RG_chg2 h.rg hta.1 (by decide) hC3, h.ev.chg hta.1 (by decide) hC3, below_chg h.bl h.lo hC3 (h.vw.bg a g hg), h.lo⟩
theorem Bd.tepoch (h : Bd b n bv bt be ge x0 a v w vp A c gv tp V T wx) {g : Nat} (hg : tp a = some g) :
    Calls Try.prog 19 #[.pointer (some ⟨g, 0, none⟩)] wx fun r w' => r = .returned (.int .i64 (T a).1) ∧ wx = w' := tepoch_ok g n (T a).1 (T a).2 wx (h.vw.tal a g hg).1
theorem Bd.twon (h : Bd b n bv bt be ge x0 a v w vp A c gv tp V T wx) (hn1 : 1 ≤ n) (hn : n ≤ 7) {g : Nat} (hg : tp a = some g) :
    Calls Try.prog 21 #[.pointer (some ⟨g, 0, none⟩)] wx fun r w' => r = .returned (.bool (decide (n / 2 < pop (T a).2))) ∧ Bd b n bv bt be ge x0 a v w vp A c gv tp V T w' := by
  have hta := h.vw.tal a g hg
  refine (won_ok g n (T a).2 (T a).1 ⟨hn1, hn⟩ hta.2 wx hta.1).mono ?_
  rintro r w3 ⟨rfl, hB⟩
  exact ⟨rfl, h.below hB⟩
end
end Go.Proofs.Ytjbddcaamefgaaa.Vote
