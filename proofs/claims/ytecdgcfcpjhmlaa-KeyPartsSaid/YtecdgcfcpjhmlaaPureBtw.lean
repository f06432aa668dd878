import Derived.Test.YtecdgcfcpjhmlaaPureBase
namespace Go.Proofs.Ytecdgcfcpjhmlaa.Pure
open Go.RowKit Go.Proofs.Ytecdgcfcpjhmlaa.Pr Go.Proofs.YtecdgcfcpjhmlaaW.PrintWords Go.Proofs.YtecdgcfcpjhmlaaW.PrintLast
/-! what stands between two texts -/
theorem com_lt : ∀ a b, cb a b < 0 → com a b < b.length
  | [], [], h => by simp [cb_nil] at h
  | [], y :: b, _ => by simp [com]
  | x :: a, [], h => by simp [cb_cons_nil] at h
  | x :: a, y :: b, h => by
    simp only [com]
    split
    · rename_i e
      subst e
      rw [cb_cons, if_neg (by omega), if_neg (by omega)] at h
      have := com_lt a b h
      simp; omega
    · simp
theorem com_between : ∀ a b i, cb a b < 0 → i ≤ b.length → (0 < cb (b.take i) a ↔ com a b < i)
  | [], [], i, h, _ => by simp [cb_nil] at h
  | [], y :: b, i, _, _ => by
    cases i with
    | zero => simp [com, cb_nil]
    | succ i => simp [com, cb_cons_nil]
  | x :: a, [], i, h, _ => by simp [cb_cons_nil] at h
  | x :: a, y :: b, i, h, hi => by
    rw [cb_cons] at h
    cases i with
    | zero => simp [com, cb_nil_cons]
    | succ i =>
      simp only [com, List.take_succ_cons]
      rw [cb_cons]
      by_cases e : x = y
      · subst e
        rw [if_neg (by omega), if_neg (by omega)] at h ⊢
        have := com_between a b i h (by simpa using hi)
        simp only [if_true]
        omega
      · have e2 : x.toNat ≠ y.toNat := fun e3 => e (UInt8.toNat_inj.1 e3)
        have e3 : x.toNat < y.toNat := by
          by_cases e4 : x.toNat < y.toNat
          · exact e4
          · rw [if_neg e4, if_pos (by omega)] at h; omega
        rw [if_neg (by omega), if_pos e3, if_neg e]
        omega
theorem cb_take : ∀ b i, cb (b.take i) b ≤ 0
  | [], i => by simp [cb_nil]
  | y :: b, 0 => by simp [cb_nil_cons]
  | y :: b, i + 1 => by
    rw [List.take_succ_cons, cb_cons, if_neg (by omega), if_neg (by omega)]
    exact cb_take b i
theorem cb_take_ge (a b : List UInt8) (i : Nat) (h : ¬ cb a b < 0) : ¬ 0 < cb (b.take i) a := by
  have h1 := cb_take b i
  have h2 := cb_neg a b
  have := (cb_trans (b.take i) b a h1 (by omega)).1
  omega
theorem keyBetween_lt (a b : ByteArray) (ha : a.size ≤ 140737488351232) (hb : b.size ≤ 140737488351232) (h : cb (L a) (L b) < 0) :
    key_Between.f a b = some (b.extract 0 (com (L a) (L b) + 1), 0) := by
  have hc := com_lt _ _ h
  rw [L_len] at hc
  have hk := keyCommon a b ha hb
  have hl : Op.bytesLess a.toList b.toList = true := by rw [tl, tl, bl_cb]; simpa using h
  generalize com (L a) (L b) = c at hc hk ⊢
  have e : wrap64 ((c : Int) + 1) = ((c + 1 : Nat) : Int) := by rw [w64 (by omega) (by omega)]; omega
  have e1 : (0 : Int) ≤ ((c + 1 : Nat) : Int) := by omega
  have e2 : ((c + 1 : Nat) : Int) ≤ (b.size : Int) := by omega
  unfold key_Between.f
  rw [if_pos hl, hk, Option.bind_some, e, if_pos e1, if_pos e2, show (((c + 1 : Nat) : Int).toNat) = c + 1 from Int.toNat_natCast _]
theorem keyBetween_ge (a b : ByteArray) (h : ¬ cb (L a) (L b) < 0) : key_Between.f a b = some (⟨#[]⟩, 1) := by
  unfold key_Between.f
  rw [tl, tl, bl_cb, if_neg (by simpa using h)]
theorem L_take (b : ByteArray) (i : Nat) : L (b.extract 0 i) = (L b).take i := by rw [L_extract]; rfl
theorem size_take (b : ByteArray) (i : Nat) (h : i ≤ b.size) : (b.extract 0 i).size = i := by rw [ByteArray.size_extract]; omega
theorem refBetween_lt (a b : ByteArray) (hb : b.size ≤ 140737488351232) (h : cb (L a) (L b) < 0) : ∀ d i : Nat, i ≤ com (L a) (L b) + 1 → com (L a) (L b) + 1 - i = d →
    Ev (fun k => latticeref05_Between.l0 k a b (i : Int)) (b.extract 0 (com (L a) (L b) + 1), 0) := by
  have hc := com_lt _ _ h
  rw [L_len] at hc
  intro d
  induction d with
  | zero =>
    intro i h1 h2
    have hi : i = com (L a) (L b) + 1 := by omega
    refine Ev.step (fun _ => latticeref05_Between.l0.eq_2 _ _ _ _) ?_
    refine Ev.pos (by omega) (Ev.pos (by omega) ?_)
    rw [Int.toNat_natCast]
    refine Ev.bind (cmp_ev _ _ (by rw [size_take _ _ (by omega)]; omega)) ?_
    rw [L_take]
    refine Ev.pos ((com_between _ _ i h (by rw [L_len]; omega)).2 (by omega)) ?_
    rw [hi]
    exact Ev.now _
  | succ d ih =>
    intro i h1 h2
    refine Ev.step (fun _ => latticeref05_Between.l0.eq_2 _ _ _ _) ?_
    refine Ev.pos (by omega) (Ev.pos (by omega) ?_)
    rw [Int.toNat_natCast]
    refine Ev.bind (cmp_ev _ _ (by rw [size_take _ _ (by omega)]; omega)) ?_
    rw [L_take]
    refine Ev.neg (fun e => by have := (com_between _ _ i h (by rw [L_len]; omega)).1 e; omega) ?_
    rw [w64 (by omega) (by omega)]
    exact ih (i + 1) (by omega) (by omega)
theorem refBetween_ge (a b : ByteArray) (hb : b.size ≤ 140737488351232) (h : ¬ cb (L a) (L b) < 0) : ∀ d i : Nat, i ≤ b.size + 1 → b.size + 1 - i = d →
    Ev (fun k => latticeref05_Between.l0 k a b (i : Int)) (⟨#[]⟩, 1) := by
  intro d
  induction d with
  | zero =>
    intro i h1 h2
    refine Ev.step (fun _ => latticeref05_Between.l0.eq_2 _ _ _ _) ?_
    exact Ev.neg (by omega) (Ev.now _)
  | succ d ih =>
    intro i h1 h2
    refine Ev.step (fun _ => latticeref05_Between.l0.eq_2 _ _ _ _) ?_
    refine Ev.pos (by omega) (Ev.pos (by omega) ?_)
    rw [Int.toNat_natCast]
    refine Ev.bind (cmp_ev _ _ (by rw [size_take _ _ (by omega)]; omega)) ?_
    rw [L_take]
    refine Ev.neg (cb_take_ge _ _ i h) ?_
    rw [w64 (by omega) (by omega)]
    exact ih (i + 1) (by omega) (by omega)
end Go.Proofs.Ytecdgcfcpjhmlaa.Pure
