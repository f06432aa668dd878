/- Which texts are keys and values, which of two is less, how many bytes both begin with: the program answers as the document's definition does, at all texts. -/
import Derived.Test.YtecdgcfcpjhmlaaPrx4
import Derived.Test.YtecdgcfcpjhmlaaPureBase
namespace Go.Proofs.Ytecdgcfcpjhmlaa.Pure
open Go.RowKit Go.Proofs.Ytecdgcfcpjhmlaa.Pr Go.Proofs.YtecdgcfcpjhmlaaW.PrintWords Go.Proofs.YtecdgcfcpjhmlaaW.PrintLast

theorem refCommon (a b : ByteArray) (ha : a.size ≤ 140737488351232) : ∀ (d i : Nat), i ≤ a.size → i ≤ b.size → a.size - i = d →
    Ev (fun k => latticeref05_Common.l0 k a b (i : Int)) ((i + com ((L a).drop i) ((L b).drop i) : Nat) : Int) := by
  intro d
  induction d with
  | zero =>
    intro i h1 h2 hd
    refine Ev.step (fun _ => latticeref05_Common.l0.eq_2 _ _ _ _) ?_
    refine Ev.neg (by omega) ?_
    have e1 : (L a).drop i = [] := by rw [List.drop_eq_nil_iff, L_len]; omega
    rw [e1]
    exact Ev.now _
  | succ d ih =>
    intro i h1 h2 hd
    have hla : i < (L a).length := by rw [L_len]; omega
    refine Ev.step (fun _ => latticeref05_Common.l0.eq_2 _ _ _ _) ?_
    refine Ev.pos (by omega) ?_
    rw [List.drop_eq_getElem_cons hla]
    by_cases hb : i < b.size
    · have hlb : i < (L b).length := by rw [L_len]; exact hb
      rw [List.drop_eq_getElem_cons hlb]
      refine Ev.pos (by omega) (Ev.pos (by omega) ?_)
      rw [bt_get a i hla, bt_get b i hlb]
      simp only [com]
      by_cases e : (L a)[i] = (L b)[i]
      · rw [if_pos e]
        refine Ev.pos (by rw [e]) ?_
        rw [w64 (by omega) (by omega)]
        have := ih (i + 1) (by omega) (by omega) (by omega)
        rw [show i + (com ((L a).drop (i + 1)) ((L b).drop (i + 1)) + 1) = i + 1 + com ((L a).drop (i + 1)) ((L b).drop (i + 1)) by omega]
        exact this
      · rw [if_neg e]
        exact Ev.neg (fun e2 => e (UInt8.toNat_inj.1 (by omega))) (Ev.now _)
    · have e2 : (L b).drop i = [] := by rw [List.drop_eq_nil_iff, L_len]; omega
      rw [e2]
      exact Ev.neg (by omega) (Ev.now _)

theorem check_same (a : ByteArray) : ∃ r, key_Check.f a = some r ∧ latticeref05_Check.f a = some r := by
  unfold key_Check.f latticeref05_Check.f
  rw [tl]
  by_cases h : L a = []
  · have : a.size = 0 := by rw [← L_len, h]; rfl
    rw [if_pos h, if_pos (by omega)]
    exact ⟨_, rfl, rfl⟩
  · have : a.size ≠ 0 := by rw [← L_len]; intro e; exact h (List.eq_nil_of_length_eq_zero e)
    rw [if_neg h]
    rw [if_neg (show ¬ ((a.size : Int) < 1) by omega)]
    by_cases h2 : (a.size : Int) > 16
    · rw [if_pos h2]; exact ⟨_, rfl, rfl⟩
    · rw [if_neg h2]; exact ⟨_, rfl, rfl⟩
theorem value_same (a : ByteArray) : ∃ r, key_Value.f a = some r ∧ latticeref05_Value.f a = some r := by
  unfold key_Value.f latticeref05_Value.f
  by_cases h2 : (a.size : Int) > 32
  · rw [if_pos h2]; exact ⟨_, rfl, rfl⟩
  · rw [if_neg h2]; exact ⟨_, rfl, rfl⟩

theorem KeyTells : latticelaw05_KeyTells.Pure := by
  intro a b ha hb
  obtain ⟨c, hc1, hc2⟩ := check_same a
  obtain ⟨v, hv1, hv2⟩ := value_same b
  refine Ev.rounds (g := fun k => latticelaw05_KeyTells.f k a b) ?_
  unfold latticelaw05_KeyTells.f
  refine Ev.bindc hc1 (Ev.bindc hc2 (Ev.pos rfl (Ev.bindc hv1 (Ev.bindc hv2 (Ev.pos rfl ?_)))))
  refine Ev.bindc (keyCompare a b) (Ev.bind (cmp_ev a b ha) (Ev.pos rfl ?_))
  refine Ev.bindc (keyCommon a b ha hb) (Ev.bind (refCommon a b ha _ 0 (Nat.zero_le _) (Nat.zero_le _) rfl) ?_)
  refine Ev.pos (by simp) (Ev.bind speaks_ev (Ev.now _))

end Go.Proofs.Ytecdgcfcpjhmlaa.Pure
