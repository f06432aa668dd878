import Derived.Test.YtecdgcfcpjhmlaaPureBase
namespace Go.Proofs.Ytecdgcfcpjhmlaa.Pure
open Go.RowKit Go.Proofs.Ytecdgcfcpjhmlaa.Pr Go.Proofs.YtecdgcfcpjhmlaaW.PrintWords Go.Proofs.YtecdgcfcpjhmlaaW.PrintLast
/-! the least text above all that begin with a prefix -/
/-- out of the first n bytes -/
def abv (l : List UInt8) : Nat → Option (List UInt8)
  | 0 => none
  | n + 1 => if (l.getD n 0).toNat < 255 then some (l.take n ++ [l.getD n 0 + 1]) else abv l n
theorem abv_take (l : List UInt8) (m : Nat) : ∀ n, n ≤ m → abv (l.take m) n = abv l n
  | 0, _ => rfl
  | n + 1, h => by
    have e : (l.take m).getD n 0 = l.getD n 0 := by
      simp only [List.getD_eq_getElem?_getD]
      rw [List.getElem?_take_of_lt (by omega)]
    simp only [abv, e, abv_take l m n (by omega), List.take_take]
    rw [Nat.min_eq_left (by omega)]
theorem strOfNums_L (xs : List UInt8) : strOfNums (xs.map fun b => (b.toNat : Int)) = ⟨xs.toArray⟩ := by
  unfold strOfNums
  congr 2
  rw [List.map_map]
  conv => rhs; rw [← List.map_id xs]
  apply List.map_congr_left
  intro b _
  simp
theorem byte_up (c : UInt8) (h : c.toNat < 255) : ((c.toNat : Int) + 1) % 256 = ((c + 1).toNat : Int) := by
  have : (c + 1).toNat = c.toNat + 1 := by rw [UInt8.toNat_add]; simp; omega
  rw [this]; omega
theorem suffix_ff (x : ByteArray) (n : Nat) (h : x.size = n + 1) (hn : n ≤ 140737488351232) : strings_HasSuffix.f x ⟨#[255]⟩ = some (decide ((L x).getD n 0 = 255)) := by
  have hs : (⟨#[255]⟩ : ByteArray).size = 1 := rfl
  have e : wrap64 ((x.size : Int) - ((1 : Nat) : Int)) = (n : Int) := by rw [w64 (by omega) (by omega)]; omega
  have e1 : (0 : Int) ≤ (n : Int) := by omega
  have e2 : (n : Int) ≤ (x.size : Int) := by omega
  have e3 : (x.size : Int) ≥ ((1 : Nat) : Int) := by omega
  have hl : n < (L x).length := by rw [L_len]; omega
  unfold strings_HasSuffix.f stringslite_HasSuffix.f
  rw [hs, if_pos e3, e, if_pos e1, if_pos e2, Option.bind_some, Int.toNat_natCast, tl, tl, L_extract]
  congr 1
  have e4 : ((L x).take x.size).drop n = [(L x).getD n 0] := by
    rw [List.take_of_length_le (by rw [L_len]; omega), List.drop_eq_getElem_cons hl, List.drop_eq_nil_of_le (by rw [L_len]; omega)]
    simp [List.getD_eq_getElem?_getD, List.getElem?_eq_getElem hl]
  rw [e4]
  show ([(L x).getD n 0] == [255]) = _
  generalize (L x).getD n 0 = c
  by_cases hc : c = 255
  · subst hc; rfl
  · simp [hc]
theorem suffix_none (x : ByteArray) (h : x.size = 0) : strings_HasSuffix.f x ⟨#[255]⟩ = some false := by
  have hs : (⟨#[255]⟩ : ByteArray).size = 1 := rfl
  unfold strings_HasSuffix.f stringslite_HasSuffix.f
  rw [hs, if_neg (by omega), Option.bind_some]
theorem keyAbove_ev : ∀ n (x : ByteArray), x.size = n → n ≤ 140737488351232 →
    ∃ s, Ev (fun k => key_Above.f k x) (s, (abv (L x) n).isSome) ∧ L s = (abv (L x) n).getD []
  | 0, x, h, _ => by
    refine ⟨⟨#[]⟩, ?_, rfl⟩
    refine Ev.step (fun _ => key_Above.l0.eq_2 _ _) ?_
    refine Ev.bindc (suffix_none x h) (Ev.neg (by decide) (Ev.pos ?_ (Ev.now _)))
    rw [tl]
    exact List.eq_nil_of_length_eq_zero (by rw [L_len]; exact h)
  | n + 1, x, h, hn => by
    have e : wrap64 ((x.size : Int) - 1) = (n : Int) := by rw [w64 (by omega) (by omega)]; omega
    have e1 : (0 : Int) ≤ (n : Int) := by omega
    have e2 : (n : Int) ≤ (x.size : Int) := by omega
    have e3 : (n : Int) < (x.size : Int) := by omega
    have hz : (x.extract 0 n).size = n := by rw [ByteArray.size_extract]; omega
    have hL : L (x.extract 0 n) = (L x).take n := by rw [L_extract]; rfl
    by_cases c : (L x).getD n 0 = 255
    · obtain ⟨s, h1, h2⟩ := keyAbove_ev n (x.extract 0 n) hz (by omega)
      rw [hL, abv_take _ _ _ (Nat.le_refl _)] at h1 h2
      have ha : abv (L x) (n + 1) = abv (L x) n := by simp only [abv]; rw [if_neg (by rw [c]; decide)]
      refine ⟨s, ?_, by rw [ha]; exact h2⟩
      rw [ha]
      refine Ev.step (fun _ => key_Above.l0.eq_2 _ _) ?_
      refine Ev.bindc (suffix_ff x n h (by omega)) (Ev.pos (by simp only [c]; rfl) ?_)
      rw [e, Int.toNat_natCast]
      exact Ev.pos e1 (Ev.pos e2 h1)
    · have hc : ((L x).getD n 0).toNat < 255 := by
        have h3 := ((L x).getD n 0).toNat_lt
        have h4 : ((L x).getD n 0).toNat ≠ 255 := fun e5 => c (UInt8.toNat_inj.1 e5)
        omega
      have ha : abv (L x) (n + 1) = some ((L x).take n ++ [(L x).getD n 0 + 1]) := by simp only [abv]; rw [if_pos hc]
      have hb : strOfNums [(bt x (n : Int) + 1) % 256] = ⟨#[(L x).getD n 0 + 1]⟩ := by
        rw [bt_L, byte_up _ hc]; exact strOfNums_L [(L x).getD n 0 + 1]
      refine ⟨x.extract 0 n ++ ⟨#[(L x).getD n 0 + 1]⟩, ?_, ?_⟩
      · rw [ha]
        refine Ev.step (fun _ => key_Above.l0.eq_2 _ _) ?_
        refine Ev.bindc (suffix_ff x n h (by omega)) (Ev.neg (by simpa using c) (Ev.neg ?_ ?_))
        · rw [tl]; intro e5; have := L_len x; rw [e5] at this; simp at this; omega
        · rw [e, Int.toNat_natCast]
          refine Ev.pos e1 (Ev.pos e2 (Ev.pos e3 (Ev.bindc rfl (Ev.pos ?_ ?_))))
          · rw [hb, hz]; show n + 1 ≤ _; omega
          · rw [hb]; exact Ev.now _
      · rw [ha, Option.getD_some]
        simp only [L, ByteArray.data_append, Array.toList_append]
        exact congrArg (· ++ _) hL
theorem refAbove_ev (a : ByteArray) (ha : a.size ≤ 140737488351232) : ∀ n, n ≤ a.size →
    ∃ s, Ev (fun k => latticeref05_Above.l0 k a ((n : Int) - 1)) (s, (abv (L a) n).isSome) ∧ L s = (abv (L a) n).getD []
  | 0, _ => ⟨⟨#[]⟩, Ev.step (fun _ => latticeref05_Above.l0.eq_2 _ _ _) (Ev.neg (by omega) (Ev.now _)), rfl⟩
  | n + 1, h => by
    have e : ((n + 1 : Nat) : Int) - 1 = (n : Int) := by omega
    have e1 : (0 : Int) ≤ (n : Int) := by omega
    have e2 : (n : Int) ≤ (a.size : Int) := by omega
    have e3 : (n : Int) < (a.size : Int) := by omega
    have hz : (a.extract 0 n).size = n := by rw [ByteArray.size_extract]; omega
    have hL : L (a.extract 0 n) = (L a).take n := by rw [L_extract]; rfl
    rw [e]
    by_cases hc : ((L a).getD n 0).toNat < 255
    · have ha2 : abv (L a) (n + 1) = some ((L a).take n ++ [(L a).getD n 0 + 1]) := by simp only [abv]; rw [if_pos hc]
      rw [ha2]
      have hb : strOfNums (([] : List Int) ++ bytesOf (a.extract 0 n) ++ [(bt a (n : Int) + 1) % 256]) = ⟨((L a).take n ++ [(L a).getD n 0 + 1]).toArray⟩ := by
        rw [bt_L, byte_up _ hc, List.nil_append, ← strOfNums_L, List.map_append]
        simp only [bytesOf]
        rw [show (a.extract 0 n).data.toList = (L a).take n from hL]
        rfl
      refine ⟨⟨((L a).take n ++ [(L a).getD n 0 + 1]).toArray⟩, ?_, by simp [L]⟩
      refine Ev.step (fun _ => latticeref05_Above.l0.eq_2 _ _ _) ?_
      refine Ev.pos e1 (Ev.pos e1 (Ev.pos e3 (Ev.pos (by rw [bt_L]; omega) (Ev.pos e2 ?_))))
      rw [Int.toNat_natCast]
      refine Ev.pos (by rw [hz]; simp; omega) (Ev.bindc rfl (Ev.pos ?_ ?_))
      · simp only [bytesOf, List.nil_append, List.length_map]
        rw [show (a.extract 0 n).data.toList = (L a).take n from hL, List.length_take]
        omega
      · rw [hb]; exact Ev.now _
    · have ha2 : abv (L a) (n + 1) = abv (L a) n := by simp only [abv]; rw [if_neg hc]
      obtain ⟨s, h1, h2⟩ := refAbove_ev a ha n (by omega)
      refine ⟨s, ?_, by rw [ha2]; exact h2⟩
      rw [ha2]
      refine Ev.step (fun _ => latticeref05_Above.l0.eq_2 _ _ _) ?_
      refine Ev.pos e1 (Ev.pos e1 (Ev.pos e3 (Ev.neg (by rw [bt_L]; omega) ?_)))
      rw [w64 (by omega) (by omega)]
      exact h1
theorem refAbove (a : ByteArray) (ha : a.size ≤ 140737488351232) : ∃ s, Ev (fun k => latticeref05_Above.f k a) (s, (abv (L a) a.size).isSome) ∧ L s = (abv (L a) a.size).getD [] := by
  obtain ⟨s, h1, h2⟩ := refAbove_ev a ha a.size (Nat.le_refl _)
  refine ⟨s, ?_, h2⟩
  unfold latticeref05_Above.f
  rw [w64 (by omega) (by omega)]
  exact h1
end Go.Proofs.Ytecdgcfcpjhmlaa.Pure
