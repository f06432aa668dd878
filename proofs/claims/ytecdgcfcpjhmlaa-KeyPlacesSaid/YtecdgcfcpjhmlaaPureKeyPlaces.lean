/- Where a key stands in any list: the program answers as the document's definition does, at all lists and texts. -/
import Derived.Test.YtecdgcfcpjhmlaaStKeyPlaces
import Derived.Test.YtecdgcfcpjhmlaaPureBase
namespace Go.Proofs.Ytecdgcfcpjhmlaa.Pure
open Go.RowKit Go.Proofs.Ytecdgcfcpjhmlaa.Pr Go.Proofs.YtecdgcfcpjhmlaaW.PrintWords Go.Proofs.YtecdgcfcpjhmlaaW.PrintLast

theorem geB_cb (k x : ByteArray) : geB k x = decide (0 ≤ cb (L x) (L k)) := by
  unfold geB
  rw [tl, tl, bl_cb]
  by_cases h : cb (L x) (L k) < 0
  · rw [decide_eq_true h, decide_eq_false (by omega)]; rfl
  · rw [decide_eq_false h, decide_eq_true (by omega)]; rfl
theorem refPlace (l : List ByteArray) (a : ByteArray) (hl : l.length * 16 ≤ 140737488351232) (hg : ∀ y ∈ l, y.size ≤ 140737488351232) : ∀ (d i : Nat), i ≤ l.length → l.length - i = d →
    (∀ j, j < i → geB a (rdOf ByteArray.empty l (j : Nat)) = false) → ∃ r, key_Place.f l a = some r ∧ Ev (fun k => latticeref05_Place.l0 k l a l (l.length : Int) (i : Int)) r := by
  intro d
  induction d with
  | zero =>
    intro i h1 h2 h3
    have hi : i = l.length := by omega
    refine ⟨((l.length : Int), false), ?_, ?_⟩
    · unfold key_Place.f
      rw [findGe_miss a l (by rw [← hi]; exact h3)]
      rfl
    · refine Ev.step (fun _ => latticeref05_Place.l0.eq_2 _ _ _ _ _ _) ?_
      exact Ev.neg (by omega) (Ev.now _)
  | succ d ih =>
    intro i h1 h2 h3
    have hi : i < l.length := by omega
    have hs : (rdOf ByteArray.empty l (i : Int)).size ≤ 140737488351232 := by
      simp only [rdOf, Int.toNat_natCast, List.getD_eq_getElem?_getD, List.getElem?_eq_getElem hi, Option.getD_some]
      exact hg _ (List.getElem_mem hi)
    by_cases c : geB a (rdOf ByteArray.empty l (i : Int)) = true
    · have hf := findGe_hit a l i hi c h3
      refine ⟨((i : Int), ((rdOf ByteArray.empty l (i : Int)).toList == a.toList)), ?_, ?_⟩
      · unfold key_Place.f
        rw [hf, if_neg (by omega)]
      · refine Ev.step (fun _ => latticeref05_Place.l0.eq_2 _ _ _ _ _ _) ?_
        refine Ev.pos (by omega) (Ev.pos (by omega) (Ev.pos (by omega) (Ev.bind (cmp_ev _ _ hs) (Ev.pos ?_ (Ev.now _)))))
        rw [geB_cb, decide_eq_true_eq] at c
        exact c
    · have c' := Bool.eq_false_iff.2 c
      obtain ⟨r, hr, he⟩ := ih (i + 1) (by omega) (by omega) (fun j hj => by
        by_cases e : j = i
        · subst e; exact c'
        · exact h3 j (by omega))
      refine ⟨r, hr, ?_⟩
      refine Ev.step (fun _ => latticeref05_Place.l0.eq_2 _ _ _ _ _ _) ?_
      refine Ev.pos (by omega) (Ev.pos (by omega) (Ev.pos (by omega) (Ev.bind (cmp_ev _ _ hs) (Ev.neg ?_ ?_))))
      · rw [geB_cb, decide_eq_false_iff_not] at c'
        omega
      · rw [w64 (by omega) (by omega)]
        exact he

theorem KeyPlaces : latticelaw05_KeyPlaces.Stated := by
  intro l a hl ha
  refine Ev.rounds (g := fun k => latticelaw05_KeyPlaces.f k l a) ?_
  unfold latticelaw05_KeyPlaces.f
  obtain ⟨r, hr, he⟩ := refPlace l a hl.2.1 hl.2.2 _ 0 (Nat.zero_le _) rfl (fun j hj => absurd hj (Nat.not_lt_zero _))
  exact Ev.bindc hr (Ev.bind he (Ev.pos rfl (Ev.pos (by simp) (Ev.bind speaks_ev (Ev.now _)))))

end Go.Proofs.Ytecdgcfcpjhmlaa.Pure
