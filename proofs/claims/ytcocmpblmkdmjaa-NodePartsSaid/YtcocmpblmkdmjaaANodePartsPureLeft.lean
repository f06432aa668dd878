-- A part of the text PureLeft, thinned by a program of this session.
import Derived.Test.YtcocmpblmkdmjaaANodePartsPureParts
import Derived.Test.YtcocmpblmkdmjaaANodePartsPrx12
import Derived.Test.YtcocmpblmkdmjaaANodePartsPrx14
namespace Go.Proofs.Ytcocmpblmkdmjaa.Pure
set_option linter.unusedVariables false
open Go.RowKit Go.Proofs.Ytcocmpblmkdmjaa.Pr Go.Proofs.YtcocmpblmkdmjaaW.PrintWords Go.Proofs.YtcocmpblmkdmjaaW.PrintLast
theorem parted_ev (lv lsn rt : Int) (high : ByteArray) (keys vals : List ByteArray) (kids : List Int) (hl : keys.length * 16 ≤ 140737488351232) (hv : vals.length * 16 ≤ 140737488351232) (hk : kids.length * 8 ≤ 140737488351232) (hg : ∀ y ∈ keys, y.size ≤ 140737488351232) (k : ByteArray) (num : Int) (hh : high.size ≤ 140737488351232) :
  (∃ e, e ≠ 0 ∧ Ev (fun n => node_parted.f n lv lsn rt high keys vals kids k num) (0, e) ∧ Ev (fun n => latticeref07_parted.f n lv lsn rt high keys vals kids k num) e) ∨
  (nodeB lv lsn rt high keys vals kids = true ∧ ∃ p : Nat, p ≤ keys.length ∧ (∀ j, j < p → cb (K keys j) (L k) < 0) ∧ (p < keys.length → 0 ≤ cb (K keys p) (L k)) ∧ (lv ≠ 0 → p < keys.length ∧ cb (K keys p) (L k) = 0) ∧
   Ev (fun n => node_parted.f n lv lsn rt high keys vals kids k num) ((p : Int), 0) ∧ Ev (fun n => latticeref07_parted.f n lv lsn rt high keys vals kids k num) 0) := by
 have ha := asked_ev lv lsn rt high keys vals kids hl hv hk hg k (⟨#[]⟩ : ByteArray) num 2
 have hr := rasked_ev lv lsn rt high keys vals kids hl hv hk hg k (⟨#[]⟩ : ByteArray) num 2 hh
 unfold node_parted.f latticeref07_parted.f
 by_cases he : askV lv lsn rt high keys vals kids k (⟨#[]⟩ : ByteArray) num 2 = 0
 ·rw [he] at ha hr
  obtain ⟨hb, _, _⟩ := askV_zero he
  have h0 := nodeB_lv hb
  obtain ⟨hs, _, _⟩ := nodeB_facts hb
  obtain ⟨p, h1, h2, h3, h4⟩ := place_ev keys k
  have hik := is_key hs h2 h3
  by_cases e : lv = 0
  ·refine .inr ⟨hb, p, h1, h2, h3, fun z => absurd e z, Ev.bind ha (Ev.pos rfl (Ev.bindc h4 (Ev.neg (by omega) (Ev.now _)))), Ev.bind hr (Ev.pos rfl ?_)⟩
   refine Ev.step (fun _ => latticeref07_parted.j0.eq_2 _ _ _ _ _ _ _ _ _ _ _) ?_
   exact Ev.pos (by simp [e]) (Ev.now _)
  ·have e2 : (lv == 0) = false := by simp [e]
   by_cases c : p < keys.length ∧ cb (K keys p) (L k) = 0
   ·rw [decide_eq_true c] at h4
    refine .inr ⟨hb, p, h1, h2, h3, fun _ => c, Ev.bind ha (Ev.pos rfl (Ev.bindc h4 (Ev.pos (by omega) (Ev.pos rfl (Ev.now _))))), Ev.bind hr (Ev.pos rfl ?_)⟩
    refine Ev.step (fun _ => latticeref07_parted.j0.eq_2 _ _ _ _ _ _ _ _ _ _ _) ?_
    rw [e2]
    refine Ev.neg (by decide) ?_
    have loop : ∀ (d i : Nat), i ≤ p → p - i = d → Ev (fun n => latticeref07_parted.l0 n k keys (keys.length : Int) (i : Int)) 0 := by
     intro d
     induction d with
     | zero =>
      intro i g1 g2
      obtain rfl : i = p := by omega
      refine Ev.step (fun _ => latticeref07_parted.l0.eq_2 _ _ _ _ _) ?_
      exact Ev.pos (by omega) (Ev.pos (by omega) (Ev.pos (by omega) (Ev.pos ((hik i c.1).1.2 ⟨rfl, c.2⟩) (Ev.now _))))
     | succ d ih =>
      intro i g1 g2
      refine Ev.step (fun _ => latticeref07_parted.l0.eq_2 _ _ _ _ _) ?_
      refine Ev.pos (by omega) (Ev.pos (by omega) (Ev.pos (by omega) (Ev.neg (fun e => by have := ((hik i (by omega)).1.1 e).1; omega) ?_)))
      rw [w64 (by omega) (by omega)]
      exact ih (i + 1) (by omega) (by omega)
    exact loop _ 0 (Nat.zero_le _) rfl
   ·rw [decide_eq_false c] at h4
    refine .inl ⟨6, by decide, Ev.bind ha (Ev.pos rfl (Ev.bindc h4 (Ev.pos (by omega) (Ev.neg (fun e => by cases e) (Ev.now _))))), Ev.bind hr (Ev.pos rfl ?_)⟩
    refine Ev.step (fun _ => latticeref07_parted.j0.eq_2 _ _ _ _ _ _ _ _ _ _ _) ?_
    rw [e2]
    refine Ev.neg (by decide) ?_
    have loop : ∀ (d i : Nat), i ≤ keys.length → keys.length - i = d → Ev (fun n => latticeref07_parted.l0 n k keys (keys.length : Int) (i : Int)) 6 := by
     intro d
     induction d with
     | zero =>
      intro i g1 g2
      refine Ev.step (fun _ => latticeref07_parted.l0.eq_2 _ _ _ _ _) ?_
      exact Ev.neg (by omega) (Ev.now _)
     | succ d ih =>
      intro i g1 g2
      refine Ev.step (fun _ => latticeref07_parted.l0.eq_2 _ _ _ _ _) ?_
      refine Ev.pos (by omega) (Ev.pos (by omega) (Ev.pos (by omega) (Ev.neg (fun e => by have q := (hik i (by omega)).1.1 e; exact c ⟨by omega, q.2⟩) ?_)))
      rw [w64 (by omega) (by omega)]
      exact ih (i + 1) (by omega) (by omega)
    exact loop _ 0 (Nat.zero_le _) rfl
 ·refine .inl ⟨_, he, Ev.bind ha (Ev.neg he (Ev.now _)), Ev.bind hr (Ev.neg he ?_)⟩
  refine Ev.step (fun _ => latticeref07_parted.j0.eq_2 _ _ _ _ _ _ _ _ _ _ _) ?_
  exact Ev.pos rfl (Ev.now _)
theorem take_more {α : Type} {l : List α} {i : Nat} (h : i < l.length) : l.take i ++ [l[i]] = l.take (i + 1) := by
 rw [List.take_add_one, List.getElem?_eq_getElem h]
 rfl
def partR (b : Bool) (lv lsn rt : Int) (high : ByteArray) (keys vals : List ByteArray) (kids : List Int) : Int × Int × Int × ByteArray × List ByteArray × List ByteArray × List Int × Int :=
 if b = true then (lv, lsn, rt, high, keys, vals, kids, 0) else (0, 0, 0, ⟨#[]⟩, [], [], [], 5)
theorem right_part (lv lsn rt : Int) (high : ByteArray) (keys vals : List ByteArray) (kids : List Int) (hl : keys.length * 16 ≤ 140737488351232) (hv : vals.length * 16 ≤ 140737488351232) (hk : kids.length * 8 ≤ 140737488351232) (hg : ∀ y ∈ keys, y.size ≤ 140737488351232) :
  Ev (fun k => (latticeref06_Right.f k lv lsn rt high keys vals kids).bind fun t => if t = true then some (lv, lsn, rt, high, keys, vals, kids, (0 : Int)) else some (0, 0, 0, (⟨#[]⟩ : ByteArray), ([] : List ByteArray), ([] : List ByteArray), ([] : List Int), 5)) (partR (nodeB lv lsn rt high keys vals kids) lv lsn rt high keys vals kids) := by
 refine Ev.bind (right_ev lv lsn rt high keys vals kids hl hv hk hg) ?_
 unfold partR
 cases nodeB lv lsn rt high keys vals kids
 ·exact Ev.neg (by decide) (Ev.now _)
 ·exact Ev.pos rfl (Ev.now _)
theorem check_part (lv lsn rt : Int) (high : ByteArray) (keys vals : List ByteArray) (kids : List Int) (hl : keys.length * 16 ≤ 140737488351232) (hv : vals.length * 16 ≤ 140737488351232) :
  Ev (fun k => (page_Check.f k lv lsn rt high keys vals kids).bind fun c => if c = 0 then some (lv, lsn, rt, high, keys, vals, kids, (0 : Int)) else leftZ 5) (partR (nodeB lv lsn rt high keys vals kids) lv lsn rt high keys vals kids) := by
 refine Ev.bind (check_ev lv lsn rt high keys vals kids hl hv) ?_
 unfold partR
 cases nodeB lv lsn rt high keys vals kids
 ·exact Ev.neg (by decide) (Ev.now _)
 ·exact Ev.pos rfl (Ev.now _)
theorem rleft_leaf (lsn rt a2 : Int) (high k : ByteArray) (keys vals : List ByteArray) (hl : keys.length ≤ 256) (hvl : vals.length = keys.length) (hg : ∀ y ∈ keys, y.size ≤ 140737488351232) (p : Nat) (h1 : p ≤ keys.length) (h2 : ∀ j, j < p → cb (K keys j) (L k) < 0) (h3 : p < keys.length → 0 ≤ cb (K keys p) (L k)) : ∀ (d i : Nat), i ≤ p → p - i = d →
  Ev (fun n => latticeref07_Left.l0 n k keys (keys.length : Int) (i : Int) 0 lsn rt high keys vals [] 0 lsn a2 k (keys.take i) (vals.take i) []) (partR (nodeB 0 lsn a2 k (keys.take p) (vals.take p) []) 0 lsn a2 k (keys.take p) (vals.take p) []) := by
 have hsz : ∀ j : Nat, j < keys.length → (rdOf ByteArray.empty keys (j : Int)).size ≤ 140737488351232 := fun j hj => by
  rw [rd_get hj]
  exact hg _ (List.getElem_mem _)
 have fin := right_part 0 lsn a2 k (keys.take p) (vals.take p) [] (by rw [List.length_take]; omega) (by rw [List.length_take]; omega) (by decide) (fun y hy => hg y (List.mem_of_mem_take hy))
 intro d
 induction d with
 | zero =>
  intro i g1 g2
  obtain rfl : i = p := by omega
  refine Ev.step (fun _ => latticeref07_Left.l0.eq_2 _ _ _ _ _ _ _ _ _ _ _ _ _ _ _ _ _ _ _) ?_
  by_cases c : i < keys.length
  ·refine Ev.pos (by omega) (Ev.pos (by omega) (Ev.pos (by omega) (Ev.bind (cmp_ev _ _ (hsz i c)) (Ev.pos (h3 c) fin))))
  ·exact Ev.neg (by omega) fin
 | succ d ih =>
  intro i g1 g2
  have ih := ih (i + 1) (by omega) (by omega)
  refine Ev.step (fun _ => latticeref07_Left.l0.eq_2 _ _ _ _ _ _ _ _ _ _ _ _ _ _ _ _ _ _ _) ?_
  have hi : i < keys.length := by omega
  have hi2 : i < vals.length := by omega
  have hc : cb (L (rdOf ByteArray.empty keys (i : Int))) (L k) < 0 := h2 i (by omega)
  refine Ev.pos (by omega) (Ev.pos (by omega) (Ev.pos (by omega) (Ev.bind (cmp_ev _ _ (hsz i hi)) (Ev.neg (by omega) (Ev.pos (by rw [List.length_take]; omega) (Ev.bindc rfl (Ev.neg (by decide) (Ev.pos (by omega) (Ev.pos (by rw [List.length_take]; omega) ?_)))))))))
  rw [rd_get hi, rd_get hi2, take_more hi, take_more hi2, w64 (by omega) (by omega)]
  exact ih
theorem rleft_inner (lv lsn rt a2 : Int) (high k : ByteArray) (keys : List ByteArray) (kids : List Int) (h0 : 0 < lv) (hl : keys.length ≤ 256) (hkl : kids.length = keys.length + 1) (hg : ∀ y ∈ keys, y.size ≤ 140737488351232) (p : Nat) (h1 : p < keys.length) (h2 : ∀ j, j < p → cb (K keys j) (L k) < 0) (h3 : 0 ≤ cb (K keys p) (L k)) : ∀ (d i : Nat), i ≤ p → p - i = d →
  Ev (fun n => latticeref07_Left.l0 n k keys (keys.length : Int) (i : Int) lv lsn rt high keys [] kids lv lsn a2 k (keys.take i) [] (kids.take (i + 1))) (partR (nodeB lv lsn a2 k (keys.take p) [] (kids.take (p + 1))) lv lsn a2 k (keys.take p) [] (kids.take (p + 1))) := by
 have hsz : ∀ j : Nat, j < keys.length → (rdOf ByteArray.empty keys (j : Int)).size ≤ 140737488351232 := fun j hj => by
  rw [rd_get hj]
  exact hg _ (List.getElem_mem _)
 have fin := right_part lv lsn a2 k (keys.take p) [] (kids.take (p + 1)) (by rw [List.length_take]; omega) (by decide) (by rw [List.length_take]; omega) (fun y hy => hg y (List.mem_of_mem_take hy))
 intro d
 induction d with
 | zero =>
  intro i g1 g2
  obtain rfl : i = p := by omega
  refine Ev.step (fun _ => latticeref07_Left.l0.eq_2 _ _ _ _ _ _ _ _ _ _ _ _ _ _ _ _ _ _ _) ?_
  exact Ev.pos (by omega) (Ev.pos (by omega) (Ev.pos (by omega) (Ev.bind (cmp_ev _ _ (hsz i h1)) (Ev.pos h3 fin))))
 | succ d ih =>
  intro i g1 g2
  have ih := ih (i + 1) (by omega) (by omega)
  refine Ev.step (fun _ => latticeref07_Left.l0.eq_2 _ _ _ _ _ _ _ _ _ _ _ _ _ _ _ _ _ _ _) ?_
  have hi : i < keys.length := by omega
  have hi2 : i + 1 < kids.length := by omega
  have hc : cb (L (rdOf ByteArray.empty keys (i : Int))) (L k) < 0 := h2 i (by omega)
  have hw : wrap64 ((i : Int) + 1) = ((i + 1 : Nat) : Int) := by rw [w64 (by omega) (by omega)]; omega
  refine Ev.pos (by omega) (Ev.pos (by omega) (Ev.pos (by omega) (Ev.bind (cmp_ev _ _ (hsz i hi)) (Ev.neg (by omega) (Ev.pos (by rw [List.length_take]; omega) (Ev.bindc rfl (Ev.pos (by omega) (Ev.pos (by omega) (Ev.pos (by omega) (Ev.pos (by rw [List.length_take]; omega) ?_))))))))))
  rw [rd_get hi, hw, rdI_get hi2, take_more hi, take_more hi2]
  exact ih
theorem left_ev (lv lsn rt : Int) (high : ByteArray) (keys vals : List ByteArray) (kids : List Int) (hl : keys.length * 16 ≤ 140737488351232) (hv : vals.length * 16 ≤ 140737488351232) (hk : kids.length * 8 ≤ 140737488351232) (hg : ∀ y ∈ keys, y.size ≤ 140737488351232) (k : ByteArray) (num : Int) (hh : high.size ≤ 140737488351232) :
  ∃ r, Ev (fun n => leftG n lv lsn rt high keys vals kids k num) r ∧ Ev (fun n => latticeref07_Left.f n lv lsn rt high keys vals kids k num) r := by
 rcases parted_ev lv lsn rt high keys vals kids hl hv hk hg k num hh with ⟨e, he, e1, e2⟩ | ⟨hb, p, h1, h2, h3, h4, e1, e2⟩
 ·exact ⟨_, Ev.bind e1 (Ev.neg he (Ev.now _)), Ev.bind e2 (Ev.neg he (Ev.now _))⟩
 ·have h0 := nodeB_lv hb
  obtain ⟨hn, hle, hin⟩ := nodeB_small hb hh hl
  by_cases e : lv = 0
  ·subst e
   obtain ⟨rfl, hvl⟩ := hle rfl
   refine ⟨_, Ev.bind e1 (Ev.pos rfl (Ev.pos ⟨by omega, by omega, by omega, by omega, by decide⟩ (Ev.neg (by decide) (Ev.pos (by omega) (check_part _ _ _ _ _ _ _ (by rw [List.length_take]; omega) (by rw [List.length_take]; omega)))))), Ev.bind e2 (Ev.pos rfl (Ev.bindc rfl (Ev.neg (by decide) ?_)))⟩
   refine Ev.step (fun _ => latticeref07_Left.j0.eq_2 _ _ _ _ _ _ _ _ _ _ _ _ _ _ _ _) ?_
   exact rleft_leaf lsn rt num high k keys vals hn hvl hg p h1 h2 h3 _ 0 (Nat.zero_le _) rfl
  ·obtain ⟨rfl, hkl⟩ := hin e
   obtain ⟨c1, c2⟩ := h4 e
   have hp1 : (((p : Int) + 1).toNat) = p + 1 := by omega
   refine ⟨partR (nodeB lv lsn num k (keys.take p) [] (kids.take (p + 1))) lv lsn num k (keys.take p) [] (kids.take (p + 1)), Ev.bind e1 (Ev.pos rfl (Ev.pos ⟨by omega, by omega, by omega, by decide, by omega⟩ (Ev.pos (by omega) (Ev.pos (by dsimp only; omega) ?_)))), Ev.bind e2 (Ev.pos rfl (Ev.bindc rfl (Ev.pos (by omega) (Ev.pos (by omega) (Ev.pos (by show (0 : Nat) < 17592186044416; decide) ?_)))))⟩
   ·dsimp only
    rw [hp1, Int.toNat_natCast]
    exact check_part _ _ _ _ _ _ _ (by rw [List.length_take]; omega) (by decide)
   ·refine Ev.step (fun _ => latticeref07_Left.j0.eq_2 _ _ _ _ _ _ _ _ _ _ _ _ _ _ _ _) ?_
    have q := rleft_inner lv lsn rt num high k keys kids (by omega) hn hkl hg p c1 h2 (by omega) _ 0 (Nat.zero_le _) rfl
    have q2 : kids.take (0 + 1) = [] ++ [rd kids 0] := by
     have := take_more (l := kids) (i := 0) (by omega)
     rw [← this, ← rdI_get (by omega)]
     rfl
    rw [q2] at q
    exact q
theorem rrest_leaf (lsn rt : Int) (high k : ByteArray) (keys vals : List ByteArray) (hl : keys.length ≤ 256) (hvl : vals.length = keys.length) (hg : ∀ y ∈ keys, y.size ≤ 140737488351232) (p : Nat) (h3 : ∀ j, p ≤ j → j < keys.length → 0 ≤ cb (K keys j) (L k)) : ∀ (d i : Nat), p ≤ i → i ≤ keys.length → keys.length - i = d → ∀ ks vs : List ByteArray, ks.length ≤ i → vs.length ≤ i →
  Ev (fun n => latticeref07_Rest.l0 n k keys (keys.length : Int) (i : Int) 0 lsn rt high keys vals [] 0 lsn rt high ks vs []) (0, lsn, rt, high, ks ++ keys.drop i, vs ++ vals.drop i, [], 0) := by
 have hsz : ∀ j : Nat, j < keys.length → (rdOf ByteArray.empty keys (j : Int)).size ≤ 140737488351232 := fun j hj => by
  rw [rd_get hj]
  exact hg _ (List.getElem_mem _)
 intro d
 induction d with
 | zero =>
  intro i g0 g1 g2 ks vs l1 l2
  obtain rfl : i = keys.length := by omega
  refine Ev.step (fun _ => latticeref07_Rest.l0.eq_2 _ _ _ _ _ _ _ _ _ _ _ _ _ _ _ _ _ _ _) ?_
  rw [List.drop_length, show vals.drop keys.length = [] by rw [← hvl, List.drop_length], List.append_nil, List.append_nil]
  exact Ev.neg (by omega) (Ev.now _)
 | succ d ih =>
  intro i g0 g1 g2 ks vs l1 l2
  refine Ev.step (fun _ => latticeref07_Rest.l0.eq_2 _ _ _ _ _ _ _ _ _ _ _ _ _ _ _ _ _ _ _) ?_
  have hi : i < keys.length := by omega
  have hi2 : i < vals.length := by omega
  have hc : 0 ≤ cb (L (rdOf ByteArray.empty keys (i : Int))) (L k) := h3 i g0 hi
  refine Ev.pos (by omega) (Ev.pos (by omega) (Ev.pos (by omega) (Ev.bind (cmp_ev _ _ (hsz i hi)) (Ev.neg (by omega) (Ev.pos rfl (Ev.pos (by omega) (Ev.pos (by omega) (Ev.pos (by omega) ?_))))))))
  rw [rd_get hi, rd_get hi2, w64 (by omega) (by omega), List.drop_eq_getElem_cons hi, List.drop_eq_getElem_cons hi2]
  have := ih (i + 1) (by omega) (by omega) (by omega) (ks ++ [keys[i]]) (vs ++ [vals[i]]) (by simp; omega) (by simp; omega)
  rw [List.append_assoc, List.append_assoc] at this
  exact this
theorem rrest_inner (lv lsn rt : Int) (high k : ByteArray) (keys : List ByteArray) (kids : List Int) (h0 : 0 < lv) (hl : keys.length ≤ 256) (hkl : kids.length = keys.length + 1) (hg : ∀ y ∈ keys, y.size ≤ 140737488351232) (p : Nat) (h3 : ∀ j, p < j → j < keys.length → 0 < cb (K keys j) (L k)) : ∀ (d i : Nat), p < i → i ≤ keys.length → keys.length - i = d → ∀ (ks : List ByteArray) (vs : List Int), ks.length ≤ i → vs.length ≤ i →
  Ev (fun n => latticeref07_Rest.l0 n k keys (keys.length : Int) (i : Int) lv lsn rt high keys [] kids lv lsn rt high ks [] vs) (lv, lsn, rt, high, ks ++ keys.drop i, [], vs ++ kids.drop (i + 1), 0) := by
 have hsz : ∀ j : Nat, j < keys.length → (rdOf ByteArray.empty keys (j : Int)).size ≤ 140737488351232 := fun j hj => by
  rw [rd_get hj]
  exact hg _ (List.getElem_mem _)
 intro d
 induction d with
 | zero =>
  intro i g0 g1 g2 ks vs l1 l2
  obtain rfl : i = keys.length := by omega
  refine Ev.step (fun _ => latticeref07_Rest.l0.eq_2 _ _ _ _ _ _ _ _ _ _ _ _ _ _ _ _ _ _ _) ?_
  rw [List.drop_length, show kids.drop (keys.length + 1) = [] by rw [← hkl, List.drop_length], List.append_nil, List.append_nil]
  exact Ev.neg (by omega) (Ev.now _)
 | succ d ih =>
  intro i g0 g1 g2 ks vs l1 l2
  refine Ev.step (fun _ => latticeref07_Rest.l0.eq_2 _ _ _ _ _ _ _ _ _ _ _ _ _ _ _ _ _ _ _) ?_
  have hi : i < keys.length := by omega
  have hi2 : i + 1 < kids.length := by omega
  have q1 : (0 : Int) ≤ (i : Int) := by omega
  have q2 : (i : Int) < (keys.length : Int) := by omega
  have q4 : ¬ lv = 0 := by omega
  have q5 : ks.length < 8796093022208 := by omega
  have q6 : vs.length < 17592186044416 := by omega
  have q7 : (0 : Int) ≤ ((i + 1 : Nat) : Int) := by omega
  have q8 : ((i + 1 : Nat) : Int) < (kids.length : Int) := by omega
  have q9 : keys.length - (i + 1) = d := by omega
  have q10 : p < i + 1 := by omega
  have hc : 0 < cb (L (rdOf ByteArray.empty keys (i : Int))) (L k) := h3 i g0 hi
  have hw : wrap64 ((i : Int) + 1) = ((i + 1 : Nat) : Int) := by rw [w64 (by omega) (by omega)]; omega
  rw [hw]
  refine Ev.pos q2 (Ev.pos q1 (Ev.pos q2 (Ev.bind (cmp_ev _ _ (hsz i hi)) (Ev.neg (Int.not_lt.2 (Int.le_of_lt hc)) (Ev.neg q4 (Ev.pos hc (Ev.pos q5 (Ev.pos q7 (Ev.pos q8 (Ev.pos q6 ?_))))))))))
  rw [rd_get hi, rdI_get hi2, List.drop_eq_getElem_cons hi, List.drop_eq_getElem_cons hi2]
  have := ih (i + 1) q10 hi q9 (ks ++ [keys[i]]) (vs ++ [kids[i + 1]]) (by rw [List.length_append]; exact Nat.add_le_add_right l1 1) (by rw [List.length_append]; exact Nat.add_le_add_right l2 1)
  rw [List.append_assoc, List.append_assoc] at this
  exact this
theorem rrest_skip (lv lsn rt : Int) (high k : ByteArray) (keys vals : List ByteArray) (kids : List Int) (hl : keys.length ≤ 256) (hg : ∀ y ∈ keys, y.size ≤ 140737488351232) (p : Nat) (h1 : p ≤ keys.length) (h2 : ∀ j, j < p → cb (K keys j) (L k) < 0) (R : Int × Int × Int × ByteArray × List ByteArray × List ByteArray × List Int × Int)
  (hR : Ev (fun n => latticeref07_Rest.l0 n k keys (keys.length : Int) (p : Int) lv lsn rt high keys vals kids lv lsn rt high [] [] []) R) : ∀ (d i : Nat), i ≤ p → p - i = d →
  Ev (fun n => latticeref07_Rest.l0 n k keys (keys.length : Int) (i : Int) lv lsn rt high keys vals kids lv lsn rt high [] [] []) R := by
 have hsz : ∀ j : Nat, j < keys.length → (rdOf ByteArray.empty keys (j : Int)).size ≤ 140737488351232 := fun j hj => by
  rw [rd_get hj]
  exact hg _ (List.getElem_mem _)
 intro d
 induction d with
 | zero =>
  intro i g1 g2
  obtain rfl : i = p := by omega
  exact hR
 | succ d ih =>
  intro i g1 g2
  refine Ev.step (fun _ => latticeref07_Rest.l0.eq_2 _ _ _ _ _ _ _ _ _ _ _ _ _ _ _ _ _ _ _) ?_
  refine Ev.pos (by omega) (Ev.pos (by omega) (Ev.pos (by omega) (Ev.bind (cmp_ev _ _ (hsz i (by omega))) (Ev.pos (h2 i (by omega)) ?_))))
  rw [w64 (by omega) (by omega)]
  exact ih (i + 1) (by omega) (by omega)
theorem rest_ev (lv lsn rt : Int) (high : ByteArray) (keys vals : List ByteArray) (kids : List Int) (hl : keys.length * 16 ≤ 140737488351232) (hv : vals.length * 16 ≤ 140737488351232) (hk : kids.length * 8 ≤ 140737488351232) (hg : ∀ y ∈ keys, y.size ≤ 140737488351232) (k : ByteArray) (hh : high.size ≤ 140737488351232) :
  ∃ r, Ev (fun n => restG n lv lsn rt high keys vals kids k) r ∧ Ev (fun n => latticeref07_Rest.f n lv lsn rt high keys vals kids k) r := by
 rcases parted_ev lv lsn rt high keys vals kids hl hv hk hg k 1 hh with ⟨e, he, e1, e2⟩ | ⟨hb, p, h1, h2, h3, h4, e1, e2⟩
 ·exact ⟨_, Ev.bind e1 (Ev.neg he (Ev.now _)), Ev.bind e2 (Ev.neg he (Ev.now _))⟩
 ·have h0 := nodeB_lv hb
  obtain ⟨hn, hle, hin⟩ := nodeB_small hb hh hl
  obtain ⟨hs, _, _⟩ := nodeB_facts hb
  by_cases e : lv = 0
  ·subst e
   obtain ⟨rfl, hvl⟩ := hle rfl
   refine ⟨(0, lsn, rt, high, keys.drop p, vals.drop p, [], 0), Ev.bind e1 (Ev.pos rfl (Ev.pos ⟨by omega, by omega, by omega, by decide⟩ (Ev.neg (by decide) (Ev.pos (by dsimp only; omega) (Ev.now _))))), Ev.bind e2 (Ev.pos rfl (Ev.bindc rfl ?_))⟩
   refine rrest_skip 0 lsn rt high k keys vals [] hn hg p h1 h2 _ ?_ _ 0 (Nat.zero_le _) rfl
   have := rrest_leaf lsn rt high k keys vals hn hvl hg p (fun j j1 j2 => by
    rcases Nat.lt_or_eq_of_le j1 with c | c
    ·have := behind hs h3 j c j2; omega
    ·subst c; exact h3 j2) _ p (Nat.le_refl _) h1 rfl [] [] (Nat.zero_le _) (Nat.zero_le _)
   exact this
  ·obtain ⟨rfl, hkl⟩ := hin e
   obtain ⟨c1, c2⟩ := h4 e
   have hp1 : (((p : Int) + 1).toNat) = p + 1 := by omega
   have hw : wrap64 ((p : Int) + 1) = ((p + 1 : Nat) : Int) := by rw [w64 (by omega) (by omega)]; omega
   have c3 : cb (L (rdOf ByteArray.empty keys (p : Int))) (L k) = 0 := c2
   have hsz : (rdOf ByteArray.empty keys (p : Int)).size ≤ 140737488351232 := by
    rw [rd_get c1]
    exact hg _ (List.getElem_mem _)
   refine ⟨(lv, lsn, rt, high, keys.drop (p + 1), [], kids.drop (p + 1), 0), Ev.bind e1 (Ev.pos rfl (Ev.pos ⟨by omega, by omega, by decide, by omega⟩ (Ev.pos (by omega) (Ev.pos (by dsimp only; omega) ?_)))), Ev.bind e2 (Ev.pos rfl (Ev.bindc rfl ?_))⟩
   ·dsimp only
    rw [hp1]
    exact Ev.now _
   ·refine rrest_skip lv lsn rt high k keys [] kids hn hg p h1 h2 _ ?_ _ 0 (Nat.zero_le _) rfl
    refine Ev.step (fun _ => latticeref07_Rest.l0.eq_2 _ _ _ _ _ _ _ _ _ _ _ _ _ _ _ _ _ _ _) ?_
    refine Ev.pos (by omega) (Ev.pos (by omega) (Ev.pos (by omega) (Ev.bind (cmp_ev _ _ hsz) (Ev.neg (by omega) (Ev.neg e (Ev.neg (by omega) (Ev.pos (by omega) (Ev.pos (by omega) (Ev.pos (by decide) ?_)))))))))
    rw [hw, rdI_get (by omega), List.drop_eq_getElem_cons (show p + 1 < kids.length by omega)]
    have := rrest_inner lv lsn rt high k keys kids (by omega) hn hkl hg p (fun j j1 j2 => behind hs h3 j j1 j2) _ (p + 1) (by omega) (by omega) rfl [] [kids[p + 1]'(by omega)] (Nat.zero_le _) (by simp)
    exact this
end Go.Proofs.Ytcocmpblmkdmjaa.Pure
