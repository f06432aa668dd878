-- A part of the text PureParts, thinned by a program of this session.
import Derived.Test.YtcocmpblmkdmjaaANodePartsPureLooks
import Derived.Test.YtcocmpblmkdmjaaANodePartsPureBtw
import Derived.Test.YtcocmpblmkdmjaaANodePartsNodePartsW
import Derived.Test.YtcocmpblmkdmjaaANodePartsPrx4
import Derived.Test.YtcocmpblmkdmjaaANodePartsPrx8
import Derived.Test.YtcocmpblmkdmjaaANodePartsPrx11
namespace Go.Proofs.Ytcocmpblmkdmjaa.Pure
set_option linter.unusedVariables false
open Go.RowKit Go.Proofs.Ytcocmpblmkdmjaa.Pr Go.Proofs.YtcocmpblmkdmjaaW.PrintWords Go.Proofs.YtcocmpblmkdmjaaW.PrintLast
theorem sz_le (c : Nat) : ∀ l : List ByteArray, (∀ y ∈ l, y.size ≤ c) → 2 * (l.length : Int) ≤ sz l ∧ sz l ≤ (2 + (c : Int)) * (l.length : Int)
 | [], _ => by simp [sz]
 | x :: l, h => by
  have h1 := h x (by simp)
  have ⟨h2, h3⟩ := sz_le c l (fun y hy => h y (by simp [hy]))
  simp only [sz, List.length_cons]
  refine ⟨by omega, ?_⟩
  have : (2 + (c : Int)) * ((l.length + 1 : Nat) : Int) = (2 + (c : Int)) * (l.length : Int) + (2 + (c : Int)) := by
   rw [Int.natCast_add, Int.mul_add]; simp
  rw [this]
  omega
theorem keys_small {high : ByteArray} {keys : List ByteArray} (h : kAll high keys keys.length 0 = true) : ∀ y ∈ keys, y.size ≤ 16 := by
 intro y hy
 obtain ⟨j, hj, rfl⟩ := List.getElem_of_mem hy
 have := kAll_get _ 0 h j (Nat.zero_le _) (by omega)
 unfold kB at this
 simp only [Bool.and_eq_true, decide_eq_true_eq] at this
 have q := this.1
 rw [rd_get hj] at q
 unfold ckey at q
 by_cases z : keys[j].size = 0 ∨ 16 < keys[j].size
 ·rw [if_pos z] at q; cases q
 ·omega
theorem vals_small {vals : List ByteArray} (h : (!(vals.any badV)) = true) : ∀ y ∈ vals, y.size ≤ 32 := by
 intro y hy
 by_cases c : y.size ≤ 32
 ·exact c
 ·exfalso
  have : vals.any badV = true := List.any_eq_true.2 ⟨y, hy, by unfold badV; rw [decide_eq_true]; omega⟩
  rw [this] at h
  cases h
theorem nodeB_small {lv lsn rt : Int} {high : ByteArray} {keys vals : List ByteArray} {kids : List Int} (h : nodeB lv lsn rt high keys vals kids = true) (hh : high.size ≤ 140737488351232) (hl : keys.length * 16 ≤ 140737488351232) :
  keys.length ≤ 256 ∧ (lv = 0 → kids = [] ∧ vals.length = keys.length) ∧ (lv ≠ 0 → vals = [] ∧ kids.length = keys.length + 1) := by
 have h0 := h
 unfold nodeB at h
 simp only [Bool.and_eq_true, decide_eq_true_eq] at h
 obtain ⟨_, _, _, _, hp, hs, ha⟩ := h
 have hk := keys_small ha
 obtain ⟨s1, s2⟩ := sz_le 16 keys hk
 unfold szN at hs
 unfold partsB at hp
 by_cases e : lv = 0
 ·rw [if_pos e] at hp hs
  simp only [Bool.and_eq_true, decide_eq_true_eq] at hp
  obtain ⟨p1, p2, p3⟩ := hp
  obtain ⟨v1, v2⟩ := sz_le 32 vals (vals_small p3)
  rw [w64 (by omega) (by omega)] at hs
  exact ⟨by omega, fun _ => ⟨List.length_eq_zero_iff.1 p2, p1⟩, fun z => absurd e z⟩
 ·rw [if_neg e] at hp hs
  simp only [Bool.and_eq_true, decide_eq_true_eq] at hp
  obtain ⟨p1, p2, p3⟩ := hp
  rw [w64 (by omega) (by omega)] at hs
  exact ⟨by omega, fun z => absurd z e, fun _ => ⟨List.length_eq_zero_iff.1 p2, p1⟩⟩
def eS (lv : Int) (keys vals : List ByteArray) (i : Nat) : Int :=
 if lv = 0 then wrap64 ((wrap64 (4 + ((rdOf ByteArray.empty keys (i : Int)).size : Int))) + ((rdOf ByteArray.empty vals (i : Int)).size : Int)) else wrap64 (6 + ((rdOf ByteArray.empty keys (i : Int)).size : Int))
def eSum (lv : Int) (keys vals : List ByteArray) : Nat → Int
 | 0 => 0
 | i + 1 => wrap64 (eSum lv keys vals i + eS lv keys vals i)
def eLst (lv : Int) (keys vals : List ByteArray) (n : Nat) : List Int := (List.range n).map (eS lv keys vals)
theorem eLst_len (lv : Int) (keys vals : List ByteArray) (n : Nat) : (eLst lv keys vals n).length = n := by simp [eLst]
theorem eLst_succ (lv : Int) (keys vals : List ByteArray) (n : Nat) : eLst lv keys vals n ++ [eS lv keys vals n] = eLst lv keys vals (n + 1) := by simp [eLst, List.range_succ]
theorem eLst_rd (lv : Int) (keys vals : List ByteArray) (n i : Nat) (h : i < n) : rd (eLst lv keys vals n) (i : Int) = eS lv keys vals i := by
 rw [rdI_get (by rw [eLst_len]; exact h)]
 simp [eLst]
theorem eS_wrap (lv : Int) (keys vals : List ByteArray) (i : Nat) : wrap64 (eS lv keys vals i) = eS lv keys vals i := by
 unfold eS
 by_cases h : lv = 0
 ·rw [if_pos h, wrap_idem]
 ·rw [if_neg h, wrap_idem]
theorem eSum_one (lv : Int) (keys vals : List ByteArray) : eSum lv keys vals 1 = eS lv keys vals 0 := by
 show wrap64 (0 + eS lv keys vals 0) = _
 rw [Int.zero_add, eS_wrap]
theorem rsize (lv lsn rt : Int) (high : ByteArray) (keys vals : List ByteArray) (kids : List Int) (h0 : 0 ≤ lv) (hv : lv = 0 → vals.length = keys.length) (j : Nat) (hj : j < keys.length) : latticeref07_size.f lv lsn rt high keys vals kids (j : Int) = some (eS lv keys vals j) := by
 unfold latticeref07_size.f eS
 by_cases e : lv = 0
 ·have := hv e
  rw [if_neg (by omega), if_pos (by omega), if_pos (by omega), if_pos (by omega), if_pos e]
 ·rw [if_pos (by omega), if_pos (by omega), if_pos (by omega), if_neg e]
theorem parting_l0 (lv lsn rt : Int) (high : ByteArray) (keys vals : List ByteArray) (kids : List Int) (hl : keys.length ≤ 256) (h2 : 2 ≤ keys.length) (hv : lv = 0 → vals.length = keys.length) (R : Int)
  (hR : Ev (fun k => node_parting.l1 k (eLst lv keys vals keys.length) (eSum lv keys vals keys.length) 1 (eSum lv keys vals 1)) R) : ∀ (d i : Nat), i ≤ keys.length → keys.length - i = d →
  Ev (fun k => node_parting.l0 k (eLst lv keys vals i) (eSum lv keys vals i) keys (keys.length : Int) (i : Int) lv lsn rt high keys vals kids) R := by
 intro d
 induction d with
 | zero =>
  intro i h1 h2
  obtain rfl : i = keys.length := by omega
  refine Ev.step (fun _ => node_parting.l0.eq_2 _ _ _ _ _ _ _ _ _ _ _ _ _) ?_
  refine Ev.neg (by omega) (Ev.pos (by rw [eLst_len]; omega) ?_)
  rw [eSum_one, ← eLst_rd lv keys vals keys.length 0 (by omega)] at hR
  exact hR
 | succ d ih =>
  intro i h1 h2
  have ih := ih (i + 1) (by omega) (by omega)
  refine Ev.step (fun _ => node_parting.l0.eq_2 _ _ _ _ _ _ _ _ _ _ _ _ _) ?_
  refine Ev.pos (by omega) (Ev.pos (by omega) (Ev.pos (by omega) ?_))
  rw [← eLst_succ] at ih
  by_cases e : lv = 0
  ·have := hv e
   refine Ev.pos e (Ev.pos (by omega) (Ev.pos (by rw [eLst_len]; omega) ?_))
   rw [w64 (x := (i : Int) + 1) (by omega) (by omega)]
   have q : wrap64 ((wrap64 (4 + ((rdOf ByteArray.empty keys (i : Int)).size : Int))) + ((rdOf ByteArray.empty vals (i : Int)).size : Int)) = eS lv keys vals i := by unfold eS; rw [if_pos e]
   rw [q]
   exact ih
  ·refine Ev.neg e (Ev.pos (by rw [eLst_len]; omega) ?_)
   rw [w64 (x := (i : Int) + 1) (by omega) (by omega)]
   have q : wrap64 (6 + ((rdOf ByteArray.empty keys (i : Int)).size : Int)) = eS lv keys vals i := by unfold eS; rw [if_neg e]
   rw [q]
   exact ih
theorem rsplit_l2 (lv lsn rt : Int) (high : ByteArray) (keys vals : List ByteArray) (kids : List Int) (hl : keys.length ≤ 256) (h0 : 0 ≤ lv) (hv : lv = 0 → vals.length = keys.length) (i : Nat) (hi : i < keys.length) (all : Int) (r : ByteArray × Int)
  (hr : Ev (fun k => if wrap64 (2 * eSum lv keys vals i) ≥ all then latticeref07_Split.j3 k (keys.length : Int) all (i : Int) true lv lsn rt high keys vals kids else latticeref07_Split.j3 k (keys.length : Int) all (i : Int) ((i : Int) == wrap64 ((keys.length : Int) - 1)) lv lsn rt high keys vals kids) r) : ∀ (d j : Nat), j ≤ i → i - j = d →
  Ev (fun k => latticeref07_Split.l2 k (keys.length : Int) all (i : Int) (eSum lv keys vals j) (j : Int) lv lsn rt high keys vals kids) r := by
 intro d
 induction d with
 | zero =>
  intro j h1 h2
  obtain rfl : j = i := by omega
  refine Ev.step (fun _ => latticeref07_Split.l2.eq_2 _ _ _ _ _ _ _ _ _ _ _ _ _) ?_
  exact Ev.neg (by omega) hr
 | succ d ih =>
  intro j h1 h2
  refine Ev.step (fun _ => latticeref07_Split.l2.eq_2 _ _ _ _ _ _ _ _ _ _ _ _ _) ?_
  refine Ev.pos (by omega) (Ev.bindc (rsize lv lsn rt high keys vals kids h0 hv j (by omega)) ?_)
  rw [w64 (x := (j : Int) + 1) (by omega) (by omega)]
  exact ih (j + 1) (by omega) (by omega)
theorem split_loop (lv lsn rt : Int) (high : ByteArray) (keys vals : List ByteArray) (kids : List Int) (hl : keys.length ≤ 256) (h0 : 0 ≤ lv) (hv : lv = 0 → vals.length = keys.length) : ∀ (d i : Nat), 1 ≤ i → i < keys.length → keys.length - 1 - i = d →
  ∃ p : Nat, 1 ≤ p ∧ p < keys.length ∧ Ev (fun k => node_parting.l1 k (eLst lv keys vals keys.length) (eSum lv keys vals keys.length) (i : Int) (eSum lv keys vals i)) (p : Int) ∧
   ∀ r, Ev (fun k => latticeref07_Split.j3 k (keys.length : Int) (eSum lv keys vals keys.length) (p : Int) true lv lsn rt high keys vals kids) r → Ev (fun k => latticeref07_Split.l1 k (keys.length : Int) (eSum lv keys vals keys.length) (i : Int) lv lsn rt high keys vals kids) r := by
 intro d
 induction d with
 | zero =>
  intro i h1 h2 h3
  refine ⟨i, h1, h2, ?_, fun r hr => ?_⟩
  ·refine Ev.step (fun _ => node_parting.l1.eq_2 _ _ _ _ _) ?_
   by_cases c : wrap64 (2 * eSum lv keys vals i) < eSum lv keys vals keys.length
   ·refine Ev.pos c (Ev.neg ?_ (Ev.now _))
    rw [eLst_len, w64 (by omega) (by omega)]
    omega
   ·exact Ev.neg c (Ev.now _)
  ·refine Ev.step (fun _ => latticeref07_Split.l1.eq_2 _ _ _ _ _ _ _ _ _ _ _) ?_
   refine Ev.pos (by omega) (rsplit_l2 lv lsn rt high keys vals kids hl h0 hv i h2 _ r ?_ _ 0 (Nat.zero_le _) rfl)
   by_cases c : wrap64 (2 * eSum lv keys vals i) ≥ eSum lv keys vals keys.length
   ·exact Ev.pos c hr
   ·refine Ev.neg c ?_
    have e : ((i : Int) == wrap64 ((keys.length : Int) - 1)) = true := by
     rw [w64 (by omega) (by omega), beq_iff_eq]
     omega
    rw [e]
    exact hr
 | succ d ih =>
  intro i h1 h2 h3
  by_cases c : wrap64 (2 * eSum lv keys vals i) < eSum lv keys vals keys.length
  ·obtain ⟨p, p1, p2, p3, p4⟩ := ih (i + 1) (by omega) (by omega) (by omega)
   refine ⟨p, p1, p2, ?_, fun r hr => ?_⟩
   ·refine Ev.step (fun _ => node_parting.l1.eq_2 _ _ _ _ _) ?_
    refine Ev.pos c (Ev.pos (by rw [eLst_len, w64 (by omega) (by omega)]; omega) (Ev.pos (by omega) (Ev.pos (by rw [eLst_len]; omega) ?_)))
    rw [eLst_rd lv keys vals keys.length i h2, w64 (x := (i : Int) + 1) (by omega) (by omega)]
    exact p3
   ·refine Ev.step (fun _ => latticeref07_Split.l1.eq_2 _ _ _ _ _ _ _ _ _ _ _) ?_
    refine Ev.pos (by omega) (rsplit_l2 lv lsn rt high keys vals kids hl h0 hv i h2 _ r ?_ _ 0 (Nat.zero_le _) rfl)
    refine Ev.neg (by omega) ?_
    have e : ((i : Int) == wrap64 ((keys.length : Int) - 1)) = false := by
     rw [w64 (by omega) (by omega), beq_eq_false_iff_ne]
     omega
    rw [e]
    refine Ev.step (fun _ => latticeref07_Split.j3.eq_2 _ _ _ _ _ _ _ _ _ _ _ _) ?_
    refine Ev.neg (by decide) ?_
    rw [w64 (x := (i : Int) + 1) (by omega) (by omega)]
    exact p4 r hr
  ·refine ⟨i, h1, h2, ?_, fun r hr => ?_⟩
   ·refine Ev.step (fun _ => node_parting.l1.eq_2 _ _ _ _ _) ?_
    exact Ev.neg c (Ev.now _)
   ·refine Ev.step (fun _ => latticeref07_Split.l1.eq_2 _ _ _ _ _ _ _ _ _ _ _) ?_
    refine Ev.pos (by omega) (rsplit_l2 lv lsn rt high keys vals kids hl h0 hv i h2 _ r ?_ _ 0 (Nat.zero_le _) rfl)
    exact Ev.pos (by omega) hr
theorem rsplit_l0 (lv lsn rt : Int) (high : ByteArray) (keys vals : List ByteArray) (kids : List Int) (hl : keys.length ≤ 256) (h0 : 0 ≤ lv) (hv : lv = 0 → vals.length = keys.length) (r : ByteArray × Int)
  (hr : Ev (fun k => latticeref07_Split.l1 k (keys.length : Int) (eSum lv keys vals keys.length) 1 lv lsn rt high keys vals kids) r) : ∀ (d i : Nat), i ≤ keys.length → keys.length - i = d →
  Ev (fun k => latticeref07_Split.l0 k (keys.length : Int) (eSum lv keys vals i) (keys.length : Int) (i : Int) lv lsn rt high keys vals kids) r := by
 intro d
 induction d with
 | zero =>
  intro i h1 h2
  obtain rfl : i = keys.length := by omega
  refine Ev.step (fun _ => latticeref07_Split.l0.eq_2 _ _ _ _ _ _ _ _ _ _ _ _) ?_
  exact Ev.neg (by omega) hr
 | succ d ih =>
  intro i h1 h2
  refine Ev.step (fun _ => latticeref07_Split.l0.eq_2 _ _ _ _ _ _ _ _ _ _ _ _) ?_
  refine Ev.pos (by omega) (Ev.bindc (rsize lv lsn rt high keys vals kids h0 hv i (by omega)) ?_)
  rw [w64 (x := (i : Int) + 1) (by omega) (by omega)]
  exact ih (i + 1) (by omega) (by omega)
def sepK (lv : Int) (keys : List ByteArray) (p : Nat) : ByteArray :=
 if lv > 0 then rdOf ByteArray.empty keys (p : Int) else (rdOf ByteArray.empty keys (p : Int)).extract 0 (com (K keys (p - 1)) (K keys p) + 1)
theorem split_val (lv lsn rt : Int) (high : ByteArray) (keys vals : List ByteArray) (kids : List Int) (hl : keys.length * 16 ≤ 140737488351232) (hv : vals.length * 16 ≤ 140737488351232) (hk : kids.length * 8 ≤ 140737488351232) (hg : ∀ y ∈ keys, y.size ≤ 140737488351232) (hh : high.size ≤ 140737488351232)
  (hb : nodeB lv lsn rt high keys vals kids = true) (h2 : 2 ≤ keys.length) : ∃ p : Nat, 1 ≤ p ∧ p < keys.length ∧ Ev (fun n => node_Split.f n lv lsn rt high keys vals kids) (sepK lv keys p, 0) ∧ Ev (fun n => latticeref07_Split.f n lv lsn rt high keys vals kids) (sepK lv keys p, 0) := by
 have hc := check_ev lv lsn rt high keys vals kids hl hv
 have hr := right_ev lv lsn rt high keys vals kids hl hv hk hg
 rw [if_pos hb] at hc
 rw [hb] at hr
 have h0 := nodeB_lv hb
 obtain ⟨hn, hle, _⟩ := nodeB_small hb hh hl
 obtain ⟨ha, _, _⟩ := nodeB_facts hb
 have hvl : lv = 0 → vals.length = keys.length := fun e => (hle e).2
 obtain ⟨p, p1, p2, p3, p4⟩ := split_loop lv lsn rt high keys vals kids hn h0 hvl _ 1 (Nat.le_refl _) (by omega) rfl
 have hsz : ∀ j : Nat, j < keys.length → (rdOf ByteArray.empty keys (j : Int)).size ≤ 140737488351232 := fun j hj => by
  rw [rd_get hj]
  exact hg _ (List.getElem_mem _)
 have hp1 : wrap64 ((p : Int) - 1) = ((p - 1 : Nat) : Int) := by rw [w64 (by omega) (by omega)]; omega
 have hadj := adj ha p (by omega) p2
 refine ⟨p, p1, p2, ?_, ?_⟩
 ·unfold node_Split.f
  refine Ev.bind hc (Ev.pos rfl (Ev.neg (by omega) (Ev.bind (parting_l0 lv lsn rt high keys vals kids hn h2 hvl _ p3 _ 0 (Nat.zero_le _) rfl) ?_)))
  by_cases e : lv > 0
  ·have q : sepK lv keys p = rdOf ByteArray.empty keys (p : Int) := if_pos e
   rw [q]
   exact Ev.pos e (Ev.pos (by omega) (Ev.pos (by omega) (Ev.now _)))
  ·have q : sepK lv keys p = (rdOf ByteArray.empty keys (p : Int)).extract 0 (com (K keys (p - 1)) (K keys p) + 1) := if_neg e
   rw [q, hp1]
   refine Ev.neg e (Ev.pos (by omega) (Ev.pos (by omega) (Ev.pos (by omega) (Ev.pos (by omega) ?_))))
   exact Ev.bindc (keyBetween_lt _ _ (hsz _ (by omega)) (hsz _ p2) hadj) (Ev.now _)
 ·unfold latticeref07_Split.f
  refine Ev.bind hr (Ev.pos rfl (Ev.neg (by omega) (rsplit_l0 lv lsn rt high keys vals kids hn h0 hvl _ (p4 _ ?_) _ 0 (Nat.zero_le _) rfl)))
  refine Ev.step (fun _ => latticeref07_Split.j3.eq_2 _ _ _ _ _ _ _ _ _ _ _ _) ?_
  refine Ev.pos rfl ?_
  by_cases e : lv > 0
  ·have q : sepK lv keys p = rdOf ByteArray.empty keys (p : Int) := if_pos e
   rw [q]
   exact Ev.pos e (Ev.pos (by omega) (Ev.pos (by omega) (Ev.now _)))
  ·have q : sepK lv keys p = (rdOf ByteArray.empty keys (p : Int)).extract 0 (com (K keys (p - 1)) (K keys p) + 1) := if_neg e
   rw [q, hp1]
   refine Ev.neg e (Ev.pos (by omega) (Ev.pos (by omega) (Ev.pos (by omega) (Ev.pos (by omega) ?_))))
   exact Ev.bind (refBetween_lt _ _ (hsz _ p2) hadj _ 0 (Nat.zero_le _) rfl) (Ev.now _)
theorem split_ev (lv lsn rt : Int) (high : ByteArray) (keys vals : List ByteArray) (kids : List Int) (hl : keys.length * 16 ≤ 140737488351232) (hv : vals.length * 16 ≤ 140737488351232) (hk : kids.length * 8 ≤ 140737488351232) (hg : ∀ y ∈ keys, y.size ≤ 140737488351232) (hh : high.size ≤ 140737488351232) :
  ∃ r, Ev (fun n => node_Split.f n lv lsn rt high keys vals kids) r ∧ Ev (fun n => latticeref07_Split.f n lv lsn rt high keys vals kids) r := by
 have hc := check_ev lv lsn rt high keys vals kids hl hv
 have hr := right_ev lv lsn rt high keys vals kids hl hv hk hg
 by_cases hb : nodeB lv lsn rt high keys vals kids = true
 ·by_cases h2 : 2 ≤ keys.length
  ·obtain ⟨p, _, _, e1, e2⟩ := split_val lv lsn rt high keys vals kids hl hv hk hg hh hb h2
   exact ⟨_, e1, e2⟩
  ·rw [if_pos hb] at hc
   rw [hb] at hr
   exact ⟨_, Ev.bind hc (Ev.pos rfl (Ev.pos (by omega) (Ev.now _))), Ev.bind hr (Ev.pos rfl (Ev.pos (by omega) (Ev.now _)))⟩
 ·rw [if_neg hb] at hc
  exact ⟨_, Ev.bind hc (Ev.neg (by decide) (Ev.now _)), Ev.bind hr (Ev.neg hb (Ev.now _))⟩
end Go.Proofs.Ytcocmpblmkdmjaa.Pure
