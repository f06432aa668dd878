/- One winner in one epoch: plain (votes that were given never change; majorities meet). -/
import Derived.Test.YtjbddcaamefgaaaVoteSteps
import Derived.Test.YtjbddcaamefgaaaVoteTal
namespace Go.Proofs.Ytjbddcaamefgaaa.Vote
set_option linter.unusedVariables false
/-- how many of the first n hold -/
def cnt (f : Nat → Bool) : Nat → Nat
  | 0 => 0
  | n + 1 => cnt f n + (if f n then 1 else 0)
theorem cnt_meet (f g : Nat → Bool) : ∀ n, n < cnt f n + cnt g n → ∃ i, i < n ∧ f i = true ∧ g i = true
  | 0, h => by simp [cnt] at h
  | n + 1, h => by
    by_cases hb : f n = true ∧ g n = true
    · exact ⟨n, Nat.lt_succ_self n, hb.1, hb.2⟩
    · have h1 : n < cnt f n + cnt g n := by
        unfold cnt at h
        cases hf : f n <;> cases hg : g n <;> simp [hf, hg] at h hb ⊢ <;> omega
      obtain ⟨i, hi, h2⟩ := cnt_meet f g n h1
      exact ⟨i, by omega, h2⟩
/-- the voters' promises, the tallies, who has voted for whom -/
structure Elect where
  V : Nat → Int × Int
  T : Nat → Option (Int × (Nat → Bool))
  won : List (Int × Nat)
/-- H: the votes that were given -/
structure EInv (n : Nat) (k : Int) (E : Elect) (H : Nat → Int → Option Nat) : Prop where
  low : ∀ v, 0 ≤ (E.V v).1
  top : ∀ v, (E.V v).1 ≤ k
  tt : ∀ c e s, E.T c = some (e, s) → 0 ≤ e ∧ e ≤ k
  past : ∀ v e c, H v e = some c → e ≤ (E.V v).1
  now : ∀ v c, H v (E.V v).1 = some c → (E.V v).2 = (c : Int)
  tal : ∀ c e s, E.T c = some (e, s) → ∀ i, s i = true → H i e = some c
  wins : ∀ e c, (e, c) ∈ E.won → ∃ s : Nat → Bool, n < 2 * cnt s n ∧ ∀ i, s i = true → H i e = some c
def updF {α : Type} (f : Nat → α) (i : Nat) (a : α) : Nat → α := fun j => if j = i then a else f j
def voteH (H : Nat → Int → Option Nat) (v : Nat) (e : Int) (c : Nat) : Nat → Int → Option Nat := fun w f => if w = v ∧ f = e then some c else H w f
theorem voteH_old {H : Nat → Int → Option Nat} {v : Nat} {e : Int} {c : Nat} (h : ∀ d, H v e = some d → d = c) {w : Nat} {f : Int} {d : Nat} (hd : H w f = some d) : voteH H v e c w f = some d := by
  unfold voteH
  split
  · rename_i hw
    obtain ⟨rfl, rfl⟩ := hw
    rw [h d hd]
  · exact hd
/-- one winner in one epoch -/
theorem EInv.one {n : Nat} {k : Int} {E : Elect} {H : Nat → Int → Option Nat} (h : EInv n k E H) {e : Int} {c : Nat} {s : Nat → Bool} (ht : E.T c = some (e, s)) (hs : n < 2 * cnt s n) : ∀ d, (e, d) ∈ E.won → d = c := by
  intro d hd
  obtain ⟨s', hs', hv⟩ := h.wins e d hd
  obtain ⟨i, _, h1, h2⟩ := cnt_meet s s' n (by omega)
  have a := h.tal c e s ht i h1
  have b := hv i h2
  rw [a] at b
  injection b with b
  exact b.symm
/-- a win is noted -/
theorem EInv.note {n : Nat} {k : Int} {E : Elect} {H : Nat → Int → Option Nat} (h : EInv n k E H) {e : Int} {c : Nat} {s : Nat → Bool} (ht : E.T c = some (e, s)) (hs : n < 2 * cnt s n) : EInv n k { E with won := E.won ++ [(e, c)] } H := by
  refine ⟨h.low, h.top, h.tt, h.past, h.now, h.tal, fun f d hd => ?_⟩
  rcases List.mem_append.1 hd with hd | hd
  · exact h.wins f d hd
  · simp at hd
    obtain ⟨rfl, rfl⟩ := hd
    exact ⟨s, hs, h.tal d f s ht⟩
/-- a node stands -/
theorem EInv.stand {n : Nat} {k : Int} {E : Elect} {H : Nat → Int → Option Nat} (h : EInv n k E H) (c : Nat) :
    EInv n (k + 1) { E with V := updF E.V c ((E.V c).1 + 1, (c : Int)), T := updF E.T c (some ((E.V c).1 + 1, fun i => i == c)) } (voteH H c ((E.V c).1 + 1) c) := by
  have hno : ∀ d, H c ((E.V c).1 + 1) = some d → d = c := fun d hd => by have := h.past c _ d hd; omega
  refine ⟨fun v => ?_, fun v => ?_, fun d e s hd => ?_, fun v e d hd => ?_, fun v d hd => ?_, fun d e s hd i hi => ?_, fun e d hd => ?_⟩
  · have := h.low v
    have := h.low c
    unfold updF
    dsimp only
    split <;> (try dsimp only) <;> omega
  · have := h.top v
    have := h.top c
    unfold updF
    dsimp only
    split <;> (try dsimp only) <;> omega
  · have h1 := h.low c
    have h2 := h.top c
    unfold updF at hd
    dsimp only at hd
    split at hd
    · injection hd with hd
      injection hd with he _
      omega
    · have := h.tt d e s hd
      omega
  · unfold voteH at hd
    unfold updF
    dsimp only
    split at hd
    · rename_i hw
      obtain ⟨rfl, rfl⟩ := hw
      rw [if_pos rfl]
      exact Int.le_refl _
    · have := h.past v e d hd
      split
      · rename_i hvc
        subst hvc
        show e ≤ (E.V v).1 + 1
        omega
      · exact this
  · unfold updF at hd ⊢
    dsimp only at hd ⊢
    by_cases hvc : v = c
    · subst hvc
      rw [if_pos rfl] at hd ⊢
      unfold voteH at hd
      rw [if_pos ⟨rfl, rfl⟩] at hd
      injection hd with hd
      rw [hd]
    · rw [if_neg hvc] at hd ⊢
      unfold voteH at hd
      rw [if_neg (fun hh => hvc hh.1)] at hd
      exact h.now v d hd
  · unfold updF at hd
    dsimp only at hd
    split at hd
    · rename_i hdc
      subst hdc
      injection hd with hd
      injection hd with he hs
      subst hs
      subst he
      have : i = d := by simpa using hi
      subst this
      unfold voteH
      rw [if_pos ⟨rfl, rfl⟩]
    · exact voteH_old hno (h.tal d e s hd i hi)
  · obtain ⟨s, hs, hv⟩ := h.wins e d hd
    exact ⟨s, hs, fun i hi => voteH_old hno (hv i hi)⟩
/-- a voter is asked by c at e: it takes the epoch over, and gives its vote or not -/
theorem EInv.see {n : Nat} {k : Int} {E : Elect} {H : Nat → Int → Option Nat} (h : EInv n k E H) (v : Nat) {e : Int} (he : (E.V v).1 < e) (hk : e ≤ k) : EInv n k { E with V := updF E.V v (e, -1) } H := by
  have h0 := h.low v
  refine ⟨fun w => ?_, fun w => ?_, h.tt, fun w f d hd => ?_, fun w d hd => ?_, h.tal, h.wins⟩
  · have := h.low w
    unfold updF
    dsimp only
    split <;> (try dsimp only) <;> omega
  · have := h.top w
    unfold updF
    dsimp only
    split <;> (try dsimp only) <;> omega
  · have := h.past w f d hd
    unfold updF
    dsimp only
    split
    · rename_i hw
      subst hw
      show f ≤ e
      omega
    · exact this
  · unfold updF at hd ⊢
    dsimp only at hd ⊢
    split
    · rename_i hw
      subst hw
      rw [if_pos rfl] at hd
      have := h.past w _ d hd
      dsimp only at this
      omega
    · rename_i hw
      rw [if_neg hw] at hd
      exact h.now w d hd
theorem EInv.give {n : Nat} {k : Int} {E : Elect} {H : Nat → Int → Option Nat} (h : EInv n k E H) (v c : Nat) {e : Int} {s : Nat → Bool} (ht : E.T c = some (e, s)) (he : (E.V v).1 = e) (hf : (E.V v).2 = -1 ∨ (E.V v).2 = (c : Int)) :
    EInv n k { E with V := updF E.V v (e, (c : Int)), T := updF E.T c (some (e, fun i => s i || i == v)) } (voteH H v e c) := by
  have hno : ∀ d, H v e = some d → d = c := fun d hd => by
    rw [← he] at hd
    have := h.now v d hd
    rcases hf with hf | hf <;> omega
  refine ⟨fun w => ?_, fun w => ?_, fun d f t hd => ?_, fun w f d hd => ?_, fun w d hd => ?_, fun d f t hd i hi => ?_, fun f d hd => ?_⟩
  · have := h.low w
    have := h.low v
    unfold updF
    dsimp only
    split <;> (try dsimp only) <;> omega
  · have := h.top w
    have := h.top v
    unfold updF
    dsimp only
    split <;> (try dsimp only) <;> omega
  · unfold updF at hd
    dsimp only at hd
    split at hd
    · injection hd with hd
      injection hd with hd _
      subst hd
      exact h.tt c e s ht
    · exact h.tt d f t hd
  · unfold voteH at hd
    unfold updF
    dsimp only
    split at hd
    · rename_i hw
      obtain ⟨rfl, rfl⟩ := hw
      rw [if_pos rfl]
      exact Int.le_refl _
    · have := h.past w f d hd
      split
      · rename_i hw
        subst hw
        show f ≤ e
        omega
      · exact this
  · unfold updF at hd ⊢
    dsimp only at hd ⊢
    by_cases hw : w = v
    · subst hw
      rw [if_pos rfl] at hd ⊢
      unfold voteH at hd
      rw [if_pos ⟨rfl, rfl⟩] at hd
      injection hd with hd
      rw [hd]
    · rw [if_neg hw] at hd ⊢
      unfold voteH at hd
      rw [if_neg (fun hh => hw hh.1)] at hd
      exact h.now w d hd
  · unfold updF at hd
    dsimp only at hd
    split at hd
    · rename_i hdc
      subst hdc
      injection hd with hd
      injection hd with hf2 hs2
      subst hf2
      subst hs2
      by_cases hiv : i = v
      · subst hiv
        unfold voteH
        rw [if_pos ⟨rfl, rfl⟩]
      · have : s i = true := by simpa [hiv] using hi
        exact voteH_old hno (h.tal d e s ht i this)
    · exact voteH_old hno (h.tal d f t hd i hi)
  · obtain ⟨t, hs, hv⟩ := h.wins f d hd
    exact ⟨t, hs, fun i hi => voteH_old hno (hv i hi)⟩
/-- the ones of a set, counted -/
theorem pop_cnt : ∀ n, n < 8 → ∀ s, s < 2 ^ n → pop s = cnt s.testBit n := by decide +kernel
theorem won_cnt {n s : Nat} (hn : n ≤ 7) (hs : s < 2 ^ n) : decide (n / 2 < pop s) = decide (n < 2 * cnt s.testBit n) := by
  rw [pop_cnt n (by omega) s hs]
  exact decide_eq_decide.2 (by omega)
theorem bit_one (i : Nat) : (fun j => (2 ^ i).testBit j) = fun j => (j == i) := by
  funext j
  rw [Nat.testBit_two_pow]
  by_cases h : i = j
  · subst h; simp
  · simp [h]
    intro e
    exact h e.symm
theorem bit_or (s i : Nat) : (fun j => (s ||| 2 ^ i).testBit j) = fun j => s.testBit j || (j == i) := by
  funext j
  rw [Nat.testBit_or, Nat.testBit_two_pow]
  by_cases h : i = j
  · subst h; simp
  · have : (j == i) = false := by simp; exact fun e => h e.symm
    simp [h, this]
theorem or_lt {s i n : Nat} (hs : s < 2 ^ n) (hi : i < n) : s ||| 2 ^ i < 2 ^ n := Nat.or_lt_two_pow hs (Nat.pow_lt_pow_right (by decide) hi)
end Go.Proofs.Ytjbddcaamefgaaa.Vote
