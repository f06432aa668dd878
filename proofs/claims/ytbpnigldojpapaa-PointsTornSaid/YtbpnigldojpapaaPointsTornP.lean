/- What was written is read again: plain laws of checkpoints; which of two slots counts, when one is torn. -/
import Derived.Test.YtbpnigldojpapaaPointsLaw
namespace Go.Proofs.Ytbpnigldojpapaa.Points
open Go.RowKit Go.Proofs.YtbpnigldojpapaaW.PrintWords Go.Proofs.YtbpnigldojpapaaW.PrintLast Go.Proofs.YtbpnigldojpapaaW.PrintMore Go.Proofs.Ytbpnigldojpapaa.Wire Go.Proofs.Ytbpnigldojpapaa.Crc
open Go.Proofs.Ytbpnigldojpapaa.Back (AllB numB numB_small numB_eight hor hor_last)
set_option linter.unusedVariables false
set_option linter.unusedSimpArgs false
theorem hor_le : ∀ (k : Nat) (n : Int), 0 ≤ n → n < 256 ^ k → (hor (le n k) : Int) = n
  | 0, n, h0, h1 => by simp at h1; simp [le, hor]; omega
  | k + 1, n, h0, h1 => by
    rw [le, hor]
    have h2 : n / 256 < 256 ^ k := by
      rw [Int.pow_succ] at h1
      omega
    have ih := hor_le k (n / 256) (by omega) h2
    have : (n % 256).toNat = n % 256 := by omega
    rw [Int.natCast_add, Int.natCast_mul, ih, this]
    omega
theorem numB_le8 {n : Int} (h0 : 0 ≤ n) (h1 : n < 9223372036854775808) : numB (le n 8) = n := by
  have hb := le_AllB' 8 n
  have hl := le_length n 8
  have hh := hor_le 8 n h0 (Int.lt_of_lt_of_le h1 (by decide))
  have h7 := (hor_last hl hb).1 (by omega)
  rw [(numB_eight hb hl).1 h7, hh]
theorem rdNum_le8 {n : Int} (h0 : 0 ≤ n) (h1 : n < 9223372036854775808) (rest : List Int) : rdNum (le n 8 ++ rest) 0 8 = ((n, 0), (rest, 0)) := by
  unfold rdNum
  have hl := le_length n 8
  rw [if_neg (by decide), if_neg (by simp), if_neg (by rw [List.length_append, hl]; omega), show (8 : Int).toNat = 8 from rfl]
  have ht : (le n 8 ++ rest).take 8 = le n 8 := by rw [List.take_append_of_le_length (by omega), List.take_of_length_le (by omega)]
  have hd : (le n 8 ++ rest).drop 8 = rest := by rw [List.drop_append_of_le_length (by omega), List.drop_of_length_le (by omega)]; rfl
  rw [ht, hd, numB_le8 h0 h1, if_neg (by omega)]
theorem opOf_seal {xs : List Int} (hb : AllB xs) : opOf (xs ++ le (sumOf xs : Int) 4) = (xs, 0) := by
  have hl : (xs ++ le (sumOf xs : Int) 4).length - 4 = xs.length := by rw [List.length_append, le_length]; omega
  unfold opOf
  rw [if_neg (by rw [List.length_append, le_length]; omega), hl, List.drop_left, List.take_left, if_neg]
  exact fun h => h ((four_eq (le_length _ _) (le_AllB' _ _) (sum_lt hb)).2 rfl)
theorem dec_enc {n l r : Int} (h : okPt n l r = true) : decF (encB n l r ++ le (sumOf (encB n l r) : Int) 4) = ((n, l, r), 0) := by
  have hk := okPt_iff.1 h
  have hl := encB_length n l r
  have hl2 : (encB n l r ++ le (sumOf (encB n l r) : Int) 4).length = 28 := by rw [List.length_append, hl, le_length]
  unfold decF
  rw [if_neg (by omega), List.take_of_length_le (by omega), opOf_seal (encB_AllB n l r), if_neg (by simp)]
  rw [show (encB n l r ++ le (sumOf (encB n l r) : Int) 4).take 24 = encB n l r by rw [List.take_append_of_le_length (by omega), List.take_of_length_le (by omega)]]
  have e1 : rdNum (encB n l r) 0 8 = ((n, 0), (le l 8 ++ le r 8, 0)) := by
    unfold encB
    rw [List.append_assoc]
    exact rdNum_le8 (by omega) (by omega) _
  have e2 : rdNum (le l 8 ++ le r 8) 0 8 = ((l, 0), (le r 8, 0)) := rdNum_le8 (by omega) (by omega) _
  have e3 : rdNum (le r 8) 0 8 = ((r, 0), ([], 0)) := by
    have := rdNum_le8 (n := r) (by omega) (by omega) []
    rwa [List.append_nil] at this
  unfold decY
  rw [e1]
  dsimp only
  rw [e2]
  dsimp only
  rw [e3]
  unfold decV
  rw [if_pos ⟨rfl, h⟩]
/-- Where the checkpoint lies that counts. -/
def Held (d0 d1 : Dec) (p : Int × Int × Int) : Prop := (p = (0, 0, 0) ∧ d0.2 ≠ 0 ∧ d1.2 ≠ 0) ∨ (1 ≤ p.1 ∧ ∃ at_ : Int, chooseD d0 d1 = (p, at_, 0) ∧ ((at_ = 0 ∧ d0 = (p, 0)) ∨ (at_ = 1 ∧ d1 = (p, 0))))
theorem ch_none {da db : Dec} (h : da.2 ≠ 0) (k : db.2 ≠ 0) : chooseD da db = ((0, 0, 0), 0, 6) := by unfold chooseD; rw [if_pos ⟨h, k⟩]
theorem ch_a {da db : Dec} (h : da.2 = 0) (k : db.2 ≠ 0 ∨ db.1.1 ≤ da.1.1) : chooseD da db = (da.1, 0, 0) := by
  unfold chooseD
  rw [if_neg (fun e => e.1 h), if_pos ⟨h, k⟩]
theorem ch_b {da db : Dec} (h : db.2 = 0) (k : da.2 ≠ 0 ∨ da.1.1 < db.1.1) : chooseD da db = (db.1, 1, 0) := by
  unfold chooseD
  rw [if_neg (fun e => e.2 h), if_neg]
  rintro ⟨e, f⟩
  rcases k with k | k
  · exact k e
  · rcases f with f | f
    · exact f h
    · omega
/-- The slot that is written next. -/
def slotOf (d0 d1 : Dec) : Int := if (chooseD d0 d1).2.2 = 0 then 1 - (chooseD d0 d1).2.1 else 0
theorem held_next {d0 d1 : Dec} {p : Int × Int × Int} (h : Held d0 d1 p) : (chooseD d0 d1).1 = p ∧ ((slotOf d0 d1 = 0 ∧ ((p = (0, 0, 0) ∧ d1.2 ≠ 0) ∨ (1 ≤ p.1 ∧ d1 = (p, 0)))) ∨ (slotOf d0 d1 = 1 ∧ 1 ≤ p.1 ∧ d0 = (p, 0))) := by
  unfold slotOf
  rcases h with ⟨rfl, h0, h1⟩ | ⟨hp, at_, hc, ⟨rfl, h0⟩ | ⟨rfl, h0⟩⟩
  · rw [ch_none h0 h1]
    exact ⟨rfl, .inl ⟨rfl, .inl ⟨rfl, h1⟩⟩⟩
  · rw [hc]
    exact ⟨rfl, .inr ⟨rfl, hp, h0⟩⟩
  · rw [hc]
    exact ⟨rfl, .inl ⟨rfl, .inr ⟨hp, h0⟩⟩⟩
/-- What a torn one leaves. -/
def TornOk (p q : Int × Int × Int) (R : (Int × Int × Int) × Int × Int) : Prop := (p.1 = 0 → R.2.2 ≠ 0 ∨ R.1 = q) ∧ (p.1 ≠ 0 → R.2.2 = 0 ∧ (R.1 = p ∨ R.1 = q))
theorem full0 {d1 X : Dec} {p : Int × Int × Int} {l r : Int} (h : (p = (0, 0, 0) ∧ d1.2 ≠ 0) ∨ (1 ≤ p.1 ∧ d1 = (p, 0))) (hX : X = ((p.1 + 1, l, r), 0)) : chooseD X d1 = ((p.1 + 1, l, r), 0, 0) ∧ Held X d1 (p.1 + 1, l, r) := by
  subst hX
  have hc : chooseD (((p.1 + 1, l, r), 0) : Dec) d1 = ((p.1 + 1, l, r), 0, 0) := by
    apply ch_a rfl
    rcases h with ⟨_, h⟩ | ⟨_, rfl⟩
    · exact .inl h
    · exact .inr (by show p.1 ≤ p.1 + 1; omega)
  refine ⟨hc, .inr ⟨?_, 0, hc, .inl ⟨rfl, rfl⟩⟩⟩
  show 1 ≤ p.1 + 1
  rcases h with ⟨rfl, _⟩ | ⟨h, _⟩
  · decide
  · omega
theorem full1 {d0 X : Dec} {p : Int × Int × Int} {l r : Int} (h : 1 ≤ p.1) (h0 : d0 = (p, 0)) (hX : X = ((p.1 + 1, l, r), 0)) : chooseD d0 X = ((p.1 + 1, l, r), 1, 0) ∧ Held d0 X (p.1 + 1, l, r) := by
  subst hX
  subst h0
  have hc : chooseD ((p, 0) : Dec) ((p.1 + 1, l, r), 0) = ((p.1 + 1, l, r), 1, 0) := ch_b rfl (.inr (by show p.1 < p.1 + 1; omega))
  exact ⟨hc, .inr ⟨by show 1 ≤ p.1 + 1; omega, 1, hc, .inr ⟨rfl, rfl⟩⟩⟩
theorem torn0 {d1 X : Dec} {p : Int × Int × Int} {l r : Int} (hg : Good X) (h : (p = (0, 0, 0) ∧ d1.2 ≠ 0) ∨ (1 ≤ p.1 ∧ d1 = (p, 0))) (hX : X.2 ≠ 0 ∨ X.1 = (p.1 + 1, l, r) ∨ X.1 = p) : TornOk p (p.1 + 1, l, r) (chooseD X d1) := by
  have hn := hg.nonneg
  by_cases e : X.2 = 0
  · have h1 := hn.2.2.1 e
    rcases hX with hX | hX | hX
    · exact absurd e hX
    · rcases h with ⟨rfl, h⟩ | ⟨hp, rfl⟩
      · rw [ch_a e (.inl h)]
        exact ⟨fun _ => .inr hX, fun h => absurd rfl h⟩
      · rw [ch_a e (.inr (by rw [hX]; show p.1 ≤ p.1 + 1; omega))]
        exact ⟨fun h => by omega, fun _ => ⟨rfl, .inr hX⟩⟩
    · rcases h with ⟨rfl, h⟩ | ⟨hp, rfl⟩
      · rw [hX] at h1
        exact absurd h1 (by decide)
      · rw [ch_a e (.inr (by rw [hX]; exact Int.le_refl _))]
        exact ⟨fun h => by omega, fun _ => ⟨rfl, .inl hX⟩⟩
  · rcases h with ⟨rfl, h⟩ | ⟨hp, rfl⟩
    · rw [ch_none e h]
      exact ⟨fun _ => .inl (by decide), fun h => absurd rfl h⟩
    · rw [ch_b rfl (.inl e)]
      exact ⟨fun h => by omega, fun _ => ⟨rfl, .inl rfl⟩⟩
theorem torn1 {d0 X : Dec} {p : Int × Int × Int} {l r : Int} (hg : Good X) (hp : 1 ≤ p.1) (h0 : d0 = (p, 0)) (hX : X.2 ≠ 0 ∨ X.1 = (p.1 + 1, l, r) ∨ X.1 = p) : TornOk p (p.1 + 1, l, r) (chooseD d0 X) := by
  subst h0
  refine ⟨fun h => by omega, fun _ => ?_⟩
  by_cases e : X.2 = 0
  · rcases hX with hX | hX | hX
    · exact absurd e hX
    · rw [ch_b e (.inr (by rw [hX]; show p.1 < p.1 + 1; omega))]
      exact ⟨rfl, .inr hX⟩
    · rw [ch_a rfl (.inr (by rw [hX]; exact Int.le_refl _))]
      exact ⟨rfl, .inl rfl⟩
  · rw [ch_a rfl (.inl e)]
    exact ⟨rfl, .inl rfl⟩
theorem eqPt (W : World) (a b c a' b' c' : Int) : (binOp .eql 34 (.agg #[.int .i64 a, .int .i64 b, .int .i64 c]) (.agg #[.int .i64 a', .int .i64 b', .int .i64 c'])).run Try.prog W = .ok (.bool (a == a' && (b == b' && c == c'))) W := by
  rw [run_eql_struct, eqA_of (d := 9999) (r := (a == a' && (b == b' && c == c'))) Try.underlying34 (by kernel_rfl)]
  · rfl
  · exact eqf_cons (a := .int .i64 a) (b := .int .i64 a') (by decide) (by kernel_rfl) (by kernel_rfl) (by kernel_rfl) (eqf_cons (a := .int .i64 b) (b := .int .i64 b') (by decide) (by kernel_rfl) (by kernel_rfl) (by kernel_rfl) (eqf_last (a := .int .i64 c) (b := .int .i64 c') (by decide) (by kernel_rfl) (by kernel_rfl) (by kernel_rfl)))
theorem nePt (W : World) (a b c a' b' c' : Int) : (binOp .neq 34 (.agg #[.int .i64 a, .int .i64 b, .int .i64 c]) (.agg #[.int .i64 a', .int .i64 b', .int .i64 c'])).run Try.prog W = .ok (.bool (!(a == a' && (b == b' && c == c')))) W := by
  rw [run_neq_struct, eqA_of (d := 9999) (r := (a == a' && (b == b' && c == c'))) Try.underlying34 (by kernel_rfl)]
  · rfl
  · exact eqf_cons (a := .int .i64 a) (b := .int .i64 a') (by decide) (by kernel_rfl) (by kernel_rfl) (by kernel_rfl) (eqf_cons (a := .int .i64 b) (b := .int .i64 b') (by decide) (by kernel_rfl) (by kernel_rfl) (by kernel_rfl) (eqf_last (a := .int .i64 c) (b := .int .i64 c') (by decide) (by kernel_rfl) (by kernel_rfl) (by kernel_rfl)))
end Go.Proofs.Ytbpnigldojpapaa.Points
