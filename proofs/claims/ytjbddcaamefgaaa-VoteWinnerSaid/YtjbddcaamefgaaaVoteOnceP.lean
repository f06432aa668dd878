/- What a voter has given: plain laws; and the rows of votes. -/
import Derived.Test.YtjbddcaamefgaaaVoteCod
import Derived.Test.YtjbddcaamefgaaaVoteSteps
namespace Go.Proofs.Ytjbddcaamefgaaa.Vote
open Go.RowKit Go.Proofs.YtjbddcaamefgaaaW.PrintWords Go.Proofs.YtjbddcaamefgaaaW.PrintLast Go.Proofs.YtjbddcaamefgaaaW.PrintMore Go.Proofs.Ytjbddcaamefgaaa.Wire Go.Proofs.Ytjbddcaamefgaaa.Crc Go.Proofs.Ytjbddcaamefgaaa.Pr
open Go.Proofs.Ytjbddcaamefgaaa.Back (AllB numB numB_small numB_eight hor hor_last)
set_option linter.unusedVariables false
set_option linter.unusedSimpArgs false
theorem hor_le : ∀ (k : Nat) (n : Int), 0 ≤ n → n < 256 ^ k → (hor (le n k) : Int) = n
  | 0, n, h0, h1 => by simp at h1; simp [le, hor]; omega
  | k + 1, n, h0, h1 => by
    rw [le, hor]
    have h2 : n / 256 < 256 ^ k := by
      rw [Int.pow_succ] at h1
      omega
    have ih := hor_le k (n / 256) (by omega) h2
    have : (n % 256).toNat = n % 256 := by omega
    rw [Int.natCast_add, Int.natCast_mul, ih, this]
    omega
theorem numB_le8 {n : Int} (h0 : 0 ≤ n) (h1 : n < 9223372036854775808) : numB (le n 8) = n := by
  have hb := le_AllB' 8 n
  have hl := le_length n 8
  have hh := hor_le 8 n h0 (Int.lt_of_lt_of_le h1 (by decide))
  have h7 := (hor_last hl hb).1 (by omega)
  rw [(numB_eight hb hl).1 h7, hh]
theorem rdNum_le8 {n : Int} (h0 : 0 ≤ n) (h1 : n < 9223372036854775808) (rest : List Int) : rdNum (le n 8 ++ rest) 0 8 = ((n, 0), (rest, 0)) := by
  unfold rdNum
  have hl := le_length n 8
  rw [if_neg (by decide), if_neg (by simp), if_neg (by rw [List.length_append, hl]; omega), show (8 : Int).toNat = 8 from rfl]
  have ht : (le n 8 ++ rest).take 8 = le n 8 := by rw [List.take_append_of_le_length (by omega), List.take_of_length_le (by omega)]
  have hd : (le n 8 ++ rest).drop 8 = rest := by rw [List.drop_append_of_le_length (by omega), List.drop_of_length_le (by omega)]; rfl
  rw [ht, hd, numB_le8 h0 h1, if_neg (by omega)]
theorem opOf_seal {xs : List Int} (hb : AllB xs) : opOf (xs ++ le (sumOf xs : Int) 4) = (xs, 0) := by
  have hl : (xs ++ le (sumOf xs : Int) 4).length - 4 = xs.length := by rw [List.length_append, le_length]; omega
  unfold opOf
  rw [if_neg (by rw [List.length_append, le_length]; omega), hl, List.drop_left, List.take_left, if_neg]
  exact fun h => h ((four_eq (le_length _ _) (le_AllB' _ _) (sum_lt hb)).2 rfl)
theorem dec_encV {e f : Int} (h : okP e f = true) : decVF (encV e f ++ le (sumOf (encV e f) : Int) 4) = ((e, f), 0) := by
  have hk := okP_iff.1 h
  have hl := encV_length e f
  have hl2 : (encV e f ++ le (sumOf (encV e f) : Int) 4).length = 13 := by rw [List.length_append, hl, le_length]
  unfold decVF
  rw [if_neg (by omega), List.take_of_length_le (by omega), opOf_seal (encV_AllB e f), if_neg (by simp)]
  rw [show (encV e f ++ le (sumOf (encV e f) : Int) 4).take 9 = encV e f by rw [List.take_append_of_le_length (by omega), List.take_of_length_le (by omega)]]
  have e1 : rdNum (encV e f) 0 8 = ((e, 0), (le (f + 1) 1, 0)) := rdNum_le8 (by omega) (by omega) _
  have e2 : (encV e f).getD 8 0 = f + 1 := by
    unfold encV
    rw [List.getD_eq_getElem?_getD, List.getElem?_append_right (by rw [le_length]; omega), le_length]
    show ((f + 1) % 256 : Int) = f + 1
    omega
  rw [e1, e2]
  unfold decVV
  have e3 : f + 1 - 1 = f := by omega
  rw [e3, if_pos ⟨rfl, h⟩]
/-- The votes that were given, and the voter's promise. -/
def GvInv (gv : List (Int × Int × Int)) (e f : Int) : Prop := ∀ x ∈ gv, x.1 ≤ e ∧ 0 ≤ x.2.2 ∧ (x.1 = e → f = x.2.2)
theorem GvInv.up {gv : List (Int × Int × Int)} {e f e' f' : Int} (h : GvInv gv e f) (k : e < e') : GvInv gv e' f' := fun x hx => by
  have := h x hx
  exact ⟨by omega, this.2.1, fun h => by omega⟩
theorem see_inv {gv : List (Int × Int × Int)} {e f n : Int} (h : GvInv gv e f) : GvInv gv (seeF e f n).2.1 (seeF e f n).2.2 ∧ e ≤ (seeF e f n).2.1 := by
  unfold seeF
  split
  · exact ⟨h, Int.le_refl _⟩
  · rename_i hk
    have : e < n := by
      by_cases q : n ≤ e
      · exact absurd (.inl q) hk
      · omega
    exact ⟨h.up this, by show e ≤ n; omega⟩
theorem stand_inv {gv : List (Int × Int × Int)} {e f me : Int} (h : GvInv gv e f) : GvInv gv (standF e f me).2.1 (standF e f me).2.2 ∧ e ≤ (standF e f me).2.1 ∧ ((standF e f me).1.2 = 0 → (standF e f me).2.2 = me ∧ 0 ≤ me) := by
  unfold standF
  split
  · exact ⟨h, Int.le_refl _, fun q => by cases q⟩
  · rename_i h1
    split
    · exact ⟨h, Int.le_refl _, fun q => by cases q⟩
    · have h3 : okN me = true := by cases h : okN me <;> simp_all
      have := okN_iff.1 h3
      exact ⟨h.up (show e < e + 1 by omega), by show e ≤ e + 1; omega, fun _ => ⟨rfl, this.1⟩⟩
theorem ask_inv {gv : List (Int × Int × Int)} {e f p n : Int} {nw : Bool} (h : GvInv gv e f) : GvInv gv (askF e f p n nw).2.1 (askF e f p n nw).2.2 ∧ e ≤ (askF e f p n nw).2.1 ∧ ((askF e f p n nw).1 = true → (askF e f p n nw).2.2 = p ∧ 0 ≤ p) := by
  unfold askF
  split
  · exact ⟨h, Int.le_refl _, fun q => by cases q⟩
  · rename_i hk
    have h3 : okN p = true := by cases h : okN p <;> simp_all
    have hp := okN_iff.1 h3
    have hn : e ≤ n := by
      by_cases q : n < e
      · exact absurd (.inr (.inl q)) hk
      · omega
    have hg : GvInv gv n (if n > e then -1 else f) := by
      by_cases q : n > e
      · exact h.up q
      · rw [if_neg q, show n = e by omega]
        exact h
    generalize (if n > e then -1 else f) = f1 at hg ⊢
    split
    · exact ⟨hg, hn, fun q => by cases q⟩
    · rename_i hq
      refine ⟨fun x hx => ?_, hn, fun _ => ⟨rfl, hp.1⟩⟩
      obtain ⟨a1, a2, a3⟩ := hg x hx
      refine ⟨a1, a2, fun q => ?_⟩
      have a4 := a3 q
      show p = x.2.2
      by_cases q2 : f1 = p
      · omega
      · by_cases q3 : f1 = -1
        · omega
        · exact absurd (.inl ⟨q2, q3⟩) hq
theorem GvInv.push {gv : List (Int × Int × Int)} {e f : Int} (h : GvInv gv e f) (hf : 0 ≤ f) : GvInv (gv ++ [(e, 0, f)]) e f := fun x hx => by
  rcases List.mem_append.1 hx with hx | hx
  · exact h x hx
  · rw [List.mem_singleton] at hx
    subst hx
    exact ⟨Int.le_refl _, hf, fun _ => rfl⟩
abbrev kG : Kd (Int × Int × Int) := Kd.pair (Kd.int .i64) (Kd.pair (Kd.int .i64) (Kd.int .i64))
def rdG (xs : List (Int × Int × Int)) (i : Int) : Int × Int × Int := xs.getD i.toNat (0, 0, 0)
theorem at_G {w : World} {A : Option Addr} {n : Nat} {xs : List (Int × Int × Int)} (h : Kd.C kG w A n xs) (i : Int) (h0 : 0 ≤ i) (h1 : i < n) : ∃ ad , A = some ad ∧ w.cell? (ad.add (i.toNat * 3)) = some (.int .i64 (rdG xs i).1) ∧ w.cell? ⟨(ad.add (i.toNat * 3)).block, (ad.add (i.toNat * 3)).off + 1, none⟩ = some (.int .i64 (rdG xs i).2.1) ∧ w.cell? ⟨(ad.add (i.toNat * 3)).block, (ad.add (i.toNat * 3)).off + 2, none⟩ = some (.int .i64 (rdG xs i).2.2) := by
  obtain ⟨ad, c, e, _, hK, hc0⟩ := Kd.C_get h (0, 0, 0) i h0 h1
  have hc : ∀ j u, c[j]? = some u → w.cell? (ad.add (i.toNat * 3 + j)) = some u := hc0
  obtain ⟨_, _, rfl, rfl, ⟨_, _, rfl, rfl, rfl⟩⟩ := hK
  exact ⟨ad, e, hc 0 _ rfl, by rw [← add_field _ _ 1 (by omega)]; exact hc 1 _ rfl, by rw [← add_field _ _ 2 (by omega)]; exact hc 2 _ rfl⟩
theorem G_mkM (w : World) (base : Nat) (ok : Nat → Prop) (x : Int × Int × Int) : kG.M w base ok x [.int .i64 x.1, .int .i64 x.2.1, .int .i64 x.2.2] := ⟨[.int .i64 x.1], [.int .i64 x.2.1, .int .i64 x.2.2], rfl, rfl, ⟨[.int .i64 x.2.1], [.int .i64 x.2.2], rfl, rfl, rfl⟩⟩
theorem infoG : (Try.prog.info? 61).map (fun i => (i.zero, i.size, i.bytes)) = some (some (.agg #[.int .i64 0, .int .i64 0, .int .i64 0]), 3, 24) := by kernel_rfl
abbrev RG (w : World) (b : Nat) (v : Value) (xs : List (Int × Int × Int)) : Prop := Kd.R kG 61 w b (fun _ => True) v xs
theorem RG_types {w : World} {b g : Nat} {v : Value} {xs : List (Int × Int × Int)} {T : TypeId} {e f : Int} (h : RG w b v xs) (hv : VotAt T w g e f) (hT : 61 ≠ T) : Kd.R kG 61 w b (fun k => True ∧ k ≠ g) v xs :=
  Kd.R_types h hv (fun q hq => by
    have : q = 61 := by simpa [kG, Kd.pair, Kd.int, Kd.scalar] using hq
    rw [this]; exact hT)
theorem RG_chg {w w1 : World} {b g : Nat} {v : Value} {xs : List (Int × Int × Int)} {T : TypeId} {e f : Int} (h : RG w b v xs) (hv : VotAt T w g e f) (hT : 61 ≠ T) (hc : Chg w w1 (fun k => k = g)) : RG w1 b v xs :=
  Kd.R_mono (Kd.R_step (RG_types h hv hT) (fun k hk hlt => hc.block k hlt hk.2)) (fun _ _ => trivial)
theorem RG_ne {w : World} {b g : Nat} {v : Value} {xs : List (Int × Int × Int)} {T : TypeId} {e f : Int} (h : RG w b v xs) (hv : VotAt T w g e f) (hT : 61 ≠ T) : some g ≠ v.ownBlock := fun e => ((RG_types h hv hT).1 g e.symm).2 rfl
theorem neV (W : World) (a b a' b' : Int) : (binOp .neq 23 (.agg #[.int .i64 a, .int .i64 b]) (.agg #[.int .i64 a', .int .i64 b'])).run Try.prog W = .ok (.bool (!(a == a' && b == b'))) W := by
  rw [run_neq_struct, eqA_of (d := 9999) (r := (a == a' && b == b')) Try.underlying23 (by kernel_rfl)]
  · rfl
  · exact eqf_cons (a := .int .i64 a) (b := .int .i64 a') (by decide) (by kernel_rfl) (by kernel_rfl) (by kernel_rfl) (eqf_last (a := .int .i64 b) (b := .int .i64 b') (by decide) (by kernel_rfl) (by kernel_rfl) (by kernel_rfl))
end Go.Proofs.Ytjbddcaamefgaaa.Vote
