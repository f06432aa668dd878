/- How many letters any text has, and whether all are right; and of two texts that are right, one behind the other, as many as both have: at all texts. -/
import Derived.Test.YtecdgcfcpjhmlaaPrx6
import Derived.Test.YtecdgcfcpjhmlaaPureBase
namespace Go.Proofs.Ytecdgcfcpjhmlaa.Pure
open Go.RowKit Go.Proofs.Ytecdgcfcpjhmlaa.Pr Go.Proofs.YtecdgcfcpjhmlaaW.PrintWords Go.Proofs.YtecdgcfcpjhmlaaW.PrintLast

abbrev by_ (l : List UInt8) (k : Nat) : Nat := (l.getD k 0).toNat
abbrev cn (l : List UInt8) (k : Nat) : Prop := k < l.length ∧ 128 ≤ by_ l k ∧ by_ l k ≤ 191
/-- how many bytes the letter has with which a text begins; 0: none -/
def letL (l : List UInt8) : Nat :=
  if by_ l 0 < 128 then 1
  else if 194 ≤ by_ l 0 ∧ by_ l 0 ≤ 223 ∧ cn l 1 then 2
  else if 224 ≤ by_ l 0 ∧ by_ l 0 ≤ 239 ∧ cn l 1 ∧ cn l 2 then (if by_ l 0 = 224 ∧ by_ l 1 < 160 ∨ by_ l 0 = 237 ∧ by_ l 1 > 159 then 0 else 3)
  else if 240 ≤ by_ l 0 ∧ by_ l 0 ≤ 244 ∧ cn l 1 ∧ cn l 2 ∧ cn l 3 then (if by_ l 0 = 240 ∧ by_ l 1 < 144 ∨ by_ l 0 = 244 ∧ by_ l 1 > 143 then 0 else 4)
  else 0
theorem letL_range (l : List UInt8) (h : l ≠ []) : letL l ≤ 4 ∧ letL l ≤ l.length := by
  have hl : 0 < l.length := List.length_pos_iff.2 h
  unfold letL
  repeat' split
  all_goals first | omega | (simp only [cn] at *; omega)
theorem by_append (x y : List UInt8) (k : Nat) (h : k < x.length) : by_ (x ++ y) k = by_ x k := by
  simp only [by_, List.getD_eq_getElem?_getD]
  rw [List.getElem?_append_left h]
theorem letL_append (x y : List UInt8) (h : x ≠ []) (hk : letL x ≠ 0) : letL (x ++ y) = letL x := by
  have hl : 0 < x.length := List.length_pos_iff.2 h
  have e0 := by_append x y 0 hl
  have e1 := by_append x y 1
  have e2 := by_append x y 2
  have e3 := by_append x y 3
  have hxy : (x ++ y).length = x.length + y.length := List.length_append
  unfold letL at hk ⊢
  simp only [cn, e0, hxy] at *
  by_cases h1 : 1 < x.length
  · rw [e1 h1] at *
    by_cases h2 : 2 < x.length
    · rw [e2 h2] at *
      by_cases h3 : 3 < x.length
      · rw [e3 h3] at *
        revert hk
        repeat' split
        all_goals (intro hk; first | rfl | omega)
      · revert hk
        repeat' split
        all_goals (intro hk; first | rfl | omega)
    · revert hk
      repeat' split
      all_goals (intro hk; first | rfl | omega)
  · revert hk
    repeat' split
    all_goals (intro hk; first | rfl | omega)
/-- how many letters, and whether all are right -/
def cnt : Nat → List UInt8 → Nat × Bool
  | 0, _ => (0, true)
  | _ + 1, [] => (0, true)
  | f + 1, x :: l => if letL (x :: l) = 0 then ((cnt f l).1 + 1, false) else ((cnt f ((x :: l).drop (letL (x :: l)))).1 + 1, (cnt f ((x :: l).drop (letL (x :: l)))).2)
theorem letL_pos_drop (l : List UInt8) (h : l ≠ []) (hk : letL l ≠ 0) : (l.drop (letL l)).length < l.length := by
  have := letL_range l h
  rw [List.length_drop]; omega
theorem cnt_fuel : ∀ f g l, l.length ≤ f → l.length ≤ g → cnt f l = cnt g l
  | 0, g, l, h, _ => by
    have : l = [] := List.eq_nil_of_length_eq_zero (by omega)
    subst this
    cases g <;> rfl
  | f + 1, 0, l, _, h => by
    have : l = [] := List.eq_nil_of_length_eq_zero (by omega)
    subst this
    rfl
  | f + 1, g + 1, [], _, _ => rfl
  | f + 1, g + 1, x :: l, h1, h2 => by
    simp only [cnt]
    by_cases hk : letL (x :: l) = 0
    · rw [if_pos hk, if_pos hk, cnt_fuel f g l (by simpa using h1) (by simpa using h2)]
    · have := letL_pos_drop (x :: l) (by simp) hk
      rw [if_neg hk, if_neg hk, cnt_fuel f g _ (by omega) (by omega)]
theorem cnt_le : ∀ f l, (cnt f l).1 ≤ l.length
  | 0, _ => Nat.zero_le _
  | f + 1, [] => Nat.zero_le _
  | f + 1, x :: l => by
    simp only [cnt]
    by_cases hk : letL (x :: l) = 0
    · rw [if_pos hk]; have := cnt_le f l; simp; omega
    · rw [if_neg hk]
      have := cnt_le f ((x :: l).drop (letL (x :: l)))
      have h2 := letL_pos_drop (x :: l) (by simp) hk
      simp only
      omega
theorem cnt_append : ∀ f a b, (a ++ b).length ≤ f → (cnt f a).2 = true → cnt f (a ++ b) = ((cnt f a).1 + (cnt f b).1, (cnt f b).2)
  | 0, a, b, h, _ => by
    rw [List.length_append] at h
    have ha : a = [] := List.eq_nil_of_length_eq_zero (by omega)
    have hb : b = [] := List.eq_nil_of_length_eq_zero (by omega)
    subst ha hb
    rfl
  | f + 1, [], b, h, _ => by simp [cnt]
  | f + 1, x :: a, b, h, hr => by
    rw [List.cons_append]
    simp only [cnt] at hr ⊢
    by_cases hk : letL (x :: a) = 0
    · rw [if_pos hk] at hr; cases hr
    · have e := letL_append (x :: a) b (by simp) hk
      rw [List.cons_append] at e
      have hrg := letL_range (x :: a) (by simp)
      rw [if_neg hk] at hr ⊢
      rw [e, if_neg hk]
      have e2 : (x :: (a ++ b)).drop (letL (x :: a)) = (x :: a).drop (letL (x :: a)) ++ b := by
        rw [← List.cons_append, List.drop_append_of_le_length hrg.2]
      rw [e2]
      have hl : ((x :: a).drop (letL (x :: a)) ++ b).length ≤ f := by
        simp only [List.length_append, List.length_cons, List.length_drop] at h hrg ⊢
        omega
      have ih := cnt_append f ((x :: a).drop (letL (x :: a))) b hl hr
      rw [ih]
      have e3 : cnt f b = cnt (f + 1) b := by
        apply cnt_fuel
        · simp only [List.length_append, List.length_cons] at h; omega
        · simp only [List.length_append, List.length_cons] at h; omega
      rw [e3]
      simp only [Prod.mk.injEq, and_true]
      omega
theorem get_by (s : ByteArray) (i : Nat) : (s.get! i).toNat = by_ (L s) i := by
  by_cases h : i < s.size
  · have : s.get! i = (L s)[i]'(by rw [L_len]; exact h) := by
      simp only [ByteArray.get!, L]
      rw [getElem!_pos s.data i h]
      simp
    rw [this, by_, List.getD_eq_getElem?_getD, List.getElem?_eq_getElem (by rw [L_len]; exact h)]
    rfl
  · have h2 : s.get! i = 0 := by
      simp only [ByteArray.get!]
      rw [getElem!_neg s.data i h]
      rfl
    rw [h2, by_, List.getD_eq_getElem?_getD, List.getElem?_eq_none (by rw [L_len]; omega)]
    rfl
theorem by_drop (l : List UInt8) (i k : Nat) : by_ (l.drop i) k = by_ l (i + k) := by
  simp only [by_, List.getD_eq_getElem?_getD, List.getElem?_drop]
theorem by_lt (l : List UInt8) (k : Nat) : by_ l k < 256 := by have := (l.getD k 0).toNat_lt; omega
/-- the model's decoding, and the document's letter -/
theorem decode_letL (s : ByteArray) (i : Nat) (h : i < s.size) :
    (letL ((L s).drop i) = 0 → Utf8.decode s i = (65533, 1) ∧ ¬ (by_ (L s) i = 239 ∧ by_ (L s) (i + 1) = 191 ∧ by_ (L s) (i + 2) = 189 ∧ i + 2 < s.size)) ∧
    (letL ((L s).drop i) ≠ 0 → (Utf8.decode s i).2 = letL ((L s).drop i) ∧ ((Utf8.decode s i).1 = 65533 → by_ (L s) i = 239 ∧ by_ (L s) (i + 1) = 191 ∧ by_ (L s) (i + 2) = 189 ∧ i + 2 < s.size)) := by
  have b0 := by_lt (L s) i
  have b1 := by_lt (L s) (i + 1)
  have b2 := by_lt (L s) (i + 2)
  have b3 := by_lt (L s) (i + 3)
  unfold Utf8.decode letL
  simp only [cn, get_by, by_drop, List.length_drop, L_len, Nat.add_zero, Utf8.runeError, Utf8.valid]
  generalize by_ (L s) i = x0 at *
  generalize by_ (L s) (i + 1) = x1 at *
  generalize by_ (L s) (i + 2) = x2 at *
  generalize by_ (L s) (i + 3) = x3 at *
  generalize s.size = n at *
  simp only [Bool.and_eq_true, beq_iff_eq, decide_eq_true_eq, Bool.or_eq_true]
  constructor
  · intro hl
    repeat' split at hl
    all_goals first | (exfalso; omega) | skip
    all_goals (repeat' split)
    all_goals first | (refine ⟨rfl, ?_⟩; omega) | (exfalso; omega)
  · intro hl
    repeat' split at hl
    all_goals first | (exfalso; omega) | skip
    all_goals (repeat' split)
    all_goals first | (exfalso; omega) | (refine ⟨by first | rfl | omega, fun h => ?_⟩; simp only at h; omega)


/-- the prefix test of key.Letters -/
theorem fffd_by (s : ByteArray) (i : Nat) (_hi : i < s.size) (_hs : s.size ≤ 1000000000000000000) : fffdB s i = true ↔ (by_ (L s) i = 239 ∧ by_ (L s) (i + 1) = 191 ∧ by_ (L s) (i + 2) = 189 ∧ i + 2 < s.size) := by
  have hz : (s.extract i s.size).size = s.size - i := by rw [ByteArray.size_extract]; omega
  have h3 : (⟨#[239, 191, 189]⟩ : ByteArray).size = 3 := rfl
  unfold fffdB strings_HasPrefix.f stringslite_HasPrefix.f
  rw [h3, hz]
  by_cases c : i + 2 < s.size
  · rw [if_pos (by omega), if_pos (by omega), if_pos (by omega), Option.bind_some, Option.getD_some, tl, tl, L_extract, L_extract]
    rw [List.drop_zero, List.take_of_length_le (l := L s) (by rw [L_len]; omega)]
    have g0 : i < (L s).length := by rw [L_len]; omega
    have g1 : i + 1 < (L s).length := by rw [L_len]; omega
    have g2 : i + 2 < (L s).length := by rw [L_len]; omega
    rw [List.drop_eq_getElem_cons g0, List.drop_eq_getElem_cons g1, List.drop_eq_getElem_cons g2]
    simp only [List.take_succ_cons, List.take_zero, by_, List.getD_eq_getElem?_getD, List.getElem?_eq_getElem g0, List.getElem?_eq_getElem g1, List.getElem?_eq_getElem g2, Option.getD_some]
    show ([_, _, _] == [239, 191, 189]) = true ↔ _
    rw [beq_iff_eq]
    simp only [List.cons.injEq, and_true, c]
    constructor
    · rintro ⟨a, b, d⟩; rw [a, b, d]; exact ⟨rfl, rfl, rfl⟩
    · rintro ⟨a, b, d⟩; exact ⟨UInt8.toNat_inj.1 a, UInt8.toNat_inj.1 b, UInt8.toNat_inj.1 d⟩
  · rw [if_neg (by omega), Option.bind_some, Option.getD_some]
    simp [c]
theorem lettersGo_cnt (s : ByteArray) (hs : s.size ≤ 1000000000000000000) : ∀ b i acc, i ≤ s.size → s.size ≤ i + b → lettersGo s b i acc = (acc.1 + ((cnt b ((L s).drop i)).1 : Int), acc.2 && (cnt b ((L s).drop i)).2)
  | 0, i, acc, h1, h2 => by simp [lettersGo, cnt]
  | b + 1, i, acc, h1, h2 => by
    unfold lettersGo
    by_cases hi : i < s.size
    · rw [if_pos hi]
      have hl : i < (L s).length := by rw [L_len]; exact hi
      have hd := decode_letL s i hi
      have hf := fffd_by s i hi hs
      have hne : (L s).drop i ≠ [] := by rw [Ne, List.drop_eq_nil_iff]; omega
      have hrg := letL_range _ hne
      obtain ⟨x, l, hxl⟩ := List.exists_cons_of_ne_nil hne
      by_cases hk : letL ((L s).drop i) = 0
      · obtain ⟨e1, e2⟩ := hd.1 hk
        have e3 : fffdB s i = false := by rw [Bool.eq_false_iff]; exact fun e => e2 (hf.1 e)
        rw [e1, e3]
        simp only [if_true, Bool.false_eq_true, if_false]
        rw [lettersGo_cnt s hs b (i + 1) _ (by omega) (by omega)]
        rw [hxl] at hk
        have e4 : (L s).drop (i + 1) = l := by rw [← List.drop_drop, hxl]; rfl
        rw [e4, hxl]
        simp only [cnt, hk, if_true, Prod.mk.injEq]
        constructor
        · push_cast; omega
        · simp
      · obtain ⟨e1, e2⟩ := hd.2 hk
        have e3 : (if (Utf8.decode s i).1 = 65533 then (if fffdB s i = true then acc.2 else false) else acc.2) = acc.2 := by
          by_cases c : (Utf8.decode s i).1 = 65533
          · rw [if_pos c, if_pos (hf.2 (e2 c))]
          · rw [if_neg c]
        rw [e3, e1]
        have hrg2 := hrg.2
        rw [List.length_drop, L_len] at hrg2
        rw [lettersGo_cnt s hs b _ _ (by omega) (by omega)]
        have e5 : (L s).drop (i + letL ((L s).drop i)) = ((L s).drop i).drop (letL ((L s).drop i)) := by rw [List.drop_drop]
        rw [e5]
        rw [hxl] at hk ⊢
        simp only [cnt, if_neg hk, Prod.mk.injEq, and_true]
        push_cast; omega
    · rw [if_neg hi]
      have : (L s).drop i = [] := by rw [List.drop_eq_nil_iff, L_len]; omega
      rw [this]
      cases b <;> simp [cnt]
theorem keyLetters (a : ByteArray) (ha : a.size ≤ 1000000000000000000) (f : Nat) (hf : a.size ≤ f) : key_Letters.f a = some (((cnt f (L a)).1 : Int), (cnt f (L a)).2) := by
  unfold key_Letters.f
  rw [if_pos ha, lettersGo_cnt a ha a.size 0 _ (Nat.zero_le _) (by omega), cnt_fuel a.size f _ (by rw [List.length_drop, L_len]; omega) (by rw [List.length_drop, L_len]; omega)]
  simp
/-! the document's letters -/
def moreB (l : List UInt8) : Nat → Nat → Bool
  | 0, _ => true
  | d + 1, i => if by_ l i < 128 then false else if by_ l i > 191 then false else moreB l d (i + 1)
theorem bt_by (s : ByteArray) (i : Nat) : bt s (i : Int) = (by_ (L s) i : Int) := bt_L s i
theorem more_at (s : ByteArray) (hs : s.size ≤ 140737488351232) (n : Nat) (hn : n ≤ 3) (hsz : 1 + n ≤ s.size) : ∀ d i, i + d = 1 + n → Ev (fun k => latticeref05_more.l0 k s 1 n (i : Int)) (moreB (L s) d i)
  | 0, i, h => by
    refine Ev.step (fun _ => latticeref05_more.l0.eq_2 _ _ _ _ _) ?_
    rw [w64 (by omega) (by omega)]
    exact Ev.neg (by omega) (Ev.now _)
  | d + 1, i, h => by
    refine Ev.step (fun _ => latticeref05_more.l0.eq_2 _ _ _ _ _) ?_
    rw [w64 (by omega) (by omega), bt_by]
    refine Ev.pos (by omega) (Ev.pos (by omega) (Ev.pos (by omega) ?_))
    simp only [moreB]
    by_cases c1 : by_ (L s) i < 128
    · rw [if_pos c1]; exact Ev.pos (by omega) (Ev.now _)
    · rw [if_neg c1]
      refine Ev.neg (by omega) ?_
      by_cases c2 : by_ (L s) i > 191
      · rw [if_pos c2]; exact Ev.pos (by omega) (Ev.now _)
      · rw [if_neg c2]
        refine Ev.neg (by omega) ?_
        rw [w64 (by omega) (by omega)]
        exact more_at s hs n hn hsz d (i + 1) (by omega)
theorem more_ev (s : ByteArray) (hs : s.size ≤ 140737488351232) (n : Nat) (hn : n ≤ 3) : Ev (fun k => latticeref05_more.f k s 1 n) (decide (1 + n ≤ s.size) && moreB (L s) n 1) := by
  unfold latticeref05_more.f
  rw [w64 (by omega) (by omega)]
  by_cases h : 1 + n ≤ s.size
  · rw [decide_eq_true h, Bool.true_and]
    exact Ev.neg (by omega) (more_at s hs n hn h n 1 (by omega))
  · rw [decide_eq_false h, Bool.false_and]
    exact Ev.pos (by omega) (Ev.now _)
theorem Ev.to {α : Type} {g : Nat → Option α} {r r' : α} (h : Ev g r') (e : r' = r) : Ev g r := e ▸ h
/-- the letter's length, out of the first two bytes and whether one, two, three bytes that go on follow -/
def letW (x0 x1 : Nat) (y1 y2 y3 : Bool) : Int :=
  if x0 < 128 then 1
  else if 194 ≤ x0 ∧ x0 ≤ 223 ∧ y1 = true then 2
  else if 224 ≤ x0 ∧ x0 ≤ 239 ∧ y2 = true then (if x0 = 224 ∧ x1 < 160 ∨ x0 = 237 ∧ x1 > 159 then 0 else 3)
  else if 240 ≤ x0 ∧ x0 ≤ 244 ∧ y3 = true then (if x0 = 240 ∧ x1 < 144 ∨ x0 = 244 ∧ x1 > 143 then 0 else 4)
  else 0
theorem letter_ev (s : ByteArray) (hs : s.size ≤ 140737488351232) (h0 : 0 < s.size) : Ev (fun k => latticeref05_Letter.f k s) ((letL (L s) : Nat) : Int) := by
  have m1 := more_ev s hs 1 (by omega)
  have m2 := more_ev s hs 2 (by omega)
  have m3 := more_ev s hs 3 (by omega)
  have hb0 : bt s 0 = (by_ (L s) 0 : Int) := bt_by s 0
  have hb1 : bt s 1 = (by_ (L s) 1 : Int) := bt_by s 1
  have b0 := by_lt (L s) 0
  have q1 : (decide (1 + 1 ≤ s.size) && moreB (L s) 1 1) = true ↔ cn (L s) 1 := by
    simp only [moreB, cn, L_len, Bool.and_eq_true, decide_eq_true_eq, Nat.reduceAdd]
    repeat' split
    all_goals simp only [Bool.false_eq_true, and_false, and_true, false_iff]
    all_goals omega
  have q2 : (decide (1 + 2 ≤ s.size) && moreB (L s) 2 1) = true ↔ cn (L s) 1 ∧ cn (L s) 2 := by
    simp only [moreB, cn, L_len, Bool.and_eq_true, decide_eq_true_eq, Nat.reduceAdd]
    repeat' split
    all_goals simp only [Bool.false_eq_true, and_false, and_true, false_iff]
    all_goals omega
  have q3 : (decide (1 + 3 ≤ s.size) && moreB (L s) 3 1) = true ↔ cn (L s) 1 ∧ cn (L s) 2 ∧ cn (L s) 3 := by
    simp only [moreB, cn, L_len, Bool.and_eq_true, decide_eq_true_eq, Nat.reduceAdd]
    repeat' split
    all_goals simp only [Bool.false_eq_true, and_false, and_true, false_iff]
    all_goals omega
  generalize (decide (1 + 1 ≤ s.size) && moreB (L s) 1 1) = y1 at m1 q1
  generalize (decide (1 + 2 ≤ s.size) && moreB (L s) 2 1) = y2 at m2 q2
  generalize (decide (1 + 3 ≤ s.size) && moreB (L s) 3 1) = y3 at m3 q3
  have hv : letW (by_ (L s) 0) (by_ (L s) 1) y1 y2 y3 = ((letL (L s) : Nat) : Int) := by
    unfold letW letL
    simp only [q1, q2, q3]
    repeat' split
    all_goals rfl
  have hs1 : y1 = true → 1 < s.size := fun h => by have := (q1.1 h).1; rwa [L_len] at this
  have hs2 : y2 = true → 1 < s.size := fun h => by have := (q2.1 h).1.1; rwa [L_len] at this
  have hs3 : y3 = true → 1 < s.size := fun h => by have := (q3.1 h).1.1; rwa [L_len] at this
  rw [← hv]
  clear hv q1 q2 q3
  generalize by_ (L s) 0 = x0 at *
  generalize by_ (L s) 1 = x1 at *
  -- the last way
  have j2 : ∀ y : Bool, y = (decide (240 ≤ x0 ∧ x0 ≤ 244) && y3) → ¬ x0 < 128 → ¬ (194 ≤ x0 ∧ x0 ≤ 223 ∧ y1 = true) → ¬ (224 ≤ x0 ∧ x0 ≤ 239 ∧ y2 = true) → Ev (fun k => latticeref05_Letter.j2 k s (x0 : Int) y) (letW x0 x1 y1 y2 y3) := by
    intro y hy n1 n2 n3
    refine Ev.step (fun _ => latticeref05_Letter.j2.eq_2 _ _ _ _) ?_
    rw [hb1]
    have e : letW x0 x1 y1 y2 y3 = if 240 ≤ x0 ∧ x0 ≤ 244 ∧ y3 = true then (if x0 = 240 ∧ x1 < 144 ∨ x0 = 244 ∧ x1 > 143 then 0 else 4) else 0 := by
      unfold letW; rw [if_neg n1, if_neg n2, if_neg n3]
    rw [e]
    cases y with
    | false =>
      refine Ev.neg (by decide) (Ev.to (Ev.now _) ?_)
      rw [if_neg]
      rintro ⟨a, b, c⟩
      rw [c, decide_eq_true ⟨a, b⟩] at hy
      cases hy
    | true =>
      have h3 := Bool.and_eq_true_iff.1 hy.symm
      have h4 := of_decide_eq_true h3.1
      have h5 := hs3 h3.2
      refine Ev.pos rfl ?_
      have e2 : (if 240 ≤ x0 ∧ x0 ≤ 244 ∧ y3 = true then (if x0 = 240 ∧ x1 < 144 ∨ x0 = 244 ∧ x1 > 143 then 0 else 4) else 0 : Int) = if x0 = 240 ∧ x1 < 144 ∨ x0 = 244 ∧ x1 > 143 then 0 else 4 := if_pos ⟨h4.1, h4.2, h3.2⟩
      rw [e2]
      by_cases c1 : x0 = 240
      · refine Ev.pos (by omega) (Ev.pos (by omega) ?_)
        by_cases c2 : x1 < 144
        · exact Ev.pos (by omega) (Ev.to (Ev.now _) (if_pos (Or.inl ⟨c1, c2⟩)).symm)
        · exact Ev.neg (by omega) (Ev.neg (by omega) (Ev.to (Ev.now _) (if_neg (by omega)).symm))
      · refine Ev.neg (by omega) ?_
        by_cases c3 : x0 = 244
        · refine Ev.pos (by omega) (Ev.pos (by omega) ?_)
          by_cases c2 : x1 > 143
          · exact Ev.pos (by omega) (Ev.to (Ev.now _) (if_pos (Or.inr ⟨c3, c2⟩)).symm)
          · exact Ev.neg (by omega) (Ev.to (Ev.now _) (if_neg (by omega)).symm)
        · exact Ev.neg (by omega) (Ev.to (Ev.now _) (if_neg (by omega)).symm)
  have j1 : ∀ y : Bool, y = (decide (224 ≤ x0 ∧ x0 ≤ 239) && y2) → ¬ x0 < 128 → ¬ (194 ≤ x0 ∧ x0 ≤ 223 ∧ y1 = true) → Ev (fun k => latticeref05_Letter.j1 k s (x0 : Int) y) (letW x0 x1 y1 y2 y3) := by
    intro y hy n1 n2
    refine Ev.step (fun _ => latticeref05_Letter.j1.eq_2 _ _ _ _) ?_
    rw [hb1]
    cases y with
    | false =>
      have n3 : ¬ (224 ≤ x0 ∧ x0 ≤ 239 ∧ y2 = true) := by
        rintro ⟨a, b, c⟩
        rw [c, decide_eq_true ⟨a, b⟩] at hy
        cases hy
      refine Ev.neg (by decide) ?_
      by_cases c1 : 240 ≤ x0
      · refine Ev.pos (by omega) ?_
        by_cases c2 : x0 ≤ 244
        · exact Ev.pos (by omega) (Ev.bind m3 (j2 y3 (by rw [decide_eq_true ⟨c1, c2⟩, Bool.true_and]) n1 n2 n3))
        · exact Ev.neg (by omega) (j2 false (by rw [decide_eq_false (by omega), Bool.false_and]) n1 n2 n3)
      · exact Ev.neg (by omega) (j2 false (by rw [decide_eq_false (by omega), Bool.false_and]) n1 n2 n3)
    | true =>
      have h3 := Bool.and_eq_true_iff.1 hy.symm
      have h4 := of_decide_eq_true h3.1
      have h5 := hs2 h3.2
      refine Ev.pos rfl ?_
      have e : letW x0 x1 y1 y2 y3 = if x0 = 224 ∧ x1 < 160 ∨ x0 = 237 ∧ x1 > 159 then 0 else 3 := by
        unfold letW; rw [if_neg n1, if_neg n2, if_pos ⟨h4.1, h4.2, h3.2⟩]
      rw [e]
      by_cases c1 : x0 = 224
      · refine Ev.pos (by omega) (Ev.pos (by omega) ?_)
        by_cases c2 : x1 < 160
        · exact Ev.pos (by omega) (Ev.to (Ev.now _) (if_pos (Or.inl ⟨c1, c2⟩)).symm)
        · exact Ev.neg (by omega) (Ev.neg (by omega) (Ev.to (Ev.now _) (if_neg (by omega)).symm))
      · refine Ev.neg (by omega) ?_
        by_cases c3 : x0 = 237
        · refine Ev.pos (by omega) (Ev.pos (by omega) ?_)
          by_cases c2 : x1 > 159
          · exact Ev.pos (by omega) (Ev.to (Ev.now _) (if_pos (Or.inr ⟨c3, c2⟩)).symm)
          · exact Ev.neg (by omega) (Ev.to (Ev.now _) (if_neg (by omega)).symm)
        · exact Ev.neg (by omega) (Ev.to (Ev.now _) (if_neg (by omega)).symm)
  have j0 : ∀ y : Bool, y = (decide (194 ≤ x0 ∧ x0 ≤ 223) && y1) → ¬ x0 < 128 → Ev (fun k => latticeref05_Letter.j0 k s (x0 : Int) y) (letW x0 x1 y1 y2 y3) := by
    intro y hy n1
    refine Ev.step (fun _ => latticeref05_Letter.j0.eq_2 _ _ _ _) ?_
    cases y with
    | false =>
      have n2 : ¬ (194 ≤ x0 ∧ x0 ≤ 223 ∧ y1 = true) := by
        rintro ⟨a, b, c⟩
        rw [c, decide_eq_true ⟨a, b⟩] at hy
        cases hy
      refine Ev.neg (by decide) ?_
      by_cases c1 : 224 ≤ x0
      · refine Ev.pos (by omega) ?_
        by_cases c2 : x0 ≤ 239
        · exact Ev.pos (by omega) (Ev.bind m2 (j1 y2 (by rw [decide_eq_true ⟨c1, c2⟩, Bool.true_and]) n1 n2))
        · exact Ev.neg (by omega) (j1 false (by rw [decide_eq_false (by omega), Bool.false_and]) n1 n2)
      · exact Ev.neg (by omega) (j1 false (by rw [decide_eq_false (by omega), Bool.false_and]) n1 n2)
    | true =>
      have h3 := Bool.and_eq_true_iff.1 hy.symm
      have h4 := of_decide_eq_true h3.1
      refine Ev.pos rfl (Ev.to (Ev.now _) ?_)
      unfold letW
      rw [if_neg n1, if_pos ⟨h4.1, h4.2, h3.2⟩]
  unfold latticeref05_Letter.f
  rw [hb0]
  refine Ev.pos (by omega) ?_
  by_cases c0 : x0 < 128
  · refine Ev.pos (by omega) (Ev.to (Ev.now _) ?_)
    unfold letW
    rw [if_pos c0]
  · refine Ev.neg (by omega) ?_
    by_cases c1 : 194 ≤ x0
    · refine Ev.pos (by omega) ?_
      by_cases c2 : x0 ≤ 223
      · exact Ev.pos (by omega) (Ev.bind m1 (j0 y1 (by rw [decide_eq_true ⟨c1, c2⟩, Bool.true_and]) c0))
      · exact Ev.neg (by omega) (j0 false (by rw [decide_eq_false (by omega), Bool.false_and]) c0)
    · exact Ev.neg (by omega) (j0 false (by rw [decide_eq_false (by omega), Bool.false_and]) c0)
theorem refLetters_at : ∀ f (s : ByteArray) (n : Nat) (right : Bool), s.size ≤ f → n + s.size ≤ 140737488351232 → Ev (fun k => latticeref05_Letters.l0 k s (n : Int) right) (((n + (cnt f (L s)).1 : Nat) : Int), right && (cnt f (L s)).2)
  | 0, s, n, right, h, hn => by
    refine Ev.step (fun _ => latticeref05_Letters.l0.eq_2 _ _ _ _) (Ev.neg (by omega) ?_)
    simp only [cnt, Nat.add_zero, Bool.and_true]
    exact Ev.now _
  | f + 1, s, n, right, h, hn => by
    refine Ev.step (fun _ => latticeref05_Letters.l0.eq_2 _ _ _ _) ?_
    by_cases h0 : s.size = 0
    · have e : L s = [] := List.eq_nil_of_length_eq_zero (by rw [L_len]; exact h0)
      refine Ev.neg (by omega) ?_
      rw [e]
      simp only [cnt, Nat.add_zero, Bool.and_true]
      exact Ev.now _
    · have hne : L s ≠ [] := by intro e; have := L_len s; rw [e] at this; simp at this; omega
      have hrg := letL_range _ hne
      rw [L_len] at hrg
      obtain ⟨x, l, hxl⟩ := List.exists_cons_of_ne_nil hne
      have hd : ∀ j, j ≤ s.size → L (s.extract j s.size) = (L s).drop j := fun j _ => by rw [L_extract, List.take_of_length_le (by rw [L_len]; omega)]
      have hz : ∀ j, (s.extract j s.size).size = s.size - j := fun j => by rw [ByteArray.size_extract]; omega
      refine Ev.pos (by omega) (Ev.bind (letter_ev s (by omega) (by omega)) ?_)
      by_cases hk : letL (L s) = 0
      · refine Ev.pos (by omega) (Ev.pos (by omega) ?_)
        rw [w64 (by omega) (by omega)]
        have ih := refLetters_at f (s.extract 1 s.size) (n + 1) false (by rw [hz]; omega) (by rw [hz]; omega)
        refine Ev.to ih ?_
        rw [hd 1 (by omega)]
        rw [hxl] at hk ⊢
        simp only [cnt, hk, if_true, List.drop_succ_cons, List.drop_zero, Bool.false_and, Bool.and_false, Prod.mk.injEq, and_true]
        omega
      · refine Ev.neg (by omega) (Ev.pos (by omega) (Ev.pos (by omega) ?_))
        rw [w64 (by omega) (by omega), Int.toNat_natCast]
        have ih := refLetters_at f (s.extract (letL (L s)) s.size) (n + 1) right (by rw [hz]; omega) (by rw [hz]; omega)
        refine Ev.to ih ?_
        rw [hd _ hrg.2]
        rw [hxl] at hk ⊢
        simp only [cnt, if_neg hk, Prod.mk.injEq, and_true]
        omega
theorem refLetters_ev (s : ByteArray) (hs : s.size ≤ 140737488351232) (f : Nat) (hf : s.size ≤ f) : Ev (fun k => latticeref05_Letters.f k s) (((cnt f (L s)).1 : Int), (cnt f (L s)).2) := by
  have := refLetters_at f s 0 true hf (by omega)
  simp only [Nat.zero_add, Bool.true_and] at this
  exact this

theorem KeyLetters : latticelaw05_KeyLetters.Pure := by
  intro a b ha hb
  refine Ev.rounds (g := fun k => latticelaw05_KeyLetters.f k a b) ?_
  unfold latticelaw05_KeyLetters.f
  have sp : Ev (fun n => (latticelaw05_speaks.f n).bind fun t => some t) true := Ev.bind speaks_ev (Ev.now _)
  have hab : (a ++ b).size = a.size + b.size := ByteArray.size_append
  have hL : L (a ++ b) = L a ++ L b := by simp [L, ByteArray.data_append]
  obtain ⟨f, hf⟩ : ∃ f, f = a.size + b.size := ⟨_, rfl⟩
  have la := L_len a
  have lb := L_len b
  have hle := cnt_le f (L a)
  have hleb := cnt_le f (L b)
  refine Ev.bindc (keyLetters a (by omega) f (by omega)) (Ev.bind (refLetters_ev a ha f (by omega)) (Ev.bindc (keyLetters b (by omega) f (by omega)) (Ev.pos (by omega) (Ev.bindc (keyLetters (a ++ b) (by omega) f (by omega)) ?_))))
  refine Ev.pos rfl (Ev.neg (by simp) ?_)
  have hpos : ((decide (((cnt f (L a)).1 : Int) > 0)) == (a.toList != ([] : List UInt8))) = true := by
    rw [tl]
    cases hx : L a with
    | nil => cases f <;> rfl
    | cons x l =>
      obtain ⟨g, rfl⟩ : ∃ g, f = g + 1 := ⟨f - 1, by rw [hx] at la; simp at la; omega⟩
      have : (cnt (g + 1) (x :: l)).1 ≠ 0 := by
        simp only [cnt]
        split <;> simp
      have h2 : (cnt (g + 1) (x :: l)).1 > 0 := by omega
      simp [h2]
  by_cases c : (cnt f (L a)).2 = true
  · have e := cnt_append f (L a) (L b) (by rw [List.length_append]; omega) c
    rw [hL, e]
    refine Ev.pos c (Ev.pos ?_ (Ev.neg (by simp) (Ev.pos (by omega) (Ev.pos hpos sp))))
    rw [w64 (by omega) (by omega)]
    push_cast
    rfl
  · exact Ev.neg c (Ev.pos (by omega) (Ev.pos hpos sp))
end Go.Proofs.Ytecdgcfcpjhmlaa.Pure
