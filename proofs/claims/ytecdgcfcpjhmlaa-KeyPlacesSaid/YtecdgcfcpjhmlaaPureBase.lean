import Derived.Test.YtecdgcfcpjhmlaaPrx1
import Derived.Test.YtecdgcfcpjhmlaaPrx2
namespace Go.Proofs.Ytecdgcfcpjhmlaa.Pure
open Go.RowKit Go.Proofs.Ytecdgcfcpjhmlaa.Pr Go.Proofs.YtecdgcfcpjhmlaaW.PrintWords Go.Proofs.YtecdgcfcpjhmlaaW.PrintLast
/-! ways through functions with rounds -/
section
variable {α β : Type} {r : α}
theorem Ev.pos {c : Prop} [Decidable c] {A B : Nat → Option α} (h : c) (k : Ev A r) : Ev (fun n => if c then A n else B n) r := Ev.congr (fun _ => if_pos h) k
theorem Ev.neg {c : Prop} [Decidable c] {A B : Nat → Option α} (h : ¬ c) (k : Ev B r) : Ev (fun n => if c then A n else B n) r := Ev.congr (fun _ => if_neg h) k
theorem Ev.bindc {g : Option β} {f : Nat → β → Option α} {a : β} (h : g = some a) (k : Ev (fun n => f n a) r) : Ev (fun n => g.bind (f n)) r := Ev.congr (fun n => by rw [h]; rfl) k
end
abbrev L (s : ByteArray) : List UInt8 := s.data.toList
theorem L_len (s : ByteArray) : (L s).length = s.size := by simp [L]
theorem tl (s : ByteArray) : s.toList = L s := Go.ByteArray.toList_eq s
theorem bt_L (s : ByteArray) (i : Nat) : bt s (i : Int) = (((L s).getD i 0).toNat : Int) := by
  unfold bt
  by_cases h : i < s.size
  · simp [h, L]
    rfl
  · simp [h, L]
theorem bt_get (s : ByteArray) (i : Nat) (h : i < (L s).length) : bt s (i : Int) = (((L s)[i]'h).toNat : Int) := by
  rw [bt_L, List.getD_eq_getElem?_getD, List.getElem?_eq_getElem h]; rfl
theorem L_extract (s : ByteArray) (i j : Nat) : L (s.extract i j) = ((L s).take j).drop i := by
  rw [L, ByteArray.data_extract, Array.toList_extract, List.extract_eq_take_drop, List.drop_take]
theorem w64 {x : Int} (h0 : -9223372036854775808 ≤ x) (h1 : x ≤ 9223372036854775807) : wrap64 x = x := by unfold wrap64; omega
/-! the order of texts -/
abbrev cb : List UInt8 → List UInt8 → Int := Go.Lib.compareBytes
theorem cb_range : ∀ a b, cb a b = -1 ∨ cb a b = 0 ∨ cb a b = 1
  | [], [] => by simp [cb, Go.Lib.compareBytes]
  | [], _ :: _ => by simp [cb, Go.Lib.compareBytes]
  | _ :: _, [] => by simp [cb, Go.Lib.compareBytes]
  | a :: u, b :: v => by
    have ih := cb_range u v
    simp only [cb, Go.Lib.compareBytes] at ih ⊢
    split
    · exact .inl rfl
    · split
      · exact .inr (.inr rfl)
      · exact ih
theorem cb_cons (x y : UInt8) (a b : List UInt8) : cb (x :: a) (y :: b) = if x.toNat < y.toNat then -1 else if y.toNat < x.toNat then 1 else cb a b := by
  simp only [cb, Go.Lib.compareBytes, UInt8.lt_iff_toNat_lt]
theorem cb_nil_cons (y : UInt8) (b : List UInt8) : cb [] (y :: b) = -1 := rfl
theorem cb_cons_nil (y : UInt8) (b : List UInt8) : cb (y :: b) [] = 1 := rfl
theorem cb_nil : cb [] [] = 0 := rfl
theorem cb_neg : ∀ a b, cb a b = - cb b a
  | [], [] => rfl
  | [], _ :: _ => rfl
  | _ :: _, [] => rfl
  | a :: u, b :: v => by
    have ih := cb_neg u v
    simp only [cb_cons]
    repeat' split
    all_goals omega
theorem cb_zero : ∀ a b, cb a b = 0 ↔ a = b
  | [], [] => by simp [cb_nil]
  | [], _ :: _ => by simp [cb_nil_cons]
  | _ :: _, [] => by simp [cb_cons_nil]
  | a :: u, b :: v => by
    have ih := cb_zero u v
    simp only [cb_cons, List.cons.injEq]
    by_cases h : a = b
    · subst h; simp [ih]
    · have : a.toNat ≠ b.toNat := fun e => h (UInt8.toNat_inj.1 e)
      simp only [h, false_and, iff_false]
      repeat' split
      all_goals omega
theorem cb_trans : ∀ a b c, cb a b ≤ 0 → cb b c ≤ 0 → cb a c ≤ 0 ∧ (cb a c = 0 → cb a b = 0 ∧ cb b c = 0)
  | [], [], [] => by simp [cb_nil]
  | [], [], _ :: _ => by simp [cb_nil_cons, cb_nil]
  | [], _ :: _, [] => by simp [cb_cons_nil, cb_nil_cons]
  | [], _ :: _, _ :: _ => by simp [cb_nil_cons]
  | _ :: _, [], _ => by simp [cb_cons_nil]
  | _ :: _, _ :: _, [] => by simp [cb_cons_nil]
  | a :: u, b :: v, c :: z => by
    have ih := cb_trans u v z
    simp only [cb_cons]
    repeat' split
    all_goals first | omega | (intro h1 h2; simp_all; done) | skip
    all_goals intro h1 h2
    all_goals first | exact ih h1 h2 | omega
theorem bl_cb : ∀ a b, Op.bytesLess a b = decide (cb a b < 0)
  | [], [] => by simp [Op.bytesLess, cb_nil]
  | [], _ :: _ => by simp [Op.bytesLess, cb_nil_cons]
  | _ :: _, [] => by simp [Op.bytesLess, cb_cons_nil]
  | a :: u, b :: v => by
    have ih := bl_cb u v
    rw [cb_cons]
    simp only [Op.bytesLess, ih]
    by_cases h : a = b
    · subst h; simp
    · have : a.toNat ≠ b.toNat := fun e => h (UInt8.toNat_inj.1 e)
      by_cases h2 : a.toNat < b.toNat
      · have h3 : a < b := UInt8.lt_iff_toNat_lt.2 h2
        simp [h2, h3]
      · have h3 : ¬ a < b := fun e => h2 (UInt8.lt_iff_toNat_lt.1 e)
        have h4 : b.toNat < a.toNat := by omega
        simp [h2, h3, h4, h]
/-- the document's order -/
theorem cmp_at (a b : ByteArray) (ha : a.size ≤ 9223372036854775806) : ∀ (d i : Nat), i ≤ a.size → i ≤ b.size → a.size - i = d →
    Ev (fun k => latticeref05_Compare.l0 k a b (i : Int)) (cb ((L a).drop i) ((L b).drop i)) := by
  intro d
  induction d with
  | zero =>
    intro i h1 h2 hd
    have hi : i = a.size := by omega
    refine Ev.step (fun _ => latticeref05_Compare.l0.eq_2 _ _ _ _) ?_
    refine Ev.neg (by omega) ?_
    refine Ev.step (fun _ => latticeref05_Compare.j1.eq_2 _ _ _ _ _) ?_
    refine Ev.neg (by decide) ?_
    have e1 : (L a).drop i = [] := by rw [List.drop_eq_nil_iff, L_len]; omega
    rw [e1]
    by_cases h : a.size < b.size
    · refine Ev.pos (by omega) ?_
      obtain ⟨y, ys, e2⟩ : ∃ y ys, (L b).drop i = y :: ys := List.exists_cons_of_ne_nil (by rw [Ne, List.drop_eq_nil_iff, L_len]; omega)
      rw [e2]
      exact Ev.now _
    · have e2 : (L b).drop i = [] := by rw [List.drop_eq_nil_iff, L_len]; omega
      rw [e2]
      exact Ev.neg (by omega) (Ev.neg (by omega) (Ev.now _))
  | succ d ih =>
    intro i h1 h2 hd
    have hi : i < a.size := by omega
    have hla : i < (L a).length := by rw [L_len]; exact hi
    refine Ev.step (fun _ => latticeref05_Compare.l0.eq_2 _ _ _ _) ?_
    refine Ev.pos (by omega) ?_
    refine Ev.step (fun _ => latticeref05_Compare.j1.eq_2 _ _ _ _ _) ?_
    rw [List.drop_eq_getElem_cons hla]
    by_cases hb : i < b.size
    · have hlb : i < (L b).length := by rw [L_len]; exact hb
      rw [List.drop_eq_getElem_cons hlb]
      rw [cb_cons]
      refine Ev.pos (by simpa using hb) ?_
      refine Ev.pos (by omega) (Ev.pos (by omega) (Ev.pos (by omega) ?_))
      rw [bt_get a i hla, bt_get b i hlb]
      by_cases c1 : (L a)[i].toNat < (L b)[i].toNat
      · rw [if_pos c1]
        exact Ev.pos (by omega) (Ev.now _)
      · rw [if_neg c1]
        refine Ev.neg (by omega) ?_
        by_cases c2 : (L b)[i].toNat < (L a)[i].toNat
        · rw [if_pos c2]
          exact Ev.pos (by omega) (Ev.now _)
        · rw [if_neg c2]
          refine Ev.neg (by omega) ?_
          rw [w64 (by omega) (by omega)]
          exact ih (i + 1) (by omega) (by omega) (by omega)
    · have e2 : (L b).drop i = [] := by rw [List.drop_eq_nil_iff, L_len]; omega
      rw [e2]
      refine Ev.neg (by simpa using hb) ?_
      exact Ev.neg (by omega) (Ev.pos (by omega) (Ev.now _))
theorem cmp_ev (a b : ByteArray) (ha : a.size ≤ 140737488351232) : Ev (fun k => latticeref05_Compare.f k a b) (cb (L a) (L b)) :=
  cmp_at a b (by omega) _ 0 (Nat.zero_le _) (Nat.zero_le _) rfl
theorem keyCompare (a b : ByteArray) : key_Compare.f a b = some (cb (L a) (L b)) := rfl
/-! how many bytes both begin with -/
def com : List UInt8 → List UInt8 → Nat
  | x :: a, y :: b => if x = y then com a b + 1 else 0
  | _, _ => 0
theorem comG_com (a b : ByteArray) : ∀ n i, i + n = min a.size b.size → comG a b n i = i + com ((L a).drop i) ((L b).drop i)
  | 0, i, h => by
    have : (L a).drop i = [] ∨ (L b).drop i = [] := by
      simp only [List.drop_eq_nil_iff, L_len]; omega
    rcases this with e | e <;> rw [e]
    · simp [comG, com]
    · cases (L a).drop i <;> simp [comG, com]
  | n + 1, i, h => by
    have h1 : i < (L a).length := by rw [L_len]; omega
    have h2 : i < (L b).length := by rw [L_len]; omega
    unfold comG
    rw [List.drop_eq_getElem_cons h1, List.drop_eq_getElem_cons h2, bt_get a i h1, bt_get b i h2]
    simp only [com]
    by_cases e : (L a)[i] = (L b)[i]
    · rw [if_pos e, if_pos (by rw [e]), comG_com a b n (i + 1) (by omega)]
      omega
    · rw [if_neg e, if_neg (fun e2 => e (UInt8.toNat_inj.1 (by omega)))]
      rfl
theorem com_le_left : ∀ a b, com a b ≤ a.length
  | [], _ => by simp [com]
  | _ :: _, [] => by simp [com]
  | x :: a, y :: b => by
    have := com_le_left a b
    simp only [com]
    split
    · simp; omega
    · omega
theorem com_le_right : ∀ a b, com a b ≤ b.length
  | [], _ => by simp [com]
  | _ :: _, [] => by simp [com]
  | x :: a, y :: b => by
    have := com_le_right a b
    simp only [com]
    split
    · simp; omega
    · omega
theorem keyCommon (a b : ByteArray) (ha : a.size ≤ 140737488351232) (hb : b.size ≤ 140737488351232) : key_Common.f a b = some (com (L a) (L b) : Int) := by
  unfold key_Common.f comN
  rw [if_pos (by omega), comG_com a b _ 0 (by omega)]
  simp
/-! the small cases -/
theorem speaks_ev : Ev (fun k => latticelaw05_speaks.f k) true := by
  refine Ev.of (fun k => latticelaw05_speaks.mono k) (k := 5) ?_
  decide +kernel
end Go.Proofs.Ytecdgcfcpjhmlaa.Pure
