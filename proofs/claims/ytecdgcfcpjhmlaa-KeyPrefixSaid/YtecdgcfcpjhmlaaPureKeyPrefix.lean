/- A text begins with a prefix just if it is not less than it, and less than what is above: at all texts. -/
import Derived.Test.YtecdgcfcpjhmlaaPrx4
import Derived.Test.YtecdgcfcpjhmlaaPureAbove
import Derived.Test.YtecdgcfcpjhmlaaPureBtw
namespace Go.Proofs.Ytecdgcfcpjhmlaa.Pure
open Go.RowKit Go.Proofs.Ytecdgcfcpjhmlaa.Pr Go.Proofs.YtecdgcfcpjhmlaaW.PrintWords Go.Proofs.YtecdgcfcpjhmlaaW.PrintLast

def ab : List UInt8 → Option (List UInt8)
  | [] => none
  | x :: p => match ab p with
    | some u => some (x :: u)
    | none => if x.toNat < 255 then some [x + 1] else none
theorem abv_cons (x : UInt8) (p : List UInt8) : ∀ n, abv (x :: p) (n + 1) = match abv p n with | some u => some (x :: u) | none => if x.toNat < 255 then some [x + 1] else none
  | 0 => by simp [abv]
  | n + 1 => by
    have ih := abv_cons x p n
    rw [abv]
    simp only [List.getD_cons_succ, List.take_succ_cons, List.cons_append]
    rw [ih]
    rw [abv]
    by_cases h : (p.getD n 0).toNat < 255
    · rw [if_pos h, if_pos h]
    · rw [if_neg h, if_neg h]
theorem abv_ab : ∀ p : List UInt8, abv p p.length = ab p
  | [] => rfl
  | x :: p => by rw [List.length_cons, abv_cons, abv_ab p]; rfl

theorem pre_law : ∀ p s : List UInt8, (decide (p.length ≤ s.length) && (s.take p.length == p)) = (decide (0 ≤ cb s p) && (match ab p with | none => true | some u => decide (cb s u < 0)))
  | [], s => by cases s <;> simp [ab, cb_nil, cb_cons_nil]
  | x :: p, [] => by simp [cb_nil_cons]
  | x :: p, y :: t => by
    have ih := pre_law p t
    rw [cb_cons]
    simp only [List.length_cons, List.take_succ_cons, ab]
    by_cases h1 : y.toNat < x.toNat
    · have h2 : (y == x) = false := by
        rw [beq_eq_false_iff_ne]; intro e; subst e; omega
      rw [if_pos h1]
      simp [h2]
    · rw [if_neg h1]
      by_cases h3 : x.toNat < y.toNat
      · have h2 : (y == x) = false := by
          rw [beq_eq_false_iff_ne]; intro e; subst e; omega
        rw [if_pos h3]
        have hx : x.toNat < 255 := by have := y.toNat_lt; omega
        have hx1 : (x + 1).toNat = x.toNat + 1 := by rw [UInt8.toNat_add]; simp; omega
        cases ab p with
        | some u => simp [h2, cb_cons, h1, h3]
        | none =>
          simp only [if_pos hx]
          rw [cb_cons, hx1, if_neg (by omega)]
          by_cases h4 : x.toNat + 1 < y.toNat
          · simp [h2, h4]
          · rw [if_neg h4]
            cases t <;> simp [h2, cb_nil, cb_cons_nil]
      · rw [if_neg h3]
        have e : y = x := UInt8.toNat_inj.1 (by omega)
        subst e
        have e1 : decide (p.length + 1 ≤ t.length + 1) = decide (p.length ≤ t.length) := by simp
        have e2 : ((y :: t.take p.length) == y :: p) = (t.take p.length == p) := by simp
        rw [e1, e2, ih]
        cases hp : ab p with
        | some u => simp only []; rw [cb_cons, if_neg (by omega), if_neg (by omega)]
        | none =>
          simp only [Bool.and_true]
          by_cases hx : y.toNat < 255
          · have hx1 : (y + 1).toNat = y.toNat + 1 := by rw [UInt8.toNat_add]; simp; omega
            rw [if_pos hx]
            simp only []
            rw [cb_cons, hx1, if_pos (by omega)]
            simp
          · rw [if_neg hx]; simp

theorem KeyPrefix : latticelaw05_KeyPrefix.Pure := by
  intro a b ha hb
  refine Ev.rounds (g := fun k => latticelaw05_KeyPrefix.f k a b) ?_
  unfold latticelaw05_KeyPrefix.f
  have sp : Ev (fun n => (latticelaw05_speaks.f n).bind fun t => some t) true := Ev.bind speaks_ev (Ev.now _)
  have law := pre_law (L a) (L b)
  obtain ⟨s, h1, h2⟩ := keyAbove_ev a.size a rfl ha
  rw [show abv (L a) a.size = ab (L a) by rw [← abv_ab, L_len]] at h1 h2
  refine Ev.bind h1 ?_
  have hc : ∀ u, ab (L a) = some u → L s = u := fun u hu => by rw [hu] at h2; exact h2
  have hs : s.size ≤ 140737488351232 ∨ True := .inr trivial
  rw [L_len, L_len] at law
  by_cases hsz : a.size ≤ b.size
  · refine Ev.pos (by omega) (Ev.pos (by omega) (Ev.pos (by omega) ?_))
    refine Ev.bind (cmp_ev b a hb) ?_
    rw [tl, tl, L_take]
    rw [decide_eq_true hsz, Bool.true_and] at law
    by_cases c1 : 0 ≤ cb (L b) (L a)
    · refine Ev.pos c1 ?_
      rw [decide_eq_true c1, Bool.true_and] at law
      cases hab : ab (L a) with
      | some u =>
        rw [hab] at law
        refine Ev.pos rfl (Ev.bind (cmp_ev b s hb) (Ev.pos ?_ sp))
        rw [hc u hab, law]
        simp
      | none =>
        rw [hab] at law
        refine Ev.neg (by simp) (Ev.pos ?_ sp)
        rw [law]; rfl
    · refine Ev.neg c1 (Ev.pos ?_ sp)
      rw [law, decide_eq_false c1]
      simp
  · refine Ev.neg (by omega) (Ev.bind (cmp_ev b a hb) ?_)
    rw [decide_eq_false hsz, Bool.false_and] at law
    by_cases c1 : 0 ≤ cb (L b) (L a)
    · refine Ev.pos c1 ?_
      rw [decide_eq_true c1, Bool.true_and] at law
      cases hab : ab (L a) with
      | some u =>
        rw [hab] at law
        refine Ev.pos rfl (Ev.bind (cmp_ev b s hb) (Ev.pos ?_ sp))
        have law2 : false = decide (cb (L b) u < 0) := law
        rw [hc u hab, ← law2]
        rfl
      | none =>
        rw [hab] at law
        cases law
    · exact Ev.neg c1 sp

end Go.Proofs.Ytecdgcfcpjhmlaa.Pure
