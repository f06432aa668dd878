/- The order of keys is one: of three texts, if the first is not greater than the second, nor that than the third, nor is the first than the third; and two that are neither are the same: at all texts. -/
import Derived.Test.YtecdgcfcpjhmlaaPrx3
import Derived.Test.YtecdgcfcpjhmlaaPureBase
namespace Go.Proofs.Ytecdgcfcpjhmlaa.Pure
open Go.RowKit Go.Proofs.Ytecdgcfcpjhmlaa.Pr Go.Proofs.YtecdgcfcpjhmlaaW.PrintWords Go.Proofs.YtecdgcfcpjhmlaaW.PrintLast

theorem KeyOrder : latticelaw05_KeyOrder.Pure := by
  intro a b c ha hb hc
  refine Ev.rounds (g := fun k => latticelaw05_KeyOrder.f k a b c) ?_
  unfold latticelaw05_KeyOrder.f
  refine Ev.bindc (keyCompare a b) (Ev.bindc (keyCompare b c) (Ev.bindc (keyCompare b a) ?_))
  have h1 := cb_neg (L a) (L b)
  have h2 := cb_range (L b) (L a)
  have h3 := cb_zero (L a) (L b)
  have h4 := cb_trans (L a) (L b) (L c)
  refine Ev.pos (by rw [w64 (by omega) (by omega)]; exact h1) ?_
  refine Ev.step (fun _ => latticelaw05_KeyOrder.j0.eq_2 _ _ _ _ _ _) ?_
  refine Ev.neg ?_ ?_
  · rw [tl, tl]
    by_cases e : L a = L b
    · rw [h3.2 e, e]
      simp
    · have h5 : ¬ cb (L a) (L b) = 0 := fun e2 => e (h3.1 e2)
      rw [beq_eq_false_iff_ne.2 e, beq_eq_false_iff_ne.2 h5]
      simp
  · have sp : Ev (fun n => (latticelaw05_speaks.f n).bind fun t => some t) true := Ev.bind speaks_ev (Ev.now _)
    by_cases c1 : cb (L a) (L b) ≤ 0
    · refine Ev.pos c1 ?_
      by_cases c2 : cb (L b) (L c) ≤ 0
      · refine Ev.pos c2 (Ev.bindc (keyCompare a c) (Ev.neg ?_ sp))
        have := (h4 c1 c2).1
        omega
      · exact Ev.neg c2 sp
    · exact Ev.neg c1 sp

end Go.Proofs.Ytecdgcfcpjhmlaa.Pure
