/- The shortest beginning of one text that is greater than another one, and the least text above a prefix: the program answers as the document's definition does, at all texts. -/
import Derived.Test.YtecdgcfcpjhmlaaPrx3
import Derived.Test.YtecdgcfcpjhmlaaPureAbove
import Derived.Test.YtecdgcfcpjhmlaaPureBtw
namespace Go.Proofs.Ytecdgcfcpjhmlaa.Pure
open Go.RowKit Go.Proofs.Ytecdgcfcpjhmlaa.Pr Go.Proofs.YtecdgcfcpjhmlaaW.PrintWords Go.Proofs.YtecdgcfcpjhmlaaW.PrintLast

theorem KeyBetween : latticelaw05_KeyBetween.Pure := by
  intro a b ha hb
  refine Ev.rounds (g := fun k => latticelaw05_KeyBetween.f k a b) ?_
  unfold latticelaw05_KeyBetween.f
  have sp : Ev (fun n => (latticelaw05_speaks.f n).bind fun t => some t) true := Ev.bind speaks_ev (Ev.now _)
  obtain ⟨s, h1, h2⟩ := keyAbove_ev a.size a rfl ha
  obtain ⟨q, h3, h4⟩ := refAbove a ha
  by_cases h : cb (L a) (L b) < 0
  · refine Ev.bindc (keyBetween_lt a b ha hb h) (Ev.bind (refBetween_lt a b hb h _ 0 (Nat.zero_le _) rfl) ?_)
    refine Ev.bind h1 (Ev.bind h3 (Ev.pos rfl (Ev.pos rfl (Ev.pos ?_ (Ev.pos (by simp) sp)))))
    rw [tl, tl, h2, h4]
  · refine Ev.bindc (keyBetween_ge a b h) (Ev.bind (refBetween_ge a b hb h _ 0 (Nat.zero_le _) rfl) ?_)
    refine Ev.bind h1 (Ev.bind h3 (Ev.pos rfl (Ev.pos rfl (Ev.pos ?_ (Ev.pos (by simp) sp)))))
    rw [tl, tl, h2, h4]

end Go.Proofs.Ytecdgcfcpjhmlaa.Pure
