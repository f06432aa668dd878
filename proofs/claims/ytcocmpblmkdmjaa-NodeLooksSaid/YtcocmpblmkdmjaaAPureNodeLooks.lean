-- A part of the text PureNodeLooks, thinned by a program of this session.
import Derived.Test.YtcocmpblmkdmjaaAPureLooks
import Derived.Test.YtcocmpblmkdmjaaAStNodeLooks
namespace Go.Proofs.Ytcocmpblmkdmjaa.Pure
set_option linter.unusedVariables false
open Go.RowKit Go.Proofs.Ytcocmpblmkdmjaa.Pr Go.Proofs.YtcocmpblmkdmjaaW.PrintWords Go.Proofs.YtcocmpblmkdmjaaW.PrintLast
theorem NodeLooks : latticelaw07_NodeLooks.Stated := by
 intro a k ha hk
 obtain ⟨_, _, _, hh, ⟨_, hl, hg⟩, ⟨_, hv, _⟩, ⟨_, hi, _⟩⟩ := ha
 refine Ev.rounds (g := fun n => latticelaw07_NodeLooks.f n a.f0 a.f1 a.f2 a.f3 a.f4 a.f5 a.f6 k) ?_
 unfold latticelaw07_NodeLooks.f
 obtain ⟨r, e1, e2⟩ := get_ev a.f0 a.f1 a.f2 a.f3 a.f4 a.f5 a.f6 hl hv hi hg k hh
 obtain ⟨s, e3, e4⟩ := kid_ev a.f0 a.f1 a.f2 a.f3 a.f4 a.f5 a.f6 hl hv hi hg k hh
 refine Ev.bind e1 (Ev.bind e2 (Ev.bind e3 (Ev.bind e4 ?_)))
 refine Ev.pos rfl (Ev.pos (by simp) (Ev.pos rfl (Ev.pos rfl (Ev.pos rfl ?_))))
 refine Ev.bindc (further_ev _ _ _ _ _ _ _ _) (Ev.bind (rfurther_ev _ _ _ _ _ _ _ _ hh) (Ev.pos (by simp) ?_))
 exact Ev.bindc (a := true) rfl (Ev.now _)
end Go.Proofs.Ytcocmpblmkdmjaa.Pure
