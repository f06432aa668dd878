-- A part of the text PureNodeParts, thinned by a program of this session.
import Derived.Test.YtcocmpblmkdmjaaANodePartsPureLeft
import Derived.Test.YtcocmpblmkdmjaaANodePartsStNodeParts
namespace Go.Proofs.Ytcocmpblmkdmjaa.Pure
set_option linter.unusedVariables false
open Go.RowKit Go.Proofs.Ytcocmpblmkdmjaa.Pr Go.Proofs.YtcocmpblmkdmjaaW.PrintWords Go.Proofs.YtcocmpblmkdmjaaW.PrintLast
theorem NodeParts : latticelaw07_NodeParts.Stated := by
 intro a k num ha hk hnum
 obtain ⟨_, _, _, hh, ⟨_, hl, hg⟩, ⟨_, hv, _⟩, ⟨_, hi, _⟩⟩ := ha
 refine Ev.rounds (g := fun n => latticelaw07_NodeParts.f n a.f0 a.f1 a.f2 a.f3 a.f4 a.f5 a.f6 k num) ?_
 unfold latticelaw07_NodeParts.f partsF
 obtain ⟨s, e1, e2⟩ := split_ev a.f0 a.f1 a.f2 a.f3 a.f4 a.f5 a.f6 hl hv hi hg hh
 obtain ⟨l, e3, e4⟩ := left_ev a.f0 a.f1 a.f2 a.f3 a.f4 a.f5 a.f6 hl hv hi hg k num hh
 obtain ⟨r, e5, e6⟩ := rest_ev a.f0 a.f1 a.f2 a.f3 a.f4 a.f5 a.f6 hl hv hi hg k hh
 refine Ev.bind e1 (Ev.bind e2 (Ev.pos rfl (Ev.bind e3 (Ev.bind e4 (Ev.pos rfl (Ev.bind e5 (Ev.bind e6 (Ev.pos rfl (Ev.now _)))))))))
end Go.Proofs.Ytcocmpblmkdmjaa.Pure
