-- A part of the text PurePageChecks, thinned by a program of this session.
import Derived.Test.YthfhkcicpfnedaaTPageChecksStPageChecks
import Derived.OpenShut
import Derived.Test.YthfhkcicpfnedaaTPageChecksPagePure
namespace Go.Proofs.Ythfhkcicpfnedaa.Pure
open Go.RowKit Go.Proofs.Ythfhkcicpfnedaa.Pr Go.Proofs.YthfhkcicpfnedaaW.PrintWords Go.Proofs.YthfhkcicpfnedaaW.PrintLast
theorem PageChecks:latticelaw06_PageChecks.Stated:=by
 intro a ha
 obtain ⟨_,_,_,hh,⟨_,hl,hg⟩,⟨_,hv,_⟩,⟨_,hi,_⟩⟩:=ha
 refine Ev.rounds (g:=fun n=>latticelaw06_PageChecks.f n a.f0 a.f1 a.f2 a.f3 a.f4 a.f5 a.f6) ?_
 unfold latticelaw06_PageChecks.f
 exact Ev.bind (check_ev _ _ _ _ _ _ _ hl hv) (Ev.bind (Page.refcheck_ev _ _ _ _ _ _ _ hl hv hi hg) (Ev.pos rfl (Ev.bind (page_Size_ev _ _ _ _ _ _ _ hl hv) (Ev.bind (latticeref06_Size_ev _ _ _ _ _ _ _ hl hv) (Ev.pos rfl (Ev.bindc rfl (Ev.now _)))))))
end Go.Proofs.Ythfhkcicpfnedaa.Pure
