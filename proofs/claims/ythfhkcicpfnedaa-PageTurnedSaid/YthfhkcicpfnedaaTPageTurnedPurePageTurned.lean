-- A part of the text PurePageTurned, thinned by a program of this session.
import Derived.Test.YthfhkcicpfnedaaTPageTurnedStPageTurned
import Derived.OpenShut
namespace Go.Proofs.Ythfhkcicpfnedaa.Pure
open Go.RowKit Go.Proofs.Ythfhkcicpfnedaa.Pr Go.Proofs.YthfhkcicpfnedaaW.PrintWords Go.Proofs.YthfhkcicpfnedaaW.PrintLast
theorem PageTurned:latticelaw06_PageTurned.Stated:=by
 intro a a1 ha _
 obtain ⟨_,_,_,hh,⟨_,hl,hg⟩,⟨_,hv,_⟩,⟨_,hi,_⟩⟩:=ha
 unfold latticelaw06_PageTurned.f
 rw [if_pos ⟨hl,hv⟩]
end Go.Proofs.Ythfhkcicpfnedaa.Pure
