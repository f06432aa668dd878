-- A part of the text PurePageGrows, thinned by a program of this session.
import Derived.Test.YthfhkcicpfnedaaTPageGrowsStPageGrows
import Derived.OpenShut
namespace Go.Proofs.Ythfhkcicpfnedaa.Pure
open Go.RowKit Go.Proofs.Ythfhkcicpfnedaa.Pr Go.Proofs.YthfhkcicpfnedaaW.PrintWords Go.Proofs.YthfhkcicpfnedaaW.PrintLast
theorem PageGrows:latticelaw06_PageGrows.Stated:=by
 intro a ha
 obtain ⟨_,_,_,hh,⟨_,hl,hg⟩,⟨_,hv,_⟩,⟨_,hi,_⟩⟩:=ha
 unfold latticelaw06_PageGrows.f
 rw [if_pos ⟨hl,hv⟩]
end Go.Proofs.Ythfhkcicpfnedaa.Pure
