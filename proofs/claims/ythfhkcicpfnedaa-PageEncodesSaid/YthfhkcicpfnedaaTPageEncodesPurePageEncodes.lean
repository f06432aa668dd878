-- A part of the text PurePageEncodes, thinned by a program of this session.
import Derived.Test.YthfhkcicpfnedaaTPageEncodesStPageEncodes
import Derived.OpenShut
namespace Go.Proofs.Ythfhkcicpfnedaa.Pure
open Go.RowKit Go.Proofs.Ythfhkcicpfnedaa.Pr Go.Proofs.YthfhkcicpfnedaaW.PrintWords Go.Proofs.YthfhkcicpfnedaaW.PrintLast
theorem PageEncodes:latticelaw06_PageEncodes.Stated:=by
 intro a ha
 obtain ⟨_,_,_,hh,⟨_,hl,hg⟩,⟨_,hv,_⟩,⟨_,hi,_⟩⟩:=ha
 unfold latticelaw06_PageEncodes.f
 rw [if_pos ⟨hl,hv,hi,hg⟩]
end Go.Proofs.Ythfhkcicpfnedaa.Pure
