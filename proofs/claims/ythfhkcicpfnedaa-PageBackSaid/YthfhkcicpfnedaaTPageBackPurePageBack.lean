-- A part of the text PurePageBack, thinned by a program of this session.
import Derived.Test.YthfhkcicpfnedaaTPageBackStPageBack
import Derived.OpenShut
namespace Go.Proofs.Ythfhkcicpfnedaa.Pure
open Go.RowKit Go.Proofs.Ythfhkcicpfnedaa.Pr Go.Proofs.YthfhkcicpfnedaaW.PrintWords Go.Proofs.YthfhkcicpfnedaaW.PrintLast
theorem PageBack:latticelaw06_PageBack.Stated:=by
 intro a a1 ha h0
 obtain ⟨_,_,_,hh,⟨_,hl,hg⟩,⟨_,hv,_⟩,⟨_,hi,_⟩⟩:=ha
 unfold latticelaw06_PageBack.f
 rw [if_pos]
 refine ⟨hl,hv,fun x hx=>?_⟩
 have:=Go.bounds_u8 (h0.2.2 x hx)
 omega
end Go.Proofs.Ythfhkcicpfnedaa.Pure
