-- A part of the text PurePageDecodes, thinned by a program of this session.
import Derived.Test.YthfhkcicpfnedaaTPageDecodesStPageDecodes
import Derived.OpenShut
namespace Go.Proofs.Ythfhkcicpfnedaa.Pure
open Go.RowKit Go.Proofs.Ythfhkcicpfnedaa.Pr Go.Proofs.YthfhkcicpfnedaaW.PrintWords Go.Proofs.YthfhkcicpfnedaaW.PrintLast
theorem PageDecodes:latticelaw06_PageDecodes.Stated:=by
 intro a0 h0
 unfold latticelaw06_PageDecodes.f
 rw [if_pos]
 intro x hx
 have:=Go.bounds_u8 (h0.2.2 x hx)
 omega
end Go.Proofs.Ythfhkcicpfnedaa.Pure
