-- A part of the text Opn, thinned by a program of this session.
import Derived.Test.YthfhkcicpfnedaaTPageGrowsOpen
import Derived.Test.YthfhkcicpfnedaaTPageGrowsGood
namespace Go.Proofs.Ythfhkcicpfnedaa.Pr
open Go.RowKit Go.Proofs.YthfhkcicpfnedaaW.PrintWords
theorem opn25:Open.Opn Try.prog 25 k25 good25 bulk25 :=
 Open.opn_struct Try.underlying25 (by kernel_rfl) (Open.opnF_cons rfl (Open.opn_int Try.underlying3 (by kernel_rfl)) (Open.opnF_cons rfl (Open.opn_int Try.underlying3 (by kernel_rfl)) (Open.opnF_cons rfl (Open.opn_int Try.underlying3 (by kernel_rfl)) (Open.opnF_cons rfl (Open.opn_string Try.underlying9 (by kernel_rfl)) (Open.opnF_cons rfl (Open.opn_slice (B:=16) Try.underlying22 (by kernel_rfl) (by kernel_rfl) (Open.opn_string Try.underlying9 (by kernel_rfl))) (Open.opnF_cons rfl (Open.opn_slice (B:=16) Try.underlying22 (by kernel_rfl) (by kernel_rfl) (Open.opn_string Try.underlying9 (by kernel_rfl))) (Open.opnF_last rfl (Open.opn_slice (B:=8) Try.underlying23 (by kernel_rfl) (by kernel_rfl) (Open.opn_int Try.underlying3 (by kernel_rfl)))))))))) (fun x:S25=>(x.f0,x.f1,x.f2,x.f3,x.f4,x.f5,x.f6)) (fun p=>⟨p.1,p.2.1,p.2.2.1,p.2.2.2.1,p.2.2.2.2.1,p.2.2.2.2.2.1,p.2.2.2.2.2.2⟩) (fun _=>rfl)
end Go.Proofs.Ythfhkcicpfnedaa.Pr
