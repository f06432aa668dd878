/- A law's arguments, read as data. Written by a program of this session over the kit's printer. -/
import Derived.Test.YtbpnigldojpapaaOpen
import Derived.Test.YtbpnigldojpapaaGood
namespace Go.Proofs.Ytbpnigldojpapaa.Pr
open Go.RowKit Go.Proofs.YtbpnigldojpapaaW.PrintWords
theorem opn25 : Open.Opn Try.prog 25 k25 good25 bulk25 :=
  Open.opn_struct Try.underlying25 (by kernel_rfl) (Open.opnF_cons rfl (Open.opn_int Try.underlying3 (by kernel_rfl)) (Open.opnF_last rfl (Open.opn_int Try.underlying3 (by kernel_rfl)))) (fun x : S25 => (x.f0, x.f1)) (fun p => ⟨p.1, p.2⟩) (fun _ => rfl)
theorem opn34 : Open.Opn Try.prog 34 k34 good34 bulk34 :=
  Open.opn_struct Try.underlying34 (by kernel_rfl) (Open.opnF_cons rfl (Open.opn_int Try.underlying3 (by kernel_rfl)) (Open.opnF_cons rfl (Open.opn_int Try.underlying3 (by kernel_rfl)) (Open.opnF_last rfl (Open.opn_int Try.underlying3 (by kernel_rfl))))) (fun x : S34 => (x.f0, x.f1, x.f2)) (fun p => ⟨p.1, p.2.1, p.2.2⟩) (fun _ => rfl)
end Go.Proofs.Ytbpnigldojpapaa.Pr
