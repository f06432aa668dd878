/- A law's arguments, read as data. Written by a program of this session over the kit's printer. -/
import Derived.Test.YtjbddcaamefgaaaOpen
import Derived.Test.YtjbddcaamefgaaaGood
namespace Go.Proofs.Ytjbddcaamefgaaa.Pr
open Go.RowKit Go.Proofs.YtjbddcaamefgaaaW.PrintWords
theorem opn23 : Open.Opn Try.prog 23 k23 good23 bulk23 :=
  Open.opn_struct Try.underlying23 (by kernel_rfl) (Open.opnF_cons rfl (Open.opn_int Try.underlying3 (by kernel_rfl)) (Open.opnF_last rfl (Open.opn_int Try.underlying3 (by kernel_rfl)))) (fun x : S23 => (x.f0, x.f1)) (fun p => ⟨p.1, p.2⟩) (fun _ => rfl)
theorem opn36 : Open.Opn Try.prog 36 k36 good36 bulk36 :=
  Open.opn_struct Try.underlying36 (by kernel_rfl) (Open.opnF_cons rfl (Open.opn_int Try.underlying3 (by kernel_rfl)) (Open.opnF_last rfl (Open.opn_int Try.underlying3 (by kernel_rfl)))) (fun x : S36 => (x.f0, x.f1)) (fun p => ⟨p.1, p.2⟩) (fun _ => rfl)
theorem opn38 : Open.Opn Try.prog 38 k38 good38 bulk38 :=
  Open.opn_struct Try.underlying38 (by kernel_rfl) (Open.opnF_cons rfl (Open.opn_int Try.underlying3 (by kernel_rfl)) (Open.opnF_cons rfl (Open.opn_int Try.underlying3 (by kernel_rfl)) (Open.opnF_cons rfl (Open.opn_int Try.underlying3 (by kernel_rfl)) (Open.opnF_cons rfl opn36 (Open.opnF_last rfl opn36))))) (fun x : S38 => (x.f0, x.f1, x.f2, x.f3, x.f4)) (fun p => ⟨p.1, p.2.1, p.2.2.1, p.2.2.2.1, p.2.2.2.2⟩) (fun _ => rfl)
theorem opn55 : Open.Opn Try.prog 55 k55 good55 bulk55 :=
  Open.opn_struct Try.underlying55 (by kernel_rfl) (Open.opnF_cons rfl (Open.opn_int Try.underlying3 (by kernel_rfl)) (Open.opnF_cons rfl (Open.opn_int Try.underlying3 (by kernel_rfl)) (Open.opnF_last rfl (Open.opn_int Try.underlying3 (by kernel_rfl))))) (fun x : S55 => (x.f0, x.f1, x.f2)) (fun p => ⟨p.1, p.2.1, p.2.2⟩) (fun _ => rfl)
end Go.Proofs.Ytjbddcaamefgaaa.Pr
