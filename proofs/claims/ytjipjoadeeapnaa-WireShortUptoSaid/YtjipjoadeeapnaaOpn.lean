/- A law's arguments, read as data. Written by a program of this session over the kit's printer. -/
import Derived.Test.YtjipjoadeeapnaaOpen
import Derived.Test.YtjipjoadeeapnaaGood
namespace Go.Proofs.Ytjipjoadeeapnaa.Pr
open Go.RowKit Go.Proofs.YtjipjoadeeapnaaW.PrintWords
theorem opn27 : Open.Opn Try.prog 27 k27 good27 bulk27 :=
  Open.opn_struct Try.underlying27 (by kernel_rfl) (Open.opnF_cons rfl (Open.opn_int Try.underlying3 (by kernel_rfl)) (Open.opnF_cons rfl (Open.opn_int Try.underlying3 (by kernel_rfl)) (Open.opnF_last rfl (Open.opn_string Try.underlying9 (by kernel_rfl))))) (fun x : S27 => (x.f0, x.f1, x.f2)) (fun p => ⟨p.1, p.2.1, p.2.2⟩) (fun _ => rfl)
end Go.Proofs.Ytjipjoadeeapnaa.Pr
