-- A part of the text CrcLaw, thinned by a program of this session.
import Derived.Test.YthfhkcicpfnedaaTPageTurnedCrcRef
import Derived.Lib.SlBytesConst
namespace Go.Proofs.Ythfhkcicpfnedaa.Crc
open Go.RowKit Go.Proofs.YthfhkcicpfnedaaW.PrintWords Go.Proofs.YthfhkcicpfnedaaW.PrintLast Go.Proofs.YthfhkcicpfnedaaW.PrintMore Go.Proofs.Ythfhkcicpfnedaa.Wire
open Go.Proofs.Ythfhkcicpfnedaa.Back (AllB numB numB_small)
set_option linter.unusedVariables false
set_option linter.unusedSimpArgs false
theorem le_AllB:∀ (k:Nat) (n:Int),AllB (le n k):=by
 intro k
 induction k with
 | zero=>intro n z hz;simp [le] at hz
 | succ k ih =>
  intro n z hz
  rw [le,List.mem_cons] at hz
  rcases hz with rfl|hz
  ·omega
  ·exact ih _ z hz
theorem AllB_append {xs ys:List Int} (h:AllB xs) (k:AllB ys):AllB (xs++ys):=fun x hx=>(List.mem_append.1 hx).elim (h x) (k x)
theorem crcS_append (s:Nat) (xs ys:List Int):crcS s (xs++ys)=crcS (crcS s xs) ys:=List.foldl_append
end Go.Proofs.Ythfhkcicpfnedaa.Crc
