-- A part of the text RecChk, thinned by a program of this session.
import Derived.Test.YtgjibcfkjaedfaaTHRecChkA
import Derived.Test.YtgjibcfkjaedfaaTHRecChkB
import Derived.Test.YtgjibcfkjaedfaaTHRecChkE
namespace Go.Proofs.Ytgjibcfkjaedfaa.Rec
open Go.RowKit Go.Proofs.YtgjibcfkjaedfaaW.PrintWords Go.Proofs.YtgjibcfkjaedfaaW.PrintLast Go.Proofs.YtgjibcfkjaedfaaW.PrintMore Go.Proofs.Ytgjibcfkjaedfaa.Wire Go.Proofs.Ytgjibcfkjaedfaa.Crc Go.Proofs.Ytgjibcfkjaedfaa.Pr Go.Proofs.Ytgjibcfkjaedfaa.Page
open Go.Proofs.Ytgjibcfkjaedfaa.Back (AllB)
open Go.Proofs.Ytgjibcfkjaedfaa.Pure
set_option linter.unusedVariables false
set_option linter.unusedSimpArgs false
theorem reccheck_ok (a1 a2 a3 a4 a5 a6:Int) (a7 a8:ByteArray) (hv:a8.size≤140737488351232) (w:World):Calls Try.prog 55 #[.agg #[.int .i64 a1,.int .i64 a2,.int .i64 a3,.int .i64 a4,.int .i64 a5,.int .i64 a6,.string a7,.string a8]] w fun e w'=>e=.returned (.int .i64 (if rightB a1 a2 a3 a4 a5 a6 a7 a8=true then 0 else 90))∧Below w.heap.size w w':=by
 by_cases ha:1≤a1∧a1≤1099511627776∧0≤a2∧a2≤1099511627776
 ·by_cases k1:a3=1
  ·subst k1
   exact chk1 a1 a2 a4 a5 a6 a7 a8 hv ha w
  by_cases k2:a3=2
  ·subst k2
   exact chk2 a1 a2 a4 a5 a6 a7 a8 hv ha w
  by_cases k3:a3=3
  ·subst k3
   exact chk3 a1 a2 a4 a5 a6 a7 a8 hv ha w
  by_cases k4:a3=4
  ·subst k4
   exact chk4 a1 a2 a4 a5 a6 a7 a8 hv ha w
  by_cases k5:a3=5
  ·subst k5
   exact chk5 a1 a2 a4 a5 a6 a7 a8 hv ha w
  by_cases k6:a3=6
  ·subst k6
   exact chk6 a1 a2 a4 a5 a6 a7 a8 hv ha w
  by_cases k7:a3=7
  ·subst k7
   exact chk7 a1 a2 a4 a5 a6 a7 a8 hv ha w
  have h:=chk0 a1 a2 a3 a4 a5 a6 a7 a8 hv ⟨k1,k2,k3,k4,k5,k6,k7⟩ w
  rw [if_neg (by unfold rightB;rw [if_neg k7,if_neg k1,if_neg k2,if_neg k3,if_neg k4,if_neg (by omega),Bool.and_false,Bool.and_false];decide)]
  exact h
 ·have h:=chkN a1 a2 a3 a4 a5 a6 a7 a8 hv ha w
  rw [if_neg (by unfold rightB;rw [decide_eq_false ha,Bool.false_and];decide)]
  exact h
end Go.Proofs.Ytgjibcfkjaedfaa.Rec
