-- A part of the text RecLaw, thinned by a program of this session.
import Derived.Test.YtgjibcfkjaedfaaTHRecEnc
import Derived.Test.YtgjibcfkjaedfaaTHRecRefDec
namespace Go.Proofs.Ytgjibcfkjaedfaa.Rec
open Go.RowKit Go.Proofs.YtgjibcfkjaedfaaW.PrintWords Go.Proofs.YtgjibcfkjaedfaaW.PrintLast Go.Proofs.YtgjibcfkjaedfaaW.PrintMore Go.Proofs.Ytgjibcfkjaedfaa.Wire Go.Proofs.Ytgjibcfkjaedfaa.Crc Go.Proofs.Ytgjibcfkjaedfaa.Pr Go.Proofs.Ytgjibcfkjaedfaa.Page
open Go.Proofs.Ytgjibcfkjaedfaa.Back (AllB)
open Go.Proofs.Ytgjibcfkjaedfaa.Pure
set_option linter.unusedVariables false
set_option linter.unusedSimpArgs false
theorem eqRc (W:World) (a1 a2 a3 a4 a5 a6:Int) (a7 a8:ByteArray):(binOp .eql 53 (.agg #[.int .i64 a1,.int .i64 a2,.int .i64 a3,.int .i64 a4,.int .i64 a5,.int .i64 a6,.string a7,.string a8]) (.agg #[.int .i64 a1,.int .i64 a2,.int .i64 a3,.int .i64 a4,.int .i64 a5,.int .i64 a6,.string a7,.string a8])).run Try.prog W=.ok (.bool true) W:=by
 rw [run_eql_struct,eqA_of (d:=9999) (r:=(a1==a1&&(a2==a2&&(a3==a3&&(a4==a4&&(a5==a5&&(a6==a6&&(a7.toList==a7.toList&&a8.toList==a8.toList)))))))) Try.underlying53 (by kernel_rfl)]
 ·simp
 ·exact eqf_cons (a:=.int .i64 a1) (b:=.int .i64 a1) (by decide) (by kernel_rfl) (by kernel_rfl) (by kernel_rfl) (eqf_cons (a:=.int .i64 a2) (b:=.int .i64 a2) (by decide) (by kernel_rfl) (by kernel_rfl) (by kernel_rfl) (eqf_cons (a:=.int .i64 a3) (b:=.int .i64 a3) (by decide) (by kernel_rfl) (by kernel_rfl) (by kernel_rfl) (eqf_cons (a:=.int .i64 a4) (b:=.int .i64 a4) (by decide) (by kernel_rfl) (by kernel_rfl) (by kernel_rfl) (eqf_cons (a:=.int .i64 a5) (b:=.int .i64 a5) (by decide) (by kernel_rfl) (by kernel_rfl) (by kernel_rfl) (eqf_cons (a:=.int .i64 a6) (b:=.int .i64 a6) (by decide) (by kernel_rfl) (by kernel_rfl) (by kernel_rfl) (eqf_cons (a:=.string a7) (b:=.string a7) (by decide) (by kernel_rfl) (by kernel_rfl) (by exact run_equalIn_string W 9998 9 a7 a7 Try.underlying9) (eqf_last (a:=.string a8) (b:=.string a8) (by decide) (by kernel_rfl) (by kernel_rfl) (by exact run_equalIn_string W 9998 9 a8 a8 Try.underlying9))))))))
theorem RcAt.step {w w1:World} {g:Nat} {a1 a2 a3 a4 a5 a6:Int} {a7 a8:ByteArray} (h:RcAt w g a1 a2 a3 a4 a5 a6 a7 a8) (hB:Below w.heap.size w w1) (o:Obj):RcAt (w1.alloc o) g a1 a2 a3 a4 a5 a6 a7 a8:=(h.below hB).below (below_alloc (Below.refl _ _) o)
end Go.Proofs.Ytgjibcfkjaedfaa.Rec
