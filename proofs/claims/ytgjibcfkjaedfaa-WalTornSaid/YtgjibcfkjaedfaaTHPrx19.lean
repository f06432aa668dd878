-- A part of the text Prx19, thinned by a program of this session.
import Derived.Test.YtgjibcfkjaedfaaTHPrx0
import Derived.Test.YtgjibcfkjaedfaaTHRecRight
namespace Go.Proofs.Ytgjibcfkjaedfaa.Pr
open Go.RowKit Go.Proofs.YtgjibcfkjaedfaaW.PrintWords Go.Proofs.YtgjibcfkjaedfaaW.PrintLast Go.Proofs.YtgjibcfkjaedfaaW.PrintMore
attribute [local go_sem] max2_int min2_int max_two min_two max_three min_three max_four min_four
set_option linter.unusedVariables false
set_option linter.unusedSimpArgs false
def latticeref09_Right.f (a0_0 a0_1 a0_2 a0_3 a0_4 a0_5:Int) (a0_6 a0_7:ByteArray):Option Bool:=if a0_7.size≤140737488351232 then some (Rec.rightB a0_0 a0_1 a0_2 a0_3 a0_4 a0_5 a0_6 a0_7) else none
theorem latticeref09_Right.calls (a0_0 a0_1 a0_2 a0_3 a0_4 a0_5:Int) (a0_6 a0_7:ByteArray) (r:Bool) (w:World) (h:latticeref09_Right.f a0_0 a0_1 a0_2 a0_3 a0_4 a0_5 a0_6 a0_7=some r) :
  Calls Try.prog 41 #[.agg #[.int .i64 a0_0,.int .i64 a0_1,.int .i64 a0_2,.int .i64 a0_3,.int .i64 a0_4,.int .i64 a0_5,.string a0_6,.string a0_7]] w fun e w'=>e=.returned (.bool r)∧Below w.heap.size w w':=by
 unfold latticeref09_Right.f at h
 split at h
 ·rename_i hn
  injection h with h
  subst h
  exact Rec.refright_ok a0_0 a0_1 a0_2 a0_3 a0_4 a0_5 a0_6 a0_7 hn w
 ·cases h
end Go.Proofs.Ytgjibcfkjaedfaa.Pr
