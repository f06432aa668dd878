-- A part of the text THRecRead, thinned by a program of this session.
import Derived.Test.YtgjibcfkjaedfaaTSTHRecV
import Derived.Test.YtgjibcfkjaedfaaTSTHRecChk
import Derived.Deep.RegionHeld3
namespace Go.Proofs.Ytgjibcfkjaedfaa.Rec
open Go.RowKit Go.Proofs.YtgjibcfkjaedfaaW.PrintWords Go.Proofs.YtgjibcfkjaedfaaW.PrintLast Go.Proofs.YtgjibcfkjaedfaaW.PrintMore Go.Proofs.Ytgjibcfkjaedfaa.Wire Go.Proofs.Ytgjibcfkjaedfaa.Crc Go.Proofs.Ytgjibcfkjaedfaa.Pr Go.Proofs.Ytgjibcfkjaedfaa.Page
open Go.Proofs.Ytgjibcfkjaedfaa.Back (AllB)
open Go.Proofs.Ytgjibcfkjaedfaa.Pure
set_option linter.unusedVariables false
set_option linter.unusedSimpArgs false
section
variable {w W w1:World} {g:Nat} {a1 a2 a3 a4 a5 a6:Int} {a7 a8:ByteArray}
theorem RcAt.set8 (h:RcAt w g a1 a2 a3 a4 a5 a6 a7 a8) (y1 y2 y3 y4 y5 y6:Int) (y7 y8:ByteArray):RcAt ((((((((w.setCell ⟨g,0,none⟩ (.int .i64 y1)).setCell ⟨g,1,none⟩ (.int .i64 y2)).setCell ⟨g,2,none⟩ (.int .i64 y3)).setCell ⟨g,3,none⟩ (.int .i64 y4)).setCell ⟨g,4,none⟩ (.int .i64 y5)).setCell ⟨g,5,none⟩ (.int .i64 y6)).setCell ⟨g,6,none⟩ (.string y7)).setCell ⟨g,7,none⟩ (.string y8)) g y1 y2 y3 y4 y5 y6 y7 y8:=by
 unfold RcAt at *
 have h0:=blk_put (cs':=#[.int .i64 y1,.int .i64 a2,.int .i64 a3,.int .i64 a4,.int .i64 a5,.int .i64 a6,.string a7,.string a8]) h 0 (.int .i64 y1) rfl
 have h1:=blk_put (cs':=#[.int .i64 y1,.int .i64 y2,.int .i64 a3,.int .i64 a4,.int .i64 a5,.int .i64 a6,.string a7,.string a8]) h0 1 (.int .i64 y2) rfl
 have h2:=blk_put (cs':=#[.int .i64 y1,.int .i64 y2,.int .i64 y3,.int .i64 a4,.int .i64 a5,.int .i64 a6,.string a7,.string a8]) h1 2 (.int .i64 y3) rfl
 have h3:=blk_put (cs':=#[.int .i64 y1,.int .i64 y2,.int .i64 y3,.int .i64 y4,.int .i64 a5,.int .i64 a6,.string a7,.string a8]) h2 3 (.int .i64 y4) rfl
 have h4:=blk_put (cs':=#[.int .i64 y1,.int .i64 y2,.int .i64 y3,.int .i64 y4,.int .i64 y5,.int .i64 a6,.string a7,.string a8]) h3 4 (.int .i64 y5) rfl
 have h5:=blk_put (cs':=#[.int .i64 y1,.int .i64 y2,.int .i64 y3,.int .i64 y4,.int .i64 y5,.int .i64 y6,.string a7,.string a8]) h4 5 (.int .i64 y6) rfl
 have h6:=blk_put (cs':=#[.int .i64 y1,.int .i64 y2,.int .i64 y3,.int .i64 y4,.int .i64 y5,.int .i64 y6,.string y7,.string a8]) h5 6 (.string y7) rfl
 have h7:=blk_put (cs':=#[.int .i64 y1,.int .i64 y2,.int .i64 y3,.int .i64 y4,.int .i64 y5,.int .i64 y6,.string y7,.string y8]) h6 7 (.string y8) rfl
 exact h7
theorem RcAt.set7 (h:RcAt w g a1 a2 a3 a4 a5 a6 a7 a8) (y:ByteArray):RcAt (w.setCell ⟨g,7,none⟩ (.string y)) g a1 a2 a3 a4 a5 a6 a7 y:=by
 unfold RcAt at *
 exact blk_put (cs':=#[.int .i64 a1,.int .i64 a2,.int .i64 a3,.int .i64 a4,.int .i64 a5,.int .i64 a6,.string a7,.string y]) h 7 (.string y) rfl
end
theorem below_set8 {w W:World} {g b:Nat} {y0 y1 y2 y3 y4 y5 y6 y7:Value} (h:Below b w W) (hg:b≤g):Below b w ((((((((W.setCell ⟨g,0,none⟩ y0).setCell ⟨g,1,none⟩ y1).setCell ⟨g,2,none⟩ y2).setCell ⟨g,3,none⟩ y3).setCell ⟨g,4,none⟩ y4).setCell ⟨g,5,none⟩ y5).setCell ⟨g,6,none⟩ y6).setCell ⟨g,7,none⟩ y7) :=
 below_setN (below_setN (below_setN (below_setN (below_setN (below_setN (below_setN (below_setN h hg) hg) hg) hg) hg) hg) hg) hg
end Go.Proofs.Ytgjibcfkjaedfaa.Rec
