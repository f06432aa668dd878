-- A part of the text Nd, thinned by a program of this session.
import Derived.Test.YteipehiiaggenaaTRecordDecodesFrom
namespace Go.Proofs.Yteipehiiaggenaa.Pr
open Go.RowKit Go.Proofs.YteipehiiaggenaaW.PrintWords Go.Proofs.YteipehiiaggenaaW.PrintLast Go.Proofs.YteipehiiaggenaaW.PrintMore
set_option linter.unusedVariables false
set_option linter.unusedSimpArgs false
theorem below_from2 {w w1 w2:World} {b:Nat} (h:Below b w w1) (hb:b≤w.heap.size) (k:Below w1.heap.size w1 w2):Below b w w2 :=
 h.trans ⟨k.os,k.tape,k.output,k.size,fun i hi=>k.block i (by have:=h.size;omega)⟩
def NdAt (w:World) (g:Nat) (x0 x1 x2:Int) (x3:ByteArray) (x4 x5 x6:Value):Prop:=w.heap[g]?=some (.cells #[.int .i64 x0,.int .i64 x1,.int .i64 x2,.string x3,x4,x5,x6] 79 (0,0))
theorem NdAt.below {w w1:World} {g:Nat} {x0 x1 x2:Int} {x3:ByteArray} {x4 x5 x6:Value} (h:NdAt w g x0 x1 x2 x3 x4 x5 x6) (hc:Below w.heap.size w w1):NdAt w1 g x0 x1 x2 x3 x4 x5 x6:=(hc.block g (by
 have:=(Array.getElem?_eq_some_iff.1 h).1
 exact this)).trans h
theorem NdAt.lt {w:World} {g:Nat} {x0 x1 x2:Int} {x3:ByteArray} {x4 x5 x6:Value} (h:NdAt w g x0 x1 x2 x3 x4 x5 x6):g < w.heap.size:=(Array.getElem?_eq_some_iff.1 h).1
theorem NdAt.cells {w:World} {g:Nat} {x0 x1 x2:Int} {x3:ByteArray} {x4 x5 x6:Value} (h:NdAt w g x0 x1 x2 x3 x4 x5 x6):(w.cell? ⟨g,0,none⟩=some (.int .i64 x0)∧w.cell? ⟨g,1,none⟩=some (.int .i64 x1)∧w.cell? ⟨g,2,none⟩=some (.int .i64 x2)∧w.cell? ⟨g,3,none⟩=some (.string x3)∧w.cell? ⟨g,4,none⟩=some x4∧w.cell? ⟨g,5,none⟩=some x5∧w.cell? ⟨g,6,none⟩=some x6)∧(w.frozen? ⟨g,0,none⟩=false∧w.frozen? ⟨g,1,none⟩=false∧w.frozen? ⟨g,2,none⟩=false∧w.frozen? ⟨g,3,none⟩=false∧w.frozen? ⟨g,4,none⟩=false∧w.frozen? ⟨g,5,none⟩=false∧w.frozen? ⟨g,6,none⟩=false):=by
 unfold NdAt at h
 simp [World.cell?,World.frozen?,h]
theorem blk_newN (w:World) (o:Obj):(w.alloc o).heap[w.heap.size]?=some o:=by
 show (w.heap.push o)[w.heap.size]?=_
 simp
theorem NdAt.set7 {w:World} {g:Nat} {x0 x1 x2:Int} {x3:ByteArray} {x4 x5 x6:Value} (h:NdAt w g x0 x1 x2 x3 x4 x5 x6) (y0 y1 y2:Int) (y3:ByteArray) (y4 y5 y6:Value):NdAt (((((((w.setCell ⟨g,0,none⟩ (.int .i64 y0)).setCell ⟨g,1,none⟩ (.int .i64 y1)).setCell ⟨g,2,none⟩ (.int .i64 y2)).setCell ⟨g,3,none⟩ (.string y3)).setCell ⟨g,4,none⟩ y4).setCell ⟨g,5,none⟩ y5).setCell ⟨g,6,none⟩ y6) g y0 y1 y2 y3 y4 y5 y6:=by
 unfold NdAt at *
 have h0:=blk_put (cs':=#[.int .i64 y0,.int .i64 x1,.int .i64 x2,.string x3,x4,x5,x6]) h 0 (.int .i64 y0) rfl
 have h1:=blk_put (cs':=#[.int .i64 y0,.int .i64 y1,.int .i64 x2,.string x3,x4,x5,x6]) h0 1 (.int .i64 y1) rfl
 have h2:=blk_put (cs':=#[.int .i64 y0,.int .i64 y1,.int .i64 y2,.string x3,x4,x5,x6]) h1 2 (.int .i64 y2) rfl
 have h3:=blk_put (cs':=#[.int .i64 y0,.int .i64 y1,.int .i64 y2,.string y3,x4,x5,x6]) h2 3 (.string y3) rfl
 have h4:=blk_put (cs':=#[.int .i64 y0,.int .i64 y1,.int .i64 y2,.string y3,y4,x5,x6]) h3 4 (y4) rfl
 have h5:=blk_put (cs':=#[.int .i64 y0,.int .i64 y1,.int .i64 y2,.string y3,y4,y5,x6]) h4 5 (y5) rfl
 have h6:=blk_put (cs':=#[.int .i64 y0,.int .i64 y1,.int .i64 y2,.string y3,y4,y5,y6]) h5 6 (y6) rfl
 exact h6
theorem below_setN {w W:World} {p:Addr} {u:Value} {b:Nat} (h:Below b w W) (hg:b≤p.block):Below b w (W.setCell p u):=⟨h.os,h.tape,h.output,Nat.le_trans h.size (by simp [World.setCell]),fun k hk=>(Below.heap_setCell W p u k (by omega)).trans (h.block k hk)⟩
theorem below_set7 {w W:World} {g b:Nat} {y0 y1 y2 y3 y4 y5 y6:Value} (h:Below b w W) (hg:b≤g):Below b w (((((((W.setCell ⟨g,0,none⟩ y0).setCell ⟨g,1,none⟩ y1).setCell ⟨g,2,none⟩ y2).setCell ⟨g,3,none⟩ y3).setCell ⟨g,4,none⟩ y4).setCell ⟨g,5,none⟩ y5).setCell ⟨g,6,none⟩ y6) :=
 below_setN (below_setN (below_setN (below_setN (below_setN (below_setN (below_setN h hg) hg) hg) hg) hg) hg) hg
end Go.Proofs.Yteipehiiaggenaa.Pr
