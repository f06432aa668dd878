-- A part of the text RecRgt, thinned by a program of this session.
import Derived.Test.YteipehiiaggenaaTRecordDecodesRecImg
namespace Go.Proofs.Yteipehiiaggenaa.Rec
open Go.RowKit Go.Proofs.YteipehiiaggenaaW.PrintWords Go.Proofs.YteipehiiaggenaaW.PrintLast Go.Proofs.YteipehiiaggenaaW.PrintMore Go.Proofs.Yteipehiiaggenaa.Wire Go.Proofs.Yteipehiiaggenaa.Crc Go.Proofs.Yteipehiiaggenaa.Pr Go.Proofs.Yteipehiiaggenaa.Page
open Go.Proofs.Yteipehiiaggenaa.Back (AllB)
open Go.Proofs.Yteipehiiaggenaa.Pure
set_option linter.unusedVariables false
set_option linter.unusedSimpArgs false
def noText (s:ByteArray):Bool:=s.toList.isEmpty
def pagedB (n:Int):Bool:=decide (1≤n∧n≤4096)
def keyB (s:ByteArray):Bool:=decide (ckey s=0)
def valB (s:ByteArray):Bool:=!badV s
def rightB (lsn epoch kind page other req:Int) (key value:ByteArray):Bool :=
  decide (1≤lsn∧lsn≤1099511627776∧0≤epoch∧epoch≤1099511627776) &&
  (if kind=7 then decide (page=0)&&((decide (other=1)&&valB value) || (decide (other=2)&&noText value))&&decide (1≤req∧req≤1099511627776)&&keyB key
   else decide (req=0) &&
    (if kind=1 then decide (page=0)&&decide (other=0)&&noText key&&noText value
     else if kind=2 then pagedB page&&decide (other=0)&&keyB key&&valB value
     else if kind=3 then pagedB page&&decide (other=0)&&keyB key&&noText value
     else if kind=4 then pagedB page&&decide (other=0)&&noText key&&imageB value
     else if kind=5∨kind=6 then pagedB page&&pagedB other&&keyB key&&noText value
     else false))
def RcAt (w:World) (g:Nat) (lsn epoch kind page other req:Int) (key value:ByteArray):Prop:=w.heap[g]?=some (.cells #[.int .i64 lsn,.int .i64 epoch,.int .i64 kind,.int .i64 page,.int .i64 other,.int .i64 req,.string key,.string value] 23 (0,0))
theorem RcAt.cells {w:World} {g:Nat} {lsn epoch kind page other req:Int} {key value:ByteArray} (h:RcAt w g lsn epoch kind page other req key value):(w.cell? ⟨g,0,none⟩=some (.int .i64 lsn)∧w.cell? ⟨g,1,none⟩=some (.int .i64 epoch)∧w.cell? ⟨g,2,none⟩=some (.int .i64 kind)∧w.cell? ⟨g,3,none⟩=some (.int .i64 page)∧w.cell? ⟨g,4,none⟩=some (.int .i64 other)∧w.cell? ⟨g,5,none⟩=some (.int .i64 req)∧w.cell? ⟨g,6,none⟩=some (.string key)∧w.cell? ⟨g,7,none⟩=some (.string value))∧(w.frozen? ⟨g,0,none⟩=false∧w.frozen? ⟨g,1,none⟩=false∧w.frozen? ⟨g,2,none⟩=false∧w.frozen? ⟨g,3,none⟩=false∧w.frozen? ⟨g,4,none⟩=false∧w.frozen? ⟨g,5,none⟩=false∧w.frozen? ⟨g,6,none⟩=false∧w.frozen? ⟨g,7,none⟩=false):=by
  unfold RcAt at h
  simp [World.cell?,World.frozen?,h]
theorem RcAt.lt {w:World} {g:Nat} {lsn epoch kind page other req:Int} {key value:ByteArray} (h:RcAt w g lsn epoch kind page other req key value):g < w.heap.size:=(Array.getElem?_eq_some_iff.1 h).1
theorem RcAt.chg {w w1:World} {S:Nat→Prop} {g:Nat} {lsn epoch kind page other req:Int} {key value:ByteArray} (h:RcAt w g lsn epoch kind page other req key value) (hc:Chg w w1 S) (hn:¬ S g):RcAt w1 g lsn epoch kind page other req key value:=hc.blk h hn
theorem RcAt.below {w w1:World} {g:Nat} {lsn epoch kind page other req:Int} {key value:ByteArray} (h:RcAt w g lsn epoch kind page other req key value) (hc:Below w.heap.size w w1):RcAt w1 g lsn epoch kind page other req key value:=h.chg (Chg.of_below hc (fun _=>False)) (fun h=>h)
theorem rc_new (w:World) (lsn epoch kind page other req:Int) (key value:ByteArray):RcAt (w.alloc (.cells #[.int .i64 lsn,.int .i64 epoch,.int .i64 kind,.int .i64 page,.int .i64 other,.int .i64 req,.string key,.string value] 23)) w.heap.size lsn epoch kind page other req key value:=blk_newN _ _
theorem below_drewN0 {b:Nat} {w w1:World} (h:Below b w w1) (n:Nat):Below b w (w1.drewN n):=pw_below_drewN h n
end Go.Proofs.Yteipehiiaggenaa.Rec
