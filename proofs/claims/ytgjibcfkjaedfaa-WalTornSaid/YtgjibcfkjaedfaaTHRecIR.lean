-- Parts melded by a program of this session.
import Derived.Test.YtgjibcfkjaedfaaTHPageRef
import Derived.Lib.ConvBytes
namespace Go.Proofs.Ytgjibcfkjaedfaa.Rec
open Go.RowKit Go.Proofs.YtgjibcfkjaedfaaW.PrintWords Go.Proofs.YtgjibcfkjaedfaaW.PrintLast Go.Proofs.YtgjibcfkjaedfaaW.PrintMore Go.Proofs.Ytgjibcfkjaedfaa.Wire Go.Proofs.Ytgjibcfkjaedfaa.Crc Go.Proofs.Ytgjibcfkjaedfaa.Pr Go.Proofs.Ytgjibcfkjaedfaa.Page
open Go.Proofs.Ytgjibcfkjaedfaa.Back (AllB)
set_option linter.unusedVariables false
set_option linter.unusedSimpArgs false
theorem C_bytes (W:World) (e:TypeId) (s:ByteArray) (hs:s.size≤9223372036854775807):Kd.C (Kd.int .u8) (Lib.bytesWorld W e s) (some ⟨W.heap.size,0,none⟩) (bytesOf s).length (bytesOf s):=by
 have hl:=bytesOf_length s
 refine ⟨rfl,by omega,fun _=>⟨_,rfl,fun j p hj=>⟨[.int .u8 p],rfl,rfl,fun i u hu=>?_⟩⟩⟩
 obtain rfl:i=0:=by
  rcases Nat.eq_zero_or_pos i with h|h
  ·exact h
  ·rw [List.getElem?_eq_none (by simp;omega)] at hu
   exact absurd hu (by simp)
 simp only [List.getElem?_cons_zero,Option.some.injEq] at hu
 subst hu
 have e1:(⟨W.heap.size,0,none⟩:Addr).add (j*(Kd.int .u8).sz+0)=⟨W.heap.size,j,none⟩:=by
  have:(Kd.int .u8).sz=1:=rfl
  rw [this]
  simp [Addr.add]
  exact fun h=>h.symm
 have hj':j < s.size:=by
  have:=(List.getElem?_eq_some_iff.1 hj).1
  omega
 rw [e1,Lib.bytesWorld_cell W e s j hj']
 have hd:j < s.data.toList.length:=by rw [data_length];exact hj'
 simp only [bytesOf,List.getElem?_map,List.getElem?_eq_getElem hd,Option.map_some,Option.some.injEq] at hj
 rw [List.getD_eq_getElem?_getD,List.getElem?_eq_getElem hd,Option.getD_some,← hj]
theorem bytes_below0 (W:World) (e:TypeId) (s:ByteArray):Below W.heap.size W (Lib.bytesWorld W e s):=bytes_below (Below.refl _ _) (Nat.le_refl _) e s
def imageB (s:ByteArray):Bool:=decide ((decF (bytesOf s)).2=0)&&decide ((decF (bytesOf s)).1.2.1=0)
set_option maxHeartbeats 8000000 in
set_option maxRecDepth 100000 in
theorem image_ok (s:ByteArray) (hs:s.size≤140737488351232) (w:World) :
  Calls Try.prog 70 #[.string s] w fun e w'=>e=.returned (.bool (imageB s))∧Below w.heap.size w w':=by
 have kb:=fun W=>print_bytes (P:=Try.prog) 9 67 5 Try.underlying9 Try.underlying67 Try.underlying5 s W
 have hl:=bytesOf_length s
 have hde:=decode_ok (some ⟨w.heap.size,0,none⟩) (grownCap w s.size 0 5) (bytesOf s) _ (C_bytes w 5 s (by omega)) (by rw [hl];exact grownCap_ge _ _ _ _) (bytesOf_allB s)
 rw [hl] at hde
 have HB:=Aside0.mk (bytes_below0 w 5 s)
 have hbool:imageB s=(decide ((decF (bytesOf s)).2=0)&&decide ((decF (bytesOf s)).1.2.1=0)):=rfl
 rw [hbool]
 clear hs hl hbool
 generalize decF (bytesOf s)=D at hde ⊢
 obtain ⟨⟨x0,x1,x2,x3,l4,l5,l6⟩,f⟩:=D
 dsimp only at hde ⊢
 by_cases hf:f=0
 ·subst hf
  rw [decide_eq_true rfl,Bool.true_and]
  go_enter Try.func70,Try.ntmps70
  go_wp2_with (go_at_call 92;(with_reducible refine hde.mono ?_);rintro e w2 ⟨u,rfl,hr,hB⟩;obtain ⟨A4,c4,A5,c5,A6,c6,rfl,_⟩:=hr;(have hbx:=blk_newN w2 (.cells #[.int .i64 x0,.int .i64 x1,.int .i64 x2,.string x3,.slice A4 l4.length c4,.slice A5 l5.length c5,.slice A6 l6.length c6] 113));obtain ⟨⟨b0,b1,b2,b3,b4,b5,b6⟩,_⟩:=NdAt.cells hbx;(replace HB:=Aside0.mk (below_alloc (below_from2 HB.out (Nat.le_refl _) hB) (.cells #[.int .i64 x0,.int .i64 x1,.int .i64 x2,.string x3,.slice A4 l4.length c4,.slice A5 l5.length c5,.slice A6 l6.length c6] 113)));clear hB hde hbx)
  go_ret
  exact ⟨rfl,HB.out⟩
 ·rw [decide_eq_false hf,Bool.false_and]
  have d1:(f==0)=false:=beq_eq_false_iff_ne.mpr hf
  have d2:=eq_false hf
  clear hf
  go_enter Try.func70,Try.ntmps70
  go_wp2_with (go_at_call 92;(with_reducible refine hde.mono ?_);rintro e w2 ⟨u,rfl,hr,hB⟩;obtain ⟨A4,c4,A5,c5,A6,c6,rfl,_⟩:=hr;(replace HB:=Aside0.mk (below_alloc (below_from2 HB.out (Nat.le_refl _) hB) (.cells #[.int .i64 x0,.int .i64 x1,.int .i64 x2,.string x3,.slice A4 l4.length c4,.slice A5 l5.length c5,.slice A6 l6.length c6] 113)));clear hB hde)
  go_ret
  exact ⟨rfl,HB.out⟩
end Go.Proofs.Ytgjibcfkjaedfaa.Rec


-- A part of the text RecRgt, thinned by a program of this session.
namespace Go.Proofs.Ytgjibcfkjaedfaa.Rec
open Go.RowKit Go.Proofs.YtgjibcfkjaedfaaW.PrintWords Go.Proofs.YtgjibcfkjaedfaaW.PrintLast Go.Proofs.YtgjibcfkjaedfaaW.PrintMore Go.Proofs.Ytgjibcfkjaedfaa.Wire Go.Proofs.Ytgjibcfkjaedfaa.Crc Go.Proofs.Ytgjibcfkjaedfaa.Pr Go.Proofs.Ytgjibcfkjaedfaa.Page
open Go.Proofs.Ytgjibcfkjaedfaa.Back (AllB)
open Go.Proofs.Ytgjibcfkjaedfaa.Pure
set_option linter.unusedVariables false
set_option linter.unusedSimpArgs false
def noText (s:ByteArray):Bool:=s.toList.isEmpty
def pagedB (n:Int):Bool:=decide (1≤n∧n≤4096)
def keyB (s:ByteArray):Bool:=decide (ckey s=0)
def valB (s:ByteArray):Bool:=!badV s
def rightB (lsn epoch kind page other req:Int) (key value:ByteArray):Bool :=
  decide (1≤lsn∧lsn≤1099511627776∧0≤epoch∧epoch≤1099511627776) &&
  (if kind=7 then decide (page=0)&&((decide (other=1)&&valB value) || (decide (other=2)&&noText value))&&decide (1≤req∧req≤1099511627776)&&keyB key
   else decide (req=0) &&
    (if kind=1 then decide (page=0)&&decide (other=0)&&noText key&&noText value
     else if kind=2 then pagedB page&&decide (other=0)&&keyB key&&valB value
     else if kind=3 then pagedB page&&decide (other=0)&&keyB key&&noText value
     else if kind=4 then pagedB page&&decide (other=0)&&noText key&&imageB value
     else if kind=5∨kind=6 then pagedB page&&pagedB other&&keyB key&&noText value
     else false))
def RcAt (w:World) (g:Nat) (lsn epoch kind page other req:Int) (key value:ByteArray):Prop:=w.heap[g]?=some (.cells #[.int .i64 lsn,.int .i64 epoch,.int .i64 kind,.int .i64 page,.int .i64 other,.int .i64 req,.string key,.string value] 53 (0,0))
theorem RcAt.cells {w:World} {g:Nat} {lsn epoch kind page other req:Int} {key value:ByteArray} (h:RcAt w g lsn epoch kind page other req key value):(w.cell? ⟨g,0,none⟩=some (.int .i64 lsn)∧w.cell? ⟨g,1,none⟩=some (.int .i64 epoch)∧w.cell? ⟨g,2,none⟩=some (.int .i64 kind)∧w.cell? ⟨g,3,none⟩=some (.int .i64 page)∧w.cell? ⟨g,4,none⟩=some (.int .i64 other)∧w.cell? ⟨g,5,none⟩=some (.int .i64 req)∧w.cell? ⟨g,6,none⟩=some (.string key)∧w.cell? ⟨g,7,none⟩=some (.string value))∧(w.frozen? ⟨g,0,none⟩=false∧w.frozen? ⟨g,1,none⟩=false∧w.frozen? ⟨g,2,none⟩=false∧w.frozen? ⟨g,3,none⟩=false∧w.frozen? ⟨g,4,none⟩=false∧w.frozen? ⟨g,5,none⟩=false∧w.frozen? ⟨g,6,none⟩=false∧w.frozen? ⟨g,7,none⟩=false):=by
  unfold RcAt at h
  simp [World.cell?,World.frozen?,h]
theorem RcAt.lt {w:World} {g:Nat} {lsn epoch kind page other req:Int} {key value:ByteArray} (h:RcAt w g lsn epoch kind page other req key value):g < w.heap.size:=(Array.getElem?_eq_some_iff.1 h).1
theorem RcAt.chg {w w1:World} {S:Nat→Prop} {g:Nat} {lsn epoch kind page other req:Int} {key value:ByteArray} (h:RcAt w g lsn epoch kind page other req key value) (hc:Chg w w1 S) (hn:¬ S g):RcAt w1 g lsn epoch kind page other req key value:=hc.blk h hn
theorem RcAt.below {w w1:World} {g:Nat} {lsn epoch kind page other req:Int} {key value:ByteArray} (h:RcAt w g lsn epoch kind page other req key value) (hc:Below w.heap.size w w1):RcAt w1 g lsn epoch kind page other req key value:=h.chg (Chg.of_below hc (fun _=>False)) (fun h=>h)
theorem rc_new (w:World) (lsn epoch kind page other req:Int) (key value:ByteArray):RcAt (w.alloc (.cells #[.int .i64 lsn,.int .i64 epoch,.int .i64 kind,.int .i64 page,.int .i64 other,.int .i64 req,.string key,.string value] 53)) w.heap.size lsn epoch kind page other req key value:=blk_newN _ _
theorem below_drewN0 {b:Nat} {w w1:World} (h:Below b w w1) (n:Nat):Below b w (w1.drewN n):=pw_below_drewN h n
end Go.Proofs.Ytgjibcfkjaedfaa.Rec
