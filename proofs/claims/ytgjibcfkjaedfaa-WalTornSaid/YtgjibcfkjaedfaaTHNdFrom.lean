-- Parts melded by a program of this session.
import Derived.Test.YtgjibcfkjaedfaaTHRead
namespace Go.Proofs.Ytgjibcfkjaedfaa.Wire
open Go.RowKit Go.Proofs.YtgjibcfkjaedfaaW.PrintWords Go.Proofs.YtgjibcfkjaedfaaW.PrintLast Go.Proofs.YtgjibcfkjaedfaaW.PrintMore
open Go.Proofs.Ytgjibcfkjaedfaa.Back (numB numB_small numB_eight AllB hor hor_lt)
set_option linter.unusedVariables false
set_option linter.unusedSimpArgs false
def WrFrom (b:Nat) (w:World) (g:Nat) (xs:List Int):Prop:=∃ F,WrAt w g xs F∧∀ k,F k→b≤k
def RdFrom (b:Nat) (w:World) (g:Nat) (xs:List Int) (wrong:Int):Prop:=∃ F,RdAt w g xs wrong F∧∀ k,F k→b≤k
theorem WrFrom.below {b:Nat} {w w1:World} {g:Nat} {xs:List Int} (h:WrFrom b w g xs) (hB:Below w.heap.size w w1):WrFrom b w1 g xs:=by
 obtain ⟨F,h1,h2⟩:=h
 exact ⟨F,h1.below hB,h2⟩
theorem RdFrom.below {b:Nat} {w w1:World} {g:Nat} {xs:List Int} {wrong:Int} (h:RdFrom b w g xs wrong) (hB:Below w.heap.size w w1):RdFrom b w1 g xs wrong:=by
 obtain ⟨F,h1,h2⟩:=h
 exact ⟨F,h1.below hB,h2⟩
theorem WrFrom.drewN {b:Nat} {w:World} {g:Nat} {xs:List Int} (h:WrFrom b w g xs) (n:Nat):WrFrom b (w.drewN n) g xs:=h
theorem RdFrom.drewN {b:Nat} {w:World} {g:Nat} {xs:List Int} {wrong:Int} (h:RdFrom b w g xs wrong) (n:Nat):RdFrom b (w.drewN n) g xs wrong:=h
theorem below_from {w w1 w2:World} {b:Nat} (h:Below b w w1) (hb:b≤w.heap.size) (k:Below w1.heap.size w1 w2):Below b w w2 :=
 h.trans ⟨k.os,k.tape,k.output,k.size,fun i hi=>k.block i (by have:=h.size;omega)⟩
theorem below_lower {w w1:World} {b:Nat} (h:Below w.heap.size w w1) (hb:b≤w.heap.size):Below b w w1:=⟨h.os,h.tape,h.output,h.size,fun i hi=>h.block i (by omega)⟩
theorem new_from (w:World):Calls Try.prog 73 #[] w fun e w'=>e=.returned (.pointer (some ⟨w.heap.size,0,none⟩))∧WrFrom w.heap.size w' w.heap.size []∧Below w.heap.size w w':=by
 refine (new_ok w).mono ?_
 rintro e w' ⟨rfl,h1,h2⟩
 exact ⟨rfl,⟨_,h1,fun k hk=>by rw [hk];exact Nat.le_refl _⟩,h2⟩
theorem num_from {b g:Nat} {xs:List Int} {w:World} (n size:Int) (hw:WrFrom b w g xs) (hb:b≤w.heap.size) (hn:n < 9223372036854775808) (hl:xs.length+8≤140737488355328) :
  Calls Try.prog 74 #[.pointer (some ⟨g,0,none⟩),.int .i64 n,.int .i64 size] w fun e w'=>e=.returned (.int .i64 (if numOk n size=true then 0 else 1))∧WrFrom b w' g (if numOk n size=true then xs++le n size.toNat else xs)∧Below b w w':=by
 obtain ⟨F,hF,hFb⟩:=hw
 by_cases h:numOk n size=true
 ·rw [if_pos h,if_pos h]
  refine (num_ok g xs F n size w h hF hl).mono ?_
  rintro e w' ⟨rfl,F',h1,h2,h3⟩
  exact ⟨rfl,⟨F',h1,fun k hk=>(h3 k hk).elim (hFb k) (fun h=>Nat.le_trans hb h)⟩,h2.below hb hFb⟩
 ·rw [if_neg h,if_neg h]
  refine (num_err _ n size w (by simpa using h) hn).mono ?_
  rintro e w' ⟨rfl,⟨nd,rfl⟩⟩
  exact ⟨rfl,⟨F,hF,hFb⟩,below_lower (pw_below_drewN (Below.refl _ _) _) hb⟩
theorem text_from {b g:Nat} {xs:List Int} {w:World} (s:ByteArray) (hw:WrFrom b w g xs) (hb:b≤w.heap.size) (hl:xs.length+8+65535≤140737488355328) :
  Calls Try.prog 75 #[.pointer (some ⟨g,0,none⟩),.string s] w fun e w'=>e=.returned (.int .i64 (if s.size≤65535 then 0 else 2))∧WrFrom b w' g (if s.size≤65535 then xs++(le s.size 2++bytesOf s) else xs)∧Below b w w':=by
 obtain ⟨F,hF,hFb⟩:=hw
 by_cases h:s.size≤65535
 ·rw [if_pos h,if_pos h]
  refine (text_ok g xs F s w h hF hl).mono ?_
  rintro e w' ⟨rfl,F',h1,h2,h3⟩
  exact ⟨rfl,⟨F',h1,fun k hk=>(h3 k hk).elim (hFb k) (fun h=>Nat.le_trans hb h)⟩,h2.below hb hFb⟩
 ·rw [if_neg h,if_neg h]
  refine (text_long _ s w (by omega)).mono ?_
  rintro e w' ⟨rfl,rfl⟩
  exact ⟨rfl,⟨F,hF,hFb⟩,Below.refl _ _⟩
theorem bytes_from {b g:Nat} {xs:List Int} {w:World} (hw:WrFrom b w g xs) (hl:xs.length≤140737488355328) :
  Calls Try.prog 76 #[.pointer (some ⟨g,0,none⟩)] w fun e w'=>∃ A c,e=.returned (.slice A xs.length c)∧xs.length≤c∧Kd.C (Kd.int .u8) w' A xs.length xs∧Below w.heap.size w w'∧(∀ ad,A=some ad→w.heap.size≤ad.block):=by
 obtain ⟨F,hF,hFb⟩:=hw
 refine (bytes_ok g xs F w hF hl).mono ?_
 rintro e w' ⟨u,rfl,hR,hB⟩
 obtain ⟨A,c,rfl,hlc,hC⟩:=Kd.R_reads hR
 exact ⟨A,c,rfl,hlc,hC,hB,fun ad e=>((Kd.R_bound hR).1 ad.block (by subst e;rfl)).2.1⟩
theorem of_from {A:Option Addr} {c:Nat} {xs:List Int} {w:World} (hr:Kd.C (Kd.int .u8) w A xs.length xs) (hl:xs.length≤140737488355328) :
  Calls Try.prog 78 #[.slice A xs.length c] w fun e w'=>∃ g,e=.returned (.pointer (some ⟨g,0,none⟩))∧RdFrom w.heap.size w' g xs 0∧Below w.heap.size w w':=by
 refine (of_ok A c xs w hr (Nat.le_trans hl (by decide))).mono ?_
 rintro e w' ⟨g,F,rfl,h1,h2,h3,h4⟩
 exact ⟨g,rfl,⟨F,h1,h4⟩,h2⟩
theorem rdnum_from {b g:Nat} {xs:List Int} {wrong:Int} {w:World} (size:Int) (hr:RdFrom b w g xs wrong) (hb:b≤w.heap.size) (hl:xs.length≤140737488355328) :
  Calls Try.prog 97 #[.pointer (some ⟨g,0,none⟩),.int .i64 size] w fun e w'=>e=.returned (.tuple #[.int .i64 (rdNum xs wrong size).1.1,.int .i64 (rdNum xs wrong size).1.2])∧RdFrom b w' g (rdNum xs wrong size).2.1 (rdNum xs wrong size).2.2∧Below b w w':=by
 obtain ⟨F,hF,hFb⟩:=hr
 refine (rdnum_ok g xs wrong size F w hF hl).mono ?_
 rintro e w' ⟨rfl,h1,h2⟩
 exact ⟨rfl,⟨F,h1,hFb⟩,h2.below hb (fun k hk=>by rw [show k=g from hk];exact hFb g hF.mine)⟩
theorem take2_ok {xs:List Int} (hb:AllB xs):2≤xs.length→0≤numB (xs.take 2)∧numB (xs.take 2) < 65536:=by
 intro h
 have hbt:AllB (xs.take 2):=fun x hx=>hb x (List.mem_of_mem_take hx)
 have hl:(xs.take 2).length=2:=by rw [List.length_take];omega
 have h1:=hor_lt hbt
 rw [numB_small hbt (by omega)]
 rw [hl] at h1
 omega
end Go.Proofs.Ytgjibcfkjaedfaa.Wire


-- A part of the text Nd, thinned by a program of this session.
namespace Go.Proofs.Ytgjibcfkjaedfaa.Pr
open Go.RowKit Go.Proofs.YtgjibcfkjaedfaaW.PrintWords Go.Proofs.YtgjibcfkjaedfaaW.PrintLast Go.Proofs.YtgjibcfkjaedfaaW.PrintMore
set_option linter.unusedVariables false
set_option linter.unusedSimpArgs false
theorem below_from2 {w w1 w2:World} {b:Nat} (h:Below b w w1) (hb:b≤w.heap.size) (k:Below w1.heap.size w1 w2):Below b w w2 :=
 h.trans ⟨k.os,k.tape,k.output,k.size,fun i hi=>k.block i (by have:=h.size;omega)⟩
def NdAt (w:World) (g:Nat) (x0 x1 x2:Int) (x3:ByteArray) (x4 x5 x6:Value):Prop:=w.heap[g]?=some (.cells #[.int .i64 x0,.int .i64 x1,.int .i64 x2,.string x3,x4,x5,x6] 113 (0,0))
theorem NdAt.below {w w1:World} {g:Nat} {x0 x1 x2:Int} {x3:ByteArray} {x4 x5 x6:Value} (h:NdAt w g x0 x1 x2 x3 x4 x5 x6) (hc:Below w.heap.size w w1):NdAt w1 g x0 x1 x2 x3 x4 x5 x6:=(hc.block g (by
 have:=(Array.getElem?_eq_some_iff.1 h).1
 exact this)).trans h
theorem NdAt.lt {w:World} {g:Nat} {x0 x1 x2:Int} {x3:ByteArray} {x4 x5 x6:Value} (h:NdAt w g x0 x1 x2 x3 x4 x5 x6):g < w.heap.size:=(Array.getElem?_eq_some_iff.1 h).1
theorem NdAt.cells {w:World} {g:Nat} {x0 x1 x2:Int} {x3:ByteArray} {x4 x5 x6:Value} (h:NdAt w g x0 x1 x2 x3 x4 x5 x6):(w.cell? ⟨g,0,none⟩=some (.int .i64 x0)∧w.cell? ⟨g,1,none⟩=some (.int .i64 x1)∧w.cell? ⟨g,2,none⟩=some (.int .i64 x2)∧w.cell? ⟨g,3,none⟩=some (.string x3)∧w.cell? ⟨g,4,none⟩=some x4∧w.cell? ⟨g,5,none⟩=some x5∧w.cell? ⟨g,6,none⟩=some x6)∧(w.frozen? ⟨g,0,none⟩=false∧w.frozen? ⟨g,1,none⟩=false∧w.frozen? ⟨g,2,none⟩=false∧w.frozen? ⟨g,3,none⟩=false∧w.frozen? ⟨g,4,none⟩=false∧w.frozen? ⟨g,5,none⟩=false∧w.frozen? ⟨g,6,none⟩=false):=by
 unfold NdAt at h
 simp [World.cell?,World.frozen?,h]
theorem blk_newN (w:World) (o:Obj):(w.alloc o).heap[w.heap.size]?=some o:=by
 show (w.heap.push o)[w.heap.size]?=_
 simp
theorem NdAt.set7 {w:World} {g:Nat} {x0 x1 x2:Int} {x3:ByteArray} {x4 x5 x6:Value} (h:NdAt w g x0 x1 x2 x3 x4 x5 x6) (y0 y1 y2:Int) (y3:ByteArray) (y4 y5 y6:Value):NdAt (((((((w.setCell ⟨g,0,none⟩ (.int .i64 y0)).setCell ⟨g,1,none⟩ (.int .i64 y1)).setCell ⟨g,2,none⟩ (.int .i64 y2)).setCell ⟨g,3,none⟩ (.string y3)).setCell ⟨g,4,none⟩ y4).setCell ⟨g,5,none⟩ y5).setCell ⟨g,6,none⟩ y6) g y0 y1 y2 y3 y4 y5 y6:=by
 unfold NdAt at *
 have h0:=blk_put (cs':=#[.int .i64 y0,.int .i64 x1,.int .i64 x2,.string x3,x4,x5,x6]) h 0 (.int .i64 y0) rfl
 have h1:=blk_put (cs':=#[.int .i64 y0,.int .i64 y1,.int .i64 x2,.string x3,x4,x5,x6]) h0 1 (.int .i64 y1) rfl
 have h2:=blk_put (cs':=#[.int .i64 y0,.int .i64 y1,.int .i64 y2,.string x3,x4,x5,x6]) h1 2 (.int .i64 y2) rfl
 have h3:=blk_put (cs':=#[.int .i64 y0,.int .i64 y1,.int .i64 y2,.string y3,x4,x5,x6]) h2 3 (.string y3) rfl
 have h4:=blk_put (cs':=#[.int .i64 y0,.int .i64 y1,.int .i64 y2,.string y3,y4,x5,x6]) h3 4 (y4) rfl
 have h5:=blk_put (cs':=#[.int .i64 y0,.int .i64 y1,.int .i64 y2,.string y3,y4,y5,x6]) h4 5 (y5) rfl
 have h6:=blk_put (cs':=#[.int .i64 y0,.int .i64 y1,.int .i64 y2,.string y3,y4,y5,y6]) h5 6 (y6) rfl
 exact h6
theorem below_setN {w W:World} {p:Addr} {u:Value} {b:Nat} (h:Below b w W) (hg:b≤p.block):Below b w (W.setCell p u):=⟨h.os,h.tape,h.output,Nat.le_trans h.size (by simp [World.setCell]),fun k hk=>(Below.heap_setCell W p u k (by omega)).trans (h.block k hk)⟩
theorem below_set7 {w W:World} {g b:Nat} {y0 y1 y2 y3 y4 y5 y6:Value} (h:Below b w W) (hg:b≤g):Below b w (((((((W.setCell ⟨g,0,none⟩ y0).setCell ⟨g,1,none⟩ y1).setCell ⟨g,2,none⟩ y2).setCell ⟨g,3,none⟩ y3).setCell ⟨g,4,none⟩ y4).setCell ⟨g,5,none⟩ y5).setCell ⟨g,6,none⟩ y6) :=
 below_setN (below_setN (below_setN (below_setN (below_setN (below_setN (below_setN h hg) hg) hg) hg) hg) hg) hg
end Go.Proofs.Ytgjibcfkjaedfaa.Pr
