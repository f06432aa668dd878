-- A part of the text Prx4, thinned by a program of this session.
import Derived.Test.YtgjibcfkjaedfaaTHPrx0
namespace Go.Proofs.Ytgjibcfkjaedfaa.Pr
open Go.RowKit Go.Proofs.YtgjibcfkjaedfaaW.PrintWords Go.Proofs.YtgjibcfkjaedfaaW.PrintLast Go.Proofs.YtgjibcfkjaedfaaW.PrintMore
attribute [local go_sem] max2_int min2_int max_two min_two max_three min_three max_four min_four
set_option linter.unusedVariables false
set_option linter.unusedSimpArgs false
mutual
def page_Size.l0:Nat→Int→List ByteArray→Int→Int→Int→Int→Int→ByteArray→List ByteArray→List ByteArray→List Int→Option (Int)
 | 0,_,_,_,_,_,_,_,_,_,_,_=>none
 | k+1,x3,x14,x15,x16,x109000,x109001,x109002,x109003,x109004,x109005,x109006=>if x16 < x15 then (if 0≤x16 then (if x16 < (x14.length:Int) then (page_Size.l0 k (wrap64 (x3+(wrap64 (2+((rdOf ByteArray.empty x14 x16).size:Int))))) x14 x15 (wrap64 (x16+1)) x109000 x109001 x109002 x109003 x109004 x109005 x109006) else (none)) else (none)) else (if x109000=0 then (page_Size.l1 k x3 x109005 (x109005.length:Int) 0) else (some (wrap64 (x3+(wrap64 (4*(x109006.length:Int)))))))
def page_Size.l1:Nat→Int→List ByteArray→Int→Int→Option (Int)
 | 0,_,_,_,_=>none
 | k+1,x3,x36,x37,x38=>if x38 < x37 then (if 0≤x38 then (if x38 < (x36.length:Int) then (page_Size.l1 k (wrap64 (x3+(wrap64 (2+((rdOf ByteArray.empty x36 x38).size:Int))))) x36 x37 (wrap64 (x38+1))) else (none)) else (none)) else (some x3)
end
def page_Size.f (k:Nat) (a0_0:Int) (a0_1:Int) (a0_2:Int) (a0_3:ByteArray) (l0_4:List ByteArray) (l0_5:List ByteArray) (l0_6:List Int):Option (Int):=page_Size.l0 k (wrap64 ((wrap64 (17+(a0_3.size:Int)))+4)) l0_4 (l0_4.length:Int) 0 a0_0 a0_1 a0_2 a0_3 l0_4 l0_5 l0_6
set_option maxHeartbeats 8000000 in
set_option maxRecDepth 100000 in
theorem page_Size.calls (k:Nat) (a0_0:Int) (a0_1:Int) (a0_2:Int) (a0_3:ByteArray) (A0_4:Option Addr) (c0_4:Nat) (l0_4:List ByteArray) (A0_5:Option Addr) (c0_5:Nat) (l0_5:List ByteArray) (A0_6:Option Addr) (c0_6:Nat) (l0_6:List Int) (r:Int) (w:World) (hr0_4:Kd.C Kd.string w A0_4 l0_4.length l0_4) (hc0_4:l0_4.length≤c0_4) (hr0_5:Kd.C Kd.string w A0_5 l0_5.length l0_5) (hc0_5:l0_5.length≤c0_5) (hr0_6:Kd.C (Kd.int .i64) w A0_6 l0_6.length l0_6) (hc0_6:l0_6.length≤c0_6) (h:page_Size.f k a0_0 a0_1 a0_2 a0_3 l0_4 l0_5 l0_6=some r) :
  Calls Try.prog 117 #[.agg #[.int .i64 a0_0,.int .i64 a0_1,.int .i64 a0_2,.string a0_3,.slice A0_4 l0_4.length c0_4,.slice A0_5 l0_5.length c0_5,.slice A0_6 l0_6.length c0_6]] w fun e w'=>e=.returned (.int .i64 r)∧Below w.heap.size w w':=by
 have hu113:=Try.underlying113
 have HR0_4:=Aside0.mk hr0_4
 have HC0_4:=Aside0.mk hc0_4
 clear hr0_4 hc0_4
 have HR0_5:=Aside0.mk hr0_5
 have HC0_5:=Aside0.mk hc0_5
 clear hr0_5 hc0_5
 have HR0_6:=Aside0.mk hr0_6
 have HC0_6:=Aside0.mk hc0_6
 clear hr0_6 hc0_6
 have HB:=Aside0.mk (Below.refl w.heap.size w)
 have H:(page_Size.l0 k (wrap64 ((wrap64 (17+(a0_3.size:Int)))+4)) l0_4 (l0_4.length:Int) 0 a0_0 a0_1 a0_2 a0_3 l0_4 l0_5 l0_6)=some r:=h
 clear h
 have H':=Aside0.mk H
 clear H
 go_enter Try.func117,Try.ntmps117
 go_wp2_with (first|((with_reducible refine gate_dst (N:=1) rfl ?_);refine box_event ?hg (N:=1) ?hd (cs:=#[.int .i64 a0_0,.int .i64 a0_1,.int .i64 a0_2,.string a0_3,.slice A0_4 l0_4.length c0_4,.slice A0_5 l0_5.length c0_5,.slice A0_6 l0_6.length c0_6]) (t:=113) ?hr ?_;(case hd=>rfl);(case hg=>rfl);(case hr=>first|(go_simp;done)|(go_simp;rfl));intro gb108 hg w2 hbox hb;have n0_:=Aside0.mk (below_step (by repeat (first|(with_reducible first|exact HB.out|apply below_alloc|apply pw_below_drewN|apply below_drew1)|exact HB.out)) hb);have n1_:=Aside0.mk (hbox);have n2_:=Aside0.mk ((by rw [hg];exact (below_size (by repeat (first|(with_reducible first|exact HB.out|apply below_alloc|apply pw_below_drewN|apply below_drew1)|exact HB.out))):w.heap.size≤gb108));have n3_:=Aside0.mk ((by rw [hg];exact (below_size (by repeat (first|(with_reducible first|exact HB.out|apply below_alloc|apply pw_below_drewN|apply below_drew1)|exact HB.out))):w.heap.size≤gb108));clear HB;have HB:=n0_;have BK108:=n1_;have GW108:=n2_;have GE108:=n3_;clear n0_ n1_ n2_ n3_;clear hb hbox hg;have hcz3_0:w2.cell? ⟨gb108,0,none⟩=some (.int .i64 a0_0):=(blk_cell BK108.out 0).trans rfl;have hcz3_1:w2.cell? ⟨gb108,1,none⟩=some (.int .i64 a0_1):=(blk_cell BK108.out 1).trans rfl;have hcz3_2:w2.cell? ⟨gb108,2,none⟩=some (.int .i64 a0_2):=(blk_cell BK108.out 2).trans rfl;have hcz3_3:w2.cell? ⟨gb108,3,none⟩=some (.string a0_3):=(blk_cell BK108.out 3).trans rfl;have hcz3_4:w2.cell? ⟨gb108,4,none⟩=some (.slice A0_4 l0_4.length c0_4):=(blk_cell BK108.out 4).trans rfl;have hcz3_5:w2.cell? ⟨gb108,5,none⟩=some (.slice A0_5 l0_5.length c0_5):=(blk_cell BK108.out 5).trans rfl;have hcz3_6:w2.cell? ⟨gb108,6,none⟩=some (.slice A0_6 l0_6.length c0_6):=(blk_cell BK108.out 6).trans rfl;have hfz3_0:=blk_frozen BK108.out 0;have hfz3_1:=blk_frozen BK108.out 1;have hfz3_2:=blk_frozen BK108.out 2;have hfz3_3:=blk_frozen BK108.out 3;have hfz3_4:=blk_frozen BK108.out 4;have hfz3_5:=blk_frozen BK108.out 5;have hfz3_6:=blk_frozen BK108.out 6))
 go_loopg [3,16] k (fun kq v3 v16 w'=>∃ (x3_1:Int) (x16_1:Int),v3=.int .i64 x3_1∧v16=.int .i64 x16_1∧Aside0 (page_Size.l0 kq x3_1 l0_4 (l0_4.length:Int) x16_1 a0_0 a0_1 a0_2 a0_3 l0_4 l0_5 l0_6=some r)∧Aside0 (kq≤k)∧Aside0 (w'.heap[gb108]?=some (.cells #[.int .i64 a0_0,.int .i64 a0_1,.int .i64 a0_2,.string a0_3,(.slice A0_4 l0_4.length c0_4),(.slice A0_5 l0_5.length c0_5),(.slice A0_6 l0_6.length c0_6)] 113 (0,0)))∧Aside0 (Below w.heap.size w w'))
 case atStart=>exact ⟨(wrap64 ((wrap64 (17+(a0_3.size:Int)))+4)),(0),(by first|rfl|(simp;done)|(simp [*];done)),(by first|rfl|(simp;done)|(simp [*];done)),H',⟨Nat.le_refl _⟩,⟨by (with_reducible repeat (first|refine blk_drewN ?_ _|refine blk_drew ?_|refine blk_alloc ?_ _));exact BK108.out⟩,⟨by repeat (first|(with_reducible first|exact HB.out|apply below_alloc|apply pw_below_drewN|apply below_drew1|refine below_set ?_ GE108.out)|exact HB.out)⟩⟩
 case round =>
  clear H'
  try clear c1
  try clear p2
  try clear hcz3_0
  try clear hcz3_1
  try clear hcz3_2
  try clear hcz3_3
  try clear hcz3_4
  try clear hcz3_5
  try clear hcz3_6
  try clear hfz3_0
  try clear hfz3_1
  try clear hfz3_2
  try clear hfz3_3
  try clear hfz3_4
  try clear hfz3_5
  try clear hfz3_6
  obtain ⟨x3_1,x16_1,rfl,rfl,HA,HK1,BK108,HB⟩:=hrel
  cases gk with
  | zero=>exact absurd (show none=some _ from HA.out) (by simp)
  | succ k1 =>
   have H:=HA.out
   clear HA
   simp only [page_Size.l0] at H
   by_cases c4:x16_1 < (l0_4.length:Int)
   ·rw [if_pos c4] at H
    have c4b0:decide (x16_1 < (l0_4.length:Int))=true:=decide_eq_true c4
    clear c4
    by_cases c5:0≤x16_1
    ·rw [if_pos c5] at H
     have c5b0:decide (0≤x16_1)=true:=decide_eq_true c5
     clear c5
     by_cases c6:x16_1 < (l0_4.length:Int)
     ·rw [if_pos c6] at H
      have c6b0:decide (x16_1 < (l0_4.length:Int))=true:=decide_eq_true c6
      clear c6
      have H':=Aside0.mk H
      clear H
      have p109:0≤(x16_1:Int):=of_decide_eq_true (by first|(with_reducible assumption)|assumption)
      have q109:x16_1 < (l0_4.length:Int):=of_decide_eq_true (by first|(with_reducible assumption)|assumption)
      obtain ⟨ad109,e109,hx109_0⟩:=Kd.at_string HR0_4.out x16_1 p109 q109
      cases e109
      replace hx109_0:=(HB.out.cell (World.block_lt_of_cell? w _ hx109_0)).trans hx109_0
      replace p109:=eq_true p109
      replace q109:=eq_true q109
      go_wp2
      go_roundg k1
      case measure=>have:=HK1.out;omega
      case rel=>exact ⟨(wrap64 (x3_1+(wrap64 (2+((rdOf ByteArray.empty l0_4 x16_1).size:Int))))),(wrap64 (x16_1+1)),(by first|rfl|(simp;done)|(simp [*];done)),(by first|rfl|(simp;done)|(simp [*];done)),H',⟨by have:=HK1.out;omega⟩,⟨by (with_reducible repeat (first|refine blk_drewN ?_ _|refine blk_drew ?_|refine blk_alloc ?_ _));exact BK108.out⟩,⟨by repeat (first|(with_reducible first|exact HB.out|apply below_alloc|apply pw_below_drewN|apply below_drew1|refine below_set ?_ GE108.out)|exact HB.out)⟩⟩
     ·rw [if_neg c6] at H
      exact absurd H (by simp)
    ·rw [if_neg c5] at H
     exact absurd H (by simp)
   ·rw [if_neg c4] at H
    have c4b0:decide (x16_1 < (l0_4.length:Int))=false:=decide_eq_false c4
    clear c4
    by_cases c7:a0_0=0
    ·rw [if_pos c7] at H
     have c7b0:(a0_0==0)=true:=beq_iff_eq.mpr c7
     have c7b1:(a0_0 != 0)=false:=bne_eq_false_iff_eq.mpr c7
     clear c7
     have H':=Aside0.mk H
     clear H
     have hcz8_0:wr.cell? ⟨gb108,0,none⟩=some (.int .i64 a0_0):=(blk_cell BK108.out 0).trans rfl
     have hcz8_1:wr.cell? ⟨gb108,1,none⟩=some (.int .i64 a0_1):=(blk_cell BK108.out 1).trans rfl
     have hcz8_2:wr.cell? ⟨gb108,2,none⟩=some (.int .i64 a0_2):=(blk_cell BK108.out 2).trans rfl
     have hcz8_3:wr.cell? ⟨gb108,3,none⟩=some (.string a0_3):=(blk_cell BK108.out 3).trans rfl
     have hcz8_4:wr.cell? ⟨gb108,4,none⟩=some (.slice A0_4 l0_4.length c0_4):=(blk_cell BK108.out 4).trans rfl
     have hcz8_5:wr.cell? ⟨gb108,5,none⟩=some (.slice A0_5 l0_5.length c0_5):=(blk_cell BK108.out 5).trans rfl
     have hcz8_6:wr.cell? ⟨gb108,6,none⟩=some (.slice A0_6 l0_6.length c0_6):=(blk_cell BK108.out 6).trans rfl
     have hfz8_0:=blk_frozen BK108.out 0
     have hfz8_1:=blk_frozen BK108.out 1
     have hfz8_2:=blk_frozen BK108.out 2
     have hfz8_3:=blk_frozen BK108.out 3
     have hfz8_4:=blk_frozen BK108.out 4
     have hfz8_5:=blk_frozen BK108.out 5
     have hfz8_6:=blk_frozen BK108.out 6
     go_wp2
     go_loopg [3,38] k1 (fun kq v3 v38 w'=>∃ (x3_2:Int) (x38_2:Int),v3=.int .i64 x3_2∧v38=.int .i64 x38_2∧Aside0 (page_Size.l1 kq x3_2 l0_5 (l0_5.length:Int) x38_2=some r)∧Aside0 (kq≤k1)∧Aside0 (w'.heap[gb108]?=some (.cells #[.int .i64 a0_0,.int .i64 a0_1,.int .i64 a0_2,.string a0_3,(.slice A0_4 l0_4.length c0_4),(.slice A0_5 l0_5.length c0_5),(.slice A0_6 l0_6.length c0_6)] 113 (0,0)))∧Aside0 (Below w.heap.size w w'))
     case atStart=>exact ⟨(x3_1),(0),(by first|rfl|(simp;done)|(simp [*];done)),(by first|rfl|(simp;done)|(simp [*];done)),H',⟨Nat.le_refl _⟩,⟨by (with_reducible repeat (first|refine blk_drewN ?_ _|refine blk_drew ?_|refine blk_alloc ?_ _));exact BK108.out⟩,⟨by repeat (first|(with_reducible first|exact HB.out|apply below_alloc|apply pw_below_drewN|apply below_drew1|refine below_set ?_ GE108.out)|exact HB.out)⟩⟩
     case round =>
      clear H'
      try clear c1
      try clear p1
      try clear q1
      try clear hx1
      try clear p2
      try clear c4
      try clear c4b0
      try clear c5
      try clear c5b0
      try clear c6
      try clear c6b0
      try clear p6
      try clear c7
      try clear c7b0
      try clear c7b1
      try clear hcz3_0
      try clear hcz3_1
      try clear hcz3_2
      try clear hcz3_3
      try clear hcz3_4
      try clear hcz3_5
      try clear hcz3_6
      try clear hcz8_0
      try clear hcz8_1
      try clear hcz8_2
      try clear hcz8_3
      try clear hcz8_4
      try clear hcz8_5
      try clear hcz8_6
      try clear hfz3_0
      try clear hfz3_1
      try clear hfz3_2
      try clear hfz3_3
      try clear hfz3_4
      try clear hfz3_5
      try clear hfz3_6
      try clear hfz8_0
      try clear hfz8_1
      try clear hfz8_2
      try clear hfz8_3
      try clear hfz8_4
      try clear hfz8_5
      try clear hfz8_6
      try clear hx109_0
      try clear p109
      try clear p2
      try clear q109
      obtain ⟨x3_2,x38_2,rfl,rfl,HA,HK2,BK108,HB⟩:=hrel
      cases gk with
      | zero=>exact absurd (show none=some _ from HA.out) (by simp)
      | succ k2 =>
       have H:=HA.out
       clear HA
       simp only [page_Size.l1] at H
       by_cases c9:x38_2 < (l0_5.length:Int)
       ·rw [if_pos c9] at H
        have c9b0:decide (x38_2 < (l0_5.length:Int))=true:=decide_eq_true c9
        clear c9
        by_cases c10:0≤x38_2
        ·rw [if_pos c10] at H
         have c10b0:decide (0≤x38_2)=true:=decide_eq_true c10
         clear c10
         by_cases c11:x38_2 < (l0_5.length:Int)
         ·rw [if_pos c11] at H
          have c11b0:decide (x38_2 < (l0_5.length:Int))=true:=decide_eq_true c11
          clear c11
          have H':=Aside0.mk H
          clear H
          have p110:0≤(x38_2:Int):=of_decide_eq_true (by first|(with_reducible assumption)|assumption)
          have q110:x38_2 < (l0_5.length:Int):=of_decide_eq_true (by first|(with_reducible assumption)|assumption)
          obtain ⟨ad110,e110,hx110_0⟩:=Kd.at_string HR0_5.out x38_2 p110 q110
          cases e110
          replace hx110_0:=(HB.out.cell (World.block_lt_of_cell? w _ hx110_0)).trans hx110_0
          replace p110:=eq_true p110
          replace q110:=eq_true q110
          go_wp2
          go_roundg k2
          case measure=>have:=HK1.out;have:=HK2.out;omega
          case rel=>exact ⟨(wrap64 (x3_2+(wrap64 (2+((rdOf ByteArray.empty l0_5 x38_2).size:Int))))),(wrap64 (x38_2+1)),(by first|rfl|(simp;done)|(simp [*];done)),(by first|rfl|(simp;done)|(simp [*];done)),H',⟨by have:=HK1.out;have:=HK2.out;omega⟩,⟨by (with_reducible repeat (first|refine blk_drewN ?_ _|refine blk_drew ?_|refine blk_alloc ?_ _));exact BK108.out⟩,⟨by repeat (first|(with_reducible first|exact HB.out|apply below_alloc|apply pw_below_drewN|apply below_drew1|refine below_set ?_ GE108.out)|exact HB.out)⟩⟩
         ·rw [if_neg c11] at H
          exact absurd H (by simp)
        ·rw [if_neg c10] at H
         exact absurd H (by simp)
       ·rw [if_neg c9] at H
        have c9b0:decide (x38_2 < (l0_5.length:Int))=false:=decide_eq_false c9
        clear c9
        obtain rfl:=Option.some.inj H
        go_wp2
        go_ret
        exact ⟨by first|rfl|(simp [errW_none,errW_some] <;> rfl)|(simp [*,errW_none,errW_some] <;> rfl),by repeat (first|(with_reducible first|exact HB.out|apply below_alloc|apply pw_below_drewN|apply below_drew1|refine below_set ?_ GE108.out)|exact HB.out)⟩
    ·rw [if_neg c7] at H
     have c7b0:(a0_0==0)=false:=beq_eq_false_iff_ne.mpr c7
     have c7b1:(a0_0 != 0)=true:=bne_iff_ne.mpr c7
     obtain rfl:=Option.some.inj H
     have hcz12_0:wr.cell? ⟨gb108,0,none⟩=some (.int .i64 a0_0):=(blk_cell BK108.out 0).trans rfl
     have hcz12_1:wr.cell? ⟨gb108,1,none⟩=some (.int .i64 a0_1):=(blk_cell BK108.out 1).trans rfl
     have hcz12_2:wr.cell? ⟨gb108,2,none⟩=some (.int .i64 a0_2):=(blk_cell BK108.out 2).trans rfl
     have hcz12_3:wr.cell? ⟨gb108,3,none⟩=some (.string a0_3):=(blk_cell BK108.out 3).trans rfl
     have hcz12_4:wr.cell? ⟨gb108,4,none⟩=some (.slice A0_4 l0_4.length c0_4):=(blk_cell BK108.out 4).trans rfl
     have hcz12_5:wr.cell? ⟨gb108,5,none⟩=some (.slice A0_5 l0_5.length c0_5):=(blk_cell BK108.out 5).trans rfl
     have hcz12_6:wr.cell? ⟨gb108,6,none⟩=some (.slice A0_6 l0_6.length c0_6):=(blk_cell BK108.out 6).trans rfl
     have hfz12_0:=blk_frozen BK108.out 0
     have hfz12_1:=blk_frozen BK108.out 1
     have hfz12_2:=blk_frozen BK108.out 2
     have hfz12_3:=blk_frozen BK108.out 3
     have hfz12_4:=blk_frozen BK108.out 4
     have hfz12_5:=blk_frozen BK108.out 5
     have hfz12_6:=blk_frozen BK108.out 6
     go_wp2
     go_ret
     exact ⟨by first|rfl|(simp [errW_none,errW_some] <;> rfl)|(simp [*,errW_none,errW_some] <;> rfl),by repeat (first|(with_reducible first|exact HB.out|apply below_alloc|apply pw_below_drewN|apply below_drew1|refine below_set ?_ GE108.out)|exact HB.out)⟩
end Go.Proofs.Ytgjibcfkjaedfaa.Pr
