-- A part of the text Prx1, thinned by a program of this session.
import Derived.Test.YthfhkcicpfnedaaTPageGrowsPrx0
namespace Go.Proofs.Ythfhkcicpfnedaa.Pr
open Go.RowKit Go.Proofs.YthfhkcicpfnedaaW.PrintWords Go.Proofs.YthfhkcicpfnedaaW.PrintLast Go.Proofs.YthfhkcicpfnedaaW.PrintMore
attribute [local go_sem] max2_int min2_int max_two min_two max_three min_three max_four min_four
set_option linter.unusedVariables false
set_option linter.unusedSimpArgs false
mutual
def page_Size.l0:Nat→Int→List ByteArray→Int→Int→Int→Int→Int→ByteArray→List ByteArray→List ByteArray→List Int→Option (Int)
 | 0,_,_,_,_,_,_,_,_,_,_,_=>none
 | k+1,x3,x14,x15,x16,x102000,x102001,x102002,x102003,x102004,x102005,x102006=>if x16 < x15 then (if 0≤x16 then (if x16 < (x14.length:Int) then (page_Size.l0 k (wrap64 (x3+(wrap64 (2+((rdOf ByteArray.empty x14 x16).size:Int))))) x14 x15 (wrap64 (x16+1)) x102000 x102001 x102002 x102003 x102004 x102005 x102006) else (none)) else (none)) else (if x102000=0 then (page_Size.l1 k x3 x102005 (x102005.length:Int) 0) else (some (wrap64 (x3+(wrap64 (4*(x102006.length:Int)))))))
def page_Size.l1:Nat→Int→List ByteArray→Int→Int→Option (Int)
 | 0,_,_,_,_=>none
 | k+1,x3,x36,x37,x38=>if x38 < x37 then (if 0≤x38 then (if x38 < (x36.length:Int) then (page_Size.l1 k (wrap64 (x3+(wrap64 (2+((rdOf ByteArray.empty x36 x38).size:Int))))) x36 x37 (wrap64 (x38+1))) else (none)) else (none)) else (some x3)
end
def page_Size.f (k:Nat) (a0_0:Int) (a0_1:Int) (a0_2:Int) (a0_3:ByteArray) (l0_4:List ByteArray) (l0_5:List ByteArray) (l0_6:List Int):Option (Int):=page_Size.l0 k (wrap64 ((wrap64 (17+(a0_3.size:Int)))+4)) l0_4 (l0_4.length:Int) 0 a0_0 a0_1 a0_2 a0_3 l0_4 l0_5 l0_6
set_option maxHeartbeats 8000000 in
set_option maxRecDepth 100000 in
theorem page_Size.calls (k:Nat) (a0_0:Int) (a0_1:Int) (a0_2:Int) (a0_3:ByteArray) (A0_4:Option Addr) (c0_4:Nat) (l0_4:List ByteArray) (A0_5:Option Addr) (c0_5:Nat) (l0_5:List ByteArray) (A0_6:Option Addr) (c0_6:Nat) (l0_6:List Int) (r:Int) (w:World) (hr0_4:Kd.C Kd.string w A0_4 l0_4.length l0_4) (hc0_4:l0_4.length≤c0_4) (hr0_5:Kd.C Kd.string w A0_5 l0_5.length l0_5) (hc0_5:l0_5.length≤c0_5) (hr0_6:Kd.C (Kd.int .i64) w A0_6 l0_6.length l0_6) (hc0_6:l0_6.length≤c0_6) (h:page_Size.f k a0_0 a0_1 a0_2 a0_3 l0_4 l0_5 l0_6=some r) :
  Calls Try.prog 11 #[.agg #[.int .i64 a0_0,.int .i64 a0_1,.int .i64 a0_2,.string a0_3,.slice A0_4 l0_4.length c0_4,.slice A0_5 l0_5.length c0_5,.slice A0_6 l0_6.length c0_6]] w fun e w'=>e=.returned (.int .i64 r)∧Below w.heap.size w w':=by
 have hu25:=Try.underlying25
 have HR0_4:=Aside0.mk hr0_4
 have HC0_4:=Aside0.mk hc0_4
 clear hr0_4 hc0_4
 have HR0_5:=Aside0.mk hr0_5
 have HC0_5:=Aside0.mk hc0_5
 clear hr0_5 hc0_5
 have HR0_6:=Aside0.mk hr0_6
 have HC0_6:=Aside0.mk hc0_6
 clear hr0_6 hc0_6
 have HB:=Aside0.mk (Below.refl w.heap.size w)
 have H:(page_Size.l0 k (wrap64 ((wrap64 (17+(a0_3.size:Int)))+4)) l0_4 (l0_4.length:Int) 0 a0_0 a0_1 a0_2 a0_3 l0_4 l0_5 l0_6)=some r:=h
 clear h
 have H':=Aside0.mk H
 clear H
 go_enter Try.func11,Try.ntmps11
 go_wp2_with (first|((with_reducible refine gate_dst (N:=1) rfl ?_);refine box_event ?hg (N:=1) ?hd (cs:=#[.int .i64 a0_0,.int .i64 a0_1,.int .i64 a0_2,.string a0_3,.slice A0_4 l0_4.length c0_4,.slice A0_5 l0_5.length c0_5,.slice A0_6 l0_6.length c0_6]) (t:=25) ?hr ?_;(case hd=>rfl);(case hg=>rfl);(case hr=>first|(go_simp;done)|(go_simp;rfl));intro gb101 hg w2 hbox hb;have n0_:=Aside0.mk (below_step (by repeat (first|(with_reducible first|exact HB.out|apply below_alloc|apply pw_below_drewN|apply below_drew1)|exact HB.out)) hb);have n1_:=Aside0.mk (hbox);have n2_:=Aside0.mk ((by rw [hg];exact (below_size (by repeat (first|(with_reducible first|exact HB.out|apply below_alloc|apply pw_below_drewN|apply below_drew1)|exact HB.out))):w.heap.size≤gb101));have n3_:=Aside0.mk ((by rw [hg];exact (below_size (by repeat (first|(with_reducible first|exact HB.out|apply below_alloc|apply pw_below_drewN|apply below_drew1)|exact HB.out))):w.heap.size≤gb101));clear HB;have HB:=n0_;have BK101:=n1_;have GW101:=n2_;have GE101:=n3_;clear n0_ n1_ n2_ n3_;clear hb hbox hg;have hcz3_0:w2.cell? ⟨gb101,0,none⟩=some (.int .i64 a0_0):=(blk_cell BK101.out 0).trans rfl;have hcz3_1:w2.cell? ⟨gb101,1,none⟩=some (.int .i64 a0_1):=(blk_cell BK101.out 1).trans rfl;have hcz3_2:w2.cell? ⟨gb101,2,none⟩=some (.int .i64 a0_2):=(blk_cell BK101.out 2).trans rfl;have hcz3_3:w2.cell? ⟨gb101,3,none⟩=some (.string a0_3):=(blk_cell BK101.out 3).trans rfl;have hcz3_4:w2.cell? ⟨gb101,4,none⟩=some (.slice A0_4 l0_4.length c0_4):=(blk_cell BK101.out 4).trans rfl;have hcz3_5:w2.cell? ⟨gb101,5,none⟩=some (.slice A0_5 l0_5.length c0_5):=(blk_cell BK101.out 5).trans rfl;have hcz3_6:w2.cell? ⟨gb101,6,none⟩=some (.slice A0_6 l0_6.length c0_6):=(blk_cell BK101.out 6).trans rfl;have hfz3_0:=blk_frozen BK101.out 0;have hfz3_1:=blk_frozen BK101.out 1;have hfz3_2:=blk_frozen BK101.out 2;have hfz3_3:=blk_frozen BK101.out 3;have hfz3_4:=blk_frozen BK101.out 4;have hfz3_5:=blk_frozen BK101.out 5;have hfz3_6:=blk_frozen BK101.out 6))
 go_loopg [3,16] k (fun kq v3 v16 w'=>∃ (x3_1:Int) (x16_1:Int),v3=.int .i64 x3_1∧v16=.int .i64 x16_1∧Aside0 (page_Size.l0 kq x3_1 l0_4 (l0_4.length:Int) x16_1 a0_0 a0_1 a0_2 a0_3 l0_4 l0_5 l0_6=some r)∧Aside0 (kq≤k)∧Aside0 (w'.heap[gb101]?=some (.cells #[.int .i64 a0_0,.int .i64 a0_1,.int .i64 a0_2,.string a0_3,(.slice A0_4 l0_4.length c0_4),(.slice A0_5 l0_5.length c0_5),(.slice A0_6 l0_6.length c0_6)] 25 (0,0)))∧Aside0 (Below w.heap.size w w'))
 case atStart=>exact ⟨(wrap64 ((wrap64 (17+(a0_3.size:Int)))+4)),(0),(by first|rfl|(simp;done)|(simp [*];done)),(by first|rfl|(simp;done)|(simp [*];done)),H',⟨Nat.le_refl _⟩,⟨by (with_reducible repeat (first|refine blk_drewN ?_ _|refine blk_drew ?_|refine blk_alloc ?_ _));exact BK101.out⟩,⟨by repeat (first|(with_reducible first|exact HB.out|apply below_alloc|apply pw_below_drewN|apply below_drew1|refine below_set ?_ GE101.out)|exact HB.out)⟩⟩
 case round =>
  clear H'
  try clear c1
  try clear p2
  try clear hcz3_0
  try clear hcz3_1
  try clear hcz3_2
  try clear hcz3_3
  try clear hcz3_4
  try clear hcz3_5
  try clear hcz3_6
  try clear hfz3_0
  try clear hfz3_1
  try clear hfz3_2
  try clear hfz3_3
  try clear hfz3_4
  try clear hfz3_5
  try clear hfz3_6
  obtain ⟨x3_1,x16_1,rfl,rfl,HA,HK1,BK101,HB⟩:=hrel
  cases gk with
  | zero=>exact absurd (show none=some _ from HA.out) (by simp)
  | succ k1 =>
   have H:=HA.out
   clear HA
   simp only [page_Size.l0] at H
   by_cases c4:x16_1 < (l0_4.length:Int)
   ·rw [if_pos c4] at H
    have c4b0:decide (x16_1 < (l0_4.length:Int))=true:=decide_eq_true c4
    clear c4
    by_cases c5:0≤x16_1
    ·rw [if_pos c5] at H
     have c5b0:decide (0≤x16_1)=true:=decide_eq_true c5
     clear c5
     by_cases c6:x16_1 < (l0_4.length:Int)
     ·rw [if_pos c6] at H
      have c6b0:decide (x16_1 < (l0_4.length:Int))=true:=decide_eq_true c6
      clear c6
      have H':=Aside0.mk H
      clear H
      have p102:0≤(x16_1:Int):=of_decide_eq_true (by first|(with_reducible assumption)|assumption)
      have q102:x16_1 < (l0_4.length:Int):=of_decide_eq_true (by first|(with_reducible assumption)|assumption)
      obtain ⟨ad102,e102,hx102_0⟩:=Kd.at_string HR0_4.out x16_1 p102 q102
      cases e102
      replace hx102_0:=(HB.out.cell (World.block_lt_of_cell? w _ hx102_0)).trans hx102_0
      replace p102:=eq_true p102
      replace q102:=eq_true q102
      go_wp2
      go_roundg k1
      case measure=>have:=HK1.out;omega
      case rel=>exact ⟨(wrap64 (x3_1+(wrap64 (2+((rdOf ByteArray.empty l0_4 x16_1).size:Int))))),(wrap64 (x16_1+1)),(by first|rfl|(simp;done)|(simp [*];done)),(by first|rfl|(simp;done)|(simp [*];done)),H',⟨by have:=HK1.out;omega⟩,⟨by (with_reducible repeat (first|refine blk_drewN ?_ _|refine blk_drew ?_|refine blk_alloc ?_ _));exact BK101.out⟩,⟨by repeat (first|(with_reducible first|exact HB.out|apply below_alloc|apply pw_below_drewN|apply below_drew1|refine below_set ?_ GE101.out)|exact HB.out)⟩⟩
     ·rw [if_neg c6] at H
      exact absurd H (by simp)
    ·rw [if_neg c5] at H
     exact absurd H (by simp)
   ·rw [if_neg c4] at H
    have c4b0:decide (x16_1 < (l0_4.length:Int))=false:=decide_eq_false c4
    clear c4
    by_cases c7:a0_0=0
    ·rw [if_pos c7] at H
     have c7b0:(a0_0==0)=true:=beq_iff_eq.mpr c7
     have c7b1:(a0_0 != 0)=false:=bne_eq_false_iff_eq.mpr c7
     clear c7
     have H':=Aside0.mk H
     clear H
     have hcz8_0:wr.cell? ⟨gb101,0,none⟩=some (.int .i64 a0_0):=(blk_cell BK101.out 0).trans rfl
     have hcz8_1:wr.cell? ⟨gb101,1,none⟩=some (.int .i64 a0_1):=(blk_cell BK101.out 1).trans rfl
     have hcz8_2:wr.cell? ⟨gb101,2,none⟩=some (.int .i64 a0_2):=(blk_cell BK101.out 2).trans rfl
     have hcz8_3:wr.cell? ⟨gb101,3,none⟩=some (.string a0_3):=(blk_cell BK101.out 3).trans rfl
     have hcz8_4:wr.cell? ⟨gb101,4,none⟩=some (.slice A0_4 l0_4.length c0_4):=(blk_cell BK101.out 4).trans rfl
     have hcz8_5:wr.cell? ⟨gb101,5,none⟩=some (.slice A0_5 l0_5.length c0_5):=(blk_cell BK101.out 5).trans rfl
     have hcz8_6:wr.cell? ⟨gb101,6,none⟩=some (.slice A0_6 l0_6.length c0_6):=(blk_cell BK101.out 6).trans rfl
     have hfz8_0:=blk_frozen BK101.out 0
     have hfz8_1:=blk_frozen BK101.out 1
     have hfz8_2:=blk_frozen BK101.out 2
     have hfz8_3:=blk_frozen BK101.out 3
     have hfz8_4:=blk_frozen BK101.out 4
     have hfz8_5:=blk_frozen BK101.out 5
     have hfz8_6:=blk_frozen BK101.out 6
     go_wp2
     go_loopg [3,38] k1 (fun kq v3 v38 w'=>∃ (x3_2:Int) (x38_2:Int),v3=.int .i64 x3_2∧v38=.int .i64 x38_2∧Aside0 (page_Size.l1 kq x3_2 l0_5 (l0_5.length:Int) x38_2=some r)∧Aside0 (kq≤k1)∧Aside0 (w'.heap[gb101]?=some (.cells #[.int .i64 a0_0,.int .i64 a0_1,.int .i64 a0_2,.string a0_3,(.slice A0_4 l0_4.length c0_4),(.slice A0_5 l0_5.length c0_5),(.slice A0_6 l0_6.length c0_6)] 25 (0,0)))∧Aside0 (Below w.heap.size w w'))
     case atStart=>exact ⟨(x3_1),(0),(by first|rfl|(simp;done)|(simp [*];done)),(by first|rfl|(simp;done)|(simp [*];done)),H',⟨Nat.le_refl _⟩,⟨by (with_reducible repeat (first|refine blk_drewN ?_ _|refine blk_drew ?_|refine blk_alloc ?_ _));exact BK101.out⟩,⟨by repeat (first|(with_reducible first|exact HB.out|apply below_alloc|apply pw_below_drewN|apply below_drew1|refine below_set ?_ GE101.out)|exact HB.out)⟩⟩
     case round =>
      clear H'
      try clear c1
      try clear p1
      try clear q1
      try clear hx1
      try clear p2
      try clear c4
      try clear c4b0
      try clear c5
      try clear c5b0
      try clear c6
      try clear c6b0
      try clear p6
      try clear c7
      try clear c7b0
      try clear c7b1
      try clear hcz3_0
      try clear hcz3_1
      try clear hcz3_2
      try clear hcz3_3
      try clear hcz3_4
      try clear hcz3_5
      try clear hcz3_6
      try clear hcz8_0
      try clear hcz8_1
      try clear hcz8_2
      try clear hcz8_3
      try clear hcz8_4
      try clear hcz8_5
      try clear hcz8_6
      try clear hfz3_0
      try clear hfz3_1
      try clear hfz3_2
      try clear hfz3_3
      try clear hfz3_4
      try clear hfz3_5
      try clear hfz3_6
      try clear hfz8_0
      try clear hfz8_1
      try clear hfz8_2
      try clear hfz8_3
      try clear hfz8_4
      try clear hfz8_5
      try clear hfz8_6
      try clear hx102_0
      try clear p102
      try clear p2
      try clear q102
      obtain ⟨x3_2,x38_2,rfl,rfl,HA,HK2,BK101,HB⟩:=hrel
      cases gk with
      | zero=>exact absurd (show none=some _ from HA.out) (by simp)
      | succ k2 =>
       have H:=HA.out
       clear HA
       simp only [page_Size.l1] at H
       by_cases c9:x38_2 < (l0_5.length:Int)
       ·rw [if_pos c9] at H
        have c9b0:decide (x38_2 < (l0_5.length:Int))=true:=decide_eq_true c9
        clear c9
        by_cases c10:0≤x38_2
        ·rw [if_pos c10] at H
         have c10b0:decide (0≤x38_2)=true:=decide_eq_true c10
         clear c10
         by_cases c11:x38_2 < (l0_5.length:Int)
         ·rw [if_pos c11] at H
          have c11b0:decide (x38_2 < (l0_5.length:Int))=true:=decide_eq_true c11
          clear c11
          have H':=Aside0.mk H
          clear H
          have p103:0≤(x38_2:Int):=of_decide_eq_true (by first|(with_reducible assumption)|assumption)
          have q103:x38_2 < (l0_5.length:Int):=of_decide_eq_true (by first|(with_reducible assumption)|assumption)
          obtain ⟨ad103,e103,hx103_0⟩:=Kd.at_string HR0_5.out x38_2 p103 q103
          cases e103
          replace hx103_0:=(HB.out.cell (World.block_lt_of_cell? w _ hx103_0)).trans hx103_0
          replace p103:=eq_true p103
          replace q103:=eq_true q103
          go_wp2
          go_roundg k2
          case measure=>have:=HK1.out;have:=HK2.out;omega
          case rel=>exact ⟨(wrap64 (x3_2+(wrap64 (2+((rdOf ByteArray.empty l0_5 x38_2).size:Int))))),(wrap64 (x38_2+1)),(by first|rfl|(simp;done)|(simp [*];done)),(by first|rfl|(simp;done)|(simp [*];done)),H',⟨by have:=HK1.out;have:=HK2.out;omega⟩,⟨by (with_reducible repeat (first|refine blk_drewN ?_ _|refine blk_drew ?_|refine blk_alloc ?_ _));exact BK101.out⟩,⟨by repeat (first|(with_reducible first|exact HB.out|apply below_alloc|apply pw_below_drewN|apply below_drew1|refine below_set ?_ GE101.out)|exact HB.out)⟩⟩
         ·rw [if_neg c11] at H
          exact absurd H (by simp)
        ·rw [if_neg c10] at H
         exact absurd H (by simp)
       ·rw [if_neg c9] at H
        have c9b0:decide (x38_2 < (l0_5.length:Int))=false:=decide_eq_false c9
        clear c9
        obtain rfl:=Option.some.inj H
        go_wp2
        go_ret
        exact ⟨by first|rfl|(simp [errW_none,errW_some] <;> rfl)|(simp [*,errW_none,errW_some] <;> rfl),by repeat (first|(with_reducible first|exact HB.out|apply below_alloc|apply pw_below_drewN|apply below_drew1|refine below_set ?_ GE101.out)|exact HB.out)⟩
    ·rw [if_neg c7] at H
     have c7b0:(a0_0==0)=false:=beq_eq_false_iff_ne.mpr c7
     have c7b1:(a0_0 != 0)=true:=bne_iff_ne.mpr c7
     obtain rfl:=Option.some.inj H
     have hcz12_0:wr.cell? ⟨gb101,0,none⟩=some (.int .i64 a0_0):=(blk_cell BK101.out 0).trans rfl
     have hcz12_1:wr.cell? ⟨gb101,1,none⟩=some (.int .i64 a0_1):=(blk_cell BK101.out 1).trans rfl
     have hcz12_2:wr.cell? ⟨gb101,2,none⟩=some (.int .i64 a0_2):=(blk_cell BK101.out 2).trans rfl
     have hcz12_3:wr.cell? ⟨gb101,3,none⟩=some (.string a0_3):=(blk_cell BK101.out 3).trans rfl
     have hcz12_4:wr.cell? ⟨gb101,4,none⟩=some (.slice A0_4 l0_4.length c0_4):=(blk_cell BK101.out 4).trans rfl
     have hcz12_5:wr.cell? ⟨gb101,5,none⟩=some (.slice A0_5 l0_5.length c0_5):=(blk_cell BK101.out 5).trans rfl
     have hcz12_6:wr.cell? ⟨gb101,6,none⟩=some (.slice A0_6 l0_6.length c0_6):=(blk_cell BK101.out 6).trans rfl
     have hfz12_0:=blk_frozen BK101.out 0
     have hfz12_1:=blk_frozen BK101.out 1
     have hfz12_2:=blk_frozen BK101.out 2
     have hfz12_3:=blk_frozen BK101.out 3
     have hfz12_4:=blk_frozen BK101.out 4
     have hfz12_5:=blk_frozen BK101.out 5
     have hfz12_6:=blk_frozen BK101.out 6
     go_wp2
     go_ret
     exact ⟨by first|rfl|(simp [errW_none,errW_some] <;> rfl)|(simp [*,errW_none,errW_some] <;> rfl),by repeat (first|(with_reducible first|exact HB.out|apply below_alloc|apply pw_below_drewN|apply below_drew1|refine below_set ?_ GE101.out)|exact HB.out)⟩
def page_in.f (a0:Int) (a1:Int):Option (Bool):=if a0≥0 then (some (decide (a0≤a1))) else (some false)
set_option maxHeartbeats 8000000 in
set_option maxRecDepth 100000 in
theorem page_in.calls (a0:Int) (a1:Int) (r:Bool) (w:World) (h:page_in.f a0 a1=some r) :
  Calls Try.prog 19 #[.int .i64 a0,.int .i64 a1] w fun e w'=>e=.returned (.bool r)∧Drawn0 w w':=by
 have H:(if a0≥0 then (some (decide (a0≤a1))) else (some false))=some r:=h
 clear h
 by_cases c3:a0≥0
 ·rw [if_pos c3] at H
  have c3b0:decide (0≤a0)=true:=decide_eq_true c3
  clear c3
  obtain rfl:=Option.some.inj H
  go_enter Try.func19,Try.ntmps19
  go_wp2
  go_ret
  exact ⟨by first|rfl|(simp;done)|(simp [*];done),by repeat (first|exact Drawn0.refl _|apply Drawn0.step)⟩
 ·rw [if_neg c3] at H
  have c3b0:decide (0≤a0)=false:=decide_eq_false c3
  clear c3
  obtain rfl:=Option.some.inj H
  go_enter Try.func19,Try.ntmps19
  go_wp2
  go_ret
  exact ⟨by first|rfl|(simp;done)|(simp [*];done),by repeat (first|exact Drawn0.refl _|apply Drawn0.step)⟩
def key_Check.f (a0:ByteArray):Option (Int):=if a0.toList=([]:List UInt8) then (some 50) else (if (a0.size:Int) > 16 then (some 50) else (some 0))
set_option maxHeartbeats 8000000 in
set_option maxRecDepth 100000 in
theorem key_Check.calls (a0:ByteArray) (r:Int) (w:World) (h:key_Check.f a0=some r) :
  Calls Try.prog 20 #[.string a0] w fun e w'=>e=.returned (.int .i64 r)∧Drawn0 w w':=by
 have H:(if a0.toList=([]:List UInt8) then (some 50) else (if (a0.size:Int) > 16 then (some 50) else (some 0)))=some r:=h
 clear h
 by_cases c2:a0.toList=([]:List UInt8)
 ·rw [if_pos c2] at H
  have c2b0:(a0.toList==([]:List UInt8))=true:=beq_iff_eq.mpr c2
  have c2b1:(a0.toList != ([]:List UInt8))=false:=bne_eq_false_iff_eq.mpr c2
  clear c2
  obtain rfl:=Option.some.inj H
  go_enter Try.func20,Try.ntmps20
  go_wp2
  go_ret
  exact ⟨by first|rfl|(simp;done)|(simp [*];done),by repeat (first|exact Drawn0.refl _|apply Drawn0.step)⟩
 ·rw [if_neg c2] at H
  have c2b0:(a0.toList==([]:List UInt8))=false:=beq_eq_false_iff_ne.mpr c2
  have c2b1:(a0.toList != ([]:List UInt8))=true:=bne_iff_ne.mpr c2
  by_cases c3:(a0.size:Int) > 16
  ·rw [if_pos c3] at H
   have c3b0:decide (16 < (a0.size:Int))=true:=decide_eq_true c3
   have c3b1:decide (16 < a0.size)=true:=decide_eq_true (by omega)
   clear c3
   obtain rfl:=Option.some.inj H
   go_enter Try.func20,Try.ntmps20
   go_wp2
   go_ret
   exact ⟨by first|rfl|(simp;done)|(simp [*];done),by repeat (first|exact Drawn0.refl _|apply Drawn0.step)⟩
  ·rw [if_neg c3] at H
   have c3b0:decide (16 < (a0.size:Int))=false:=decide_eq_false c3
   have c3b1:decide (16 < a0.size)=false:=decide_eq_false (by omega)
   clear c3
   obtain rfl:=Option.some.inj H
   go_enter Try.func20,Try.ntmps20
   go_wp2
   go_ret
   exact ⟨by first|rfl|(simp;done)|(simp [*];done),by repeat (first|exact Drawn0.refl _|apply Drawn0.step)⟩
def badV (v:ByteArray):Bool:=decide ((v.size:Int) > 32)
def badK (k:Int):Bool:=decide (k < 1) || decide (k > 4096)
theorem parts_val (x:ByteArray) (w:World):Calls Try.prog 39 #[.string x] w fun e w'=>e=.returned (.bool (badV x))∧Drawn0 w w':=by
 have hb:∃ b,badV x=b∧decide ((x.size:Int) > 32)=b:=⟨_,rfl,rfl⟩
 obtain ⟨b,h1,h2⟩:=hb
 rw [h1]
 clear h1
 cases b
 all_goals
  go_enter Try.func39,Try.ntmps39
  go_wp2
  go_ret
  exact ⟨rfl,⟨⟨0,rfl⟩⟩⟩
theorem parts_kid (x:Int) (w:World):Calls Try.prog 42 #[.int .i64 x] w fun e w'=>e=.returned (.bool (badK x))∧Drawn0 w w':=by
 unfold badK
 rcases h1:decide (x < 1)
 all_goals
  go_enter Try.func42,Try.ntmps42
  go_wp2
  go_ret
  exact ⟨rfl,⟨⟨0,rfl⟩⟩⟩
def firstB {α:Type} (p:α→Bool):List α→Int
 | [] => -1
 | x::r=>if p x=true then 0 else (if firstB p r = -1 then -1 else firstB p r+1)
theorem firstB_hit {α:Type} (p:α→Bool) (z:α):∀ (l:List α) (i:Nat),i < l.length→p (rdOf z l i)=true→(∀ j,j < i→p (rdOf z l j)=false)→firstB p l=i
 | [],i,h,_,_=>by simp at h
 | x::r,0,h,h1,h2=>by
  have:p x=true:=h1
  simp [firstB,this]
 | x::r,i+1,h,h1,h2=>by
  have h0:p x=false:=h2 0 (by omega)
  have ih:=firstB_hit p z r i (by simpa using h) (by simpa [rdOf] using h1) (fun j hj=>by simpa [rdOf] using h2 (j+1) (by omega))
  simp only [firstB,h0,ih]
  rw [if_neg (by decide),if_neg (by omega)]
  omega
theorem firstB_miss {α:Type} (p:α→Bool) (z:α):∀ (l:List α),(∀ j,j < l.length→p (rdOf z l (j:Nat))=false)→firstB p l = -1
 | [],_=>rfl
 | x::r,h=>by
  have h0:p x=false:=h 0 (by simp)
  have ih:=firstB_miss p z r (fun j hj=>by simpa [rdOf] using h (j+1) (by simpa using hj))
  simp [firstB,h0,ih]
theorem firstB_any {α:Type} (p:α→Bool):∀ (l:List α),decide (firstB p l≥0)=l.any p
 | []=>rfl
 | x::r=>by
  have ih:=firstB_any p r
  rw [List.any_cons,← ih]
  cases h:p x
  ·by_cases k:firstB p r = -1
   ·simp [firstB,h,k]
   ·by_cases k2:firstB p r≥0
    ·have:firstB p r+1≥0:=by omega
     simp [firstB,h,k,k2,this]
    ·exfalso
     have h3:∀ l:List α,firstB p l = -1∨0≤firstB p l:=by
      intro l
      induction l with
      | nil=>exact .inl rfl
      | cons y t iht =>
       simp only [firstB]
       split
       ·exact .inr (Int.le_refl _)
       ·split
        ·exact .inl rfl
        ·exact .inr (by omega)
     rcases h3 r with h4|h4
     ·exact k h4
     ·exact k2 h4
  ·simp [firstB,h]
set_option maxHeartbeats 4000000 in
set_option maxRecDepth 100000 in
theorem indexV_calls (A:Option Addr) (c:Nat) (l:List ByteArray) (w:World) (hr:Kd.C Kd.string w A l.length l) :
  Calls Try.prog 55 #[.slice A l.length c,.func (.func 39) #[] #[]] w fun e w'=>e=.returned (.int .i64 (firstB badV l))∧Drawn0 w w':=by
 have hlen:l.length≤9223372036854775807:=hr.2.1
 have HR:=Aside0.mk hr
 clear hr
 have eg:∀ args w,(callFunc 39 args).run Try.prog w=.ok (.enter 39 args) w:=Go.Proofs.enters_of Try.func39 (by kernel_rfl) rfl
 go_enter Try.func55,Try.ntmps55
 go_wp2
 go_loopg [5,8] l.length (fun gg _ s8 wr=>∃ kk q:Nat,kk≤l.length∧l.length - kk≤gg∧s8=.int .i64 kk∧wr=w.drewN q∧Aside0 (∀ j,j < kk→badV (rdOf ByteArray.empty l (j:Nat))=false))
 case atStart=>exact ⟨0,0,Nat.zero_le _,by omega,rfl,rfl,⟨fun j hj=>absurd hj (Nat.not_lt_zero _)⟩⟩
 case round =>
  obtain ⟨kk,q,hkk,hg,rfl,rfl,AS⟩:=hrel
  by_cases hlt:kk < l.length
  ·have hltz:(kk:Int) < (l.length:Int):=by omega
   obtain ⟨ad,rfl,hcell⟩:=Kd.at_string HR.out (kk:Int) (by omega) (by omega)
   rw [Int.toNat_natCast] at hcell
   generalize hy:rdOf ByteArray.empty l (kk:Int)=y at hcell
   have HY:=Aside0.mk hy
   clear hy
   obtain ⟨ab,ao,aa⟩:=ad
   have hcall:=parts_val y
   cases hq:badV y with
   | true =>
    rw [hq] at hcall
    go_wp2_with (go_at_fn 39;refine (hcall _).mono ?_;rintro e w' ⟨rfl,⟨q',rfl⟩⟩)
    go_ret
    refine ⟨?_,⟨⟨_,rfl⟩⟩⟩
    rw [firstB_hit badV ByteArray.empty l kk hlt (by rw [HY.out];exact hq) AS.out]
    rfl
   | false =>
    rw [hq] at hcall
    go_wp2_with (go_at_fn 39;refine (hcall _).mono ?_;rintro e w' ⟨rfl,⟨q',rfl⟩⟩)
    go_roundg (l.length - (kk+1))
    case measure=>omega
    case rel =>
     refine ⟨kk+1,_,by omega,by omega,by go_num,rfl,⟨fun j hj=>?_⟩⟩
     by_cases e:j=kk
     ·subst e
      rw [HY.out];exact hq
     ·exact AS.out j (by omega)
  ·have hltz:¬ (kk:Int) < (l.length:Int):=by omega
   go_wp2
   go_ret
   have:kk=l.length:=by omega
   subst this
   exact ⟨by rw [firstB_miss badV ByteArray.empty l AS.out];rfl,⟨⟨q,rfl⟩⟩⟩
set_option maxHeartbeats 4000000 in
set_option maxRecDepth 100000 in
theorem indexK_calls (A:Option Addr) (c:Nat) (l:List Int) (w:World) (hr:Kd.C (Kd.int .i64) w A l.length l) :
  Calls Try.prog 56 #[.slice A l.length c,.func (.func 42) #[] #[]] w fun e w'=>e=.returned (.int .i64 (firstB badK l))∧Drawn0 w w':=by
 have hlen:l.length≤9223372036854775807:=hr.2.1
 have HR:=Aside0.mk hr
 clear hr
 have eg:∀ args w,(callFunc 42 args).run Try.prog w=.ok (.enter 42 args) w:=Go.Proofs.enters_of Try.func42 (by kernel_rfl) rfl
 go_enter Try.func56,Try.ntmps56
 go_wp2
 go_loopg [5,8] l.length (fun gg _ s8 wr=>∃ kk q:Nat,kk≤l.length∧l.length - kk≤gg∧s8=.int .i64 kk∧wr=w.drewN q∧Aside0 (∀ j,j < kk→badK (rdOf 0 l (j:Nat))=false))
 case atStart=>exact ⟨0,0,Nat.zero_le _,by omega,rfl,rfl,⟨fun j hj=>absurd hj (Nat.not_lt_zero _)⟩⟩
 case round =>
  obtain ⟨kk,q,hkk,hg,rfl,rfl,AS⟩:=hrel
  by_cases hlt:kk < l.length
  ·have hltz:(kk:Int) < (l.length:Int):=by omega
   obtain ⟨ad,rfl,hcell⟩:=Kd.at_int HR.out (kk:Int) (by omega) (by omega)
   rw [Int.toNat_natCast] at hcell
   have hy:rdOf 0 l (kk:Int)=rd l (kk:Int):=rfl
   generalize rd l (kk:Int)=y at hcell hy
   have HY:=Aside0.mk hy
   clear hy
   obtain ⟨ab,ao,aa⟩:=ad
   have hcall:=parts_kid y
   cases hq:badK y with
   | true =>
    rw [hq] at hcall
    go_wp2_with (go_at_fn 42;refine (hcall _).mono ?_;rintro e w' ⟨rfl,⟨q',rfl⟩⟩)
    go_ret
    refine ⟨?_,⟨⟨_,rfl⟩⟩⟩
    rw [firstB_hit badK 0 l kk hlt (by rw [HY.out];exact hq) AS.out]
    rfl
   | false =>
    rw [hq] at hcall
    go_wp2_with (go_at_fn 42;refine (hcall _).mono ?_;rintro e w' ⟨rfl,⟨q',rfl⟩⟩)
    go_roundg (l.length - (kk+1))
    case measure=>omega
    case rel =>
     refine ⟨kk+1,_,by omega,by omega,by go_num,rfl,⟨fun j hj=>?_⟩⟩
     by_cases e:j=kk
     ·subst e
      rw [HY.out];exact hq
     ·exact AS.out j (by omega)
  ·have hltz:¬ (kk:Int) < (l.length:Int):=by omega
   go_wp2
   go_ret
   have:kk=l.length:=by omega
   subst this
   exact ⟨by rw [firstB_miss badK 0 l AS.out];rfl,⟨⟨q,rfl⟩⟩⟩
theorem containsV_calls (A:Option Addr) (c:Nat) (l:List ByteArray) (w:World) (hr:Kd.C Kd.string w A l.length l) :
  Calls Try.prog 41 #[.slice A l.length c,.func (.func 39) #[] #[]] w fun e w'=>e=.returned (.bool (l.any badV))∧Drawn0 w w':=by
 have h:=indexV_calls A c l w hr
 rw [← firstB_any]
 generalize firstB badV l=i at h ⊢
 have hlen:l.length≤9223372036854775807:=hr.2.1
 clear hr
 go_enter Try.func41,Try.ntmps41
 go_wp2_with (go_at_call 55;refine h.mono ?_;rintro e w' ⟨rfl,⟨q,rfl⟩⟩)
 go_ret
 exact ⟨rfl,⟨⟨_,rfl⟩⟩⟩
theorem containsK_calls (A:Option Addr) (c:Nat) (l:List Int) (w:World) (hr:Kd.C (Kd.int .i64) w A l.length l) :
  Calls Try.prog 43 #[.slice A l.length c,.func (.func 42) #[] #[]] w fun e w'=>e=.returned (.bool (l.any badK))∧Drawn0 w w':=by
 have h:=indexK_calls A c l w hr
 rw [← firstB_any]
 generalize firstB badK l=i at h ⊢
 have hlen:l.length≤9223372036854775807:=hr.2.1
 clear hr
 go_enter Try.func43,Try.ntmps43
 go_wp2_with (go_at_call 56;refine h.mono ?_;rintro e w' ⟨rfl,⟨q,rfl⟩⟩)
 go_ret
 exact ⟨rfl,⟨⟨_,rfl⟩⟩⟩
def partsB (lv:Int) (keys vals:List ByteArray) (kids:List Int):Bool :=
 if lv=0 then decide (vals.length=keys.length)&&(decide (kids.length=0)&&!(vals.any badV)) else decide (kids.length=keys.length+1)&&(decide (vals.length=0)&&!(kids.any badK))
def page_parts.f (a0_0 a0_1 a0_2:Int) (a0_3:ByteArray) (l0_4 l0_5:List ByteArray) (l0_6:List Int):Option Bool:=if l0_4.length < 9223372036854775807 then some (partsB a0_0 l0_4 l0_5 l0_6) else none
set_option maxHeartbeats 4000000 in
set_option maxRecDepth 100000 in
theorem page_parts.calls (a0_0:Int) (a0_1:Int) (a0_2:Int) (a0_3:ByteArray) (A0_4:Option Addr) (c0_4:Nat) (l0_4:List ByteArray) (A0_5:Option Addr) (c0_5:Nat) (l0_5:List ByteArray) (A0_6:Option Addr) (c0_6:Nat) (l0_6:List Int) (r:Bool) (w:World) (hr0_4:Kd.C Kd.string w A0_4 l0_4.length l0_4) (hc0_4:l0_4.length≤c0_4) (hr0_5:Kd.C Kd.string w A0_5 l0_5.length l0_5) (hc0_5:l0_5.length≤c0_5) (hr0_6:Kd.C (Kd.int .i64) w A0_6 l0_6.length l0_6) (hc0_6:l0_6.length≤c0_6) (h:page_parts.f a0_0 a0_1 a0_2 a0_3 l0_4 l0_5 l0_6=some r) :
  Calls Try.prog 21 #[.agg #[.int .i64 a0_0,.int .i64 a0_1,.int .i64 a0_2,.string a0_3,.slice A0_4 l0_4.length c0_4,.slice A0_5 l0_5.length c0_5,.slice A0_6 l0_6.length c0_6]] w fun e w'=>e=.returned (.bool r)∧Below w.heap.size w w':=by
 unfold page_parts.f at h
 split at h
 ·rename_i hk4
  injection h with h
  subst h
  have hv:=containsV_calls A0_5 c0_5 l0_5 _ (Kd.C_below hr0_5 (below_alloc (Below.refl _ _) (.cells #[.int .i64 a0_0,.int .i64 a0_1,.int .i64 a0_2,.string a0_3,.slice A0_4 l0_4.length c0_4,.slice A0_5 l0_5.length c0_5,.slice A0_6 l0_6.length c0_6] 25)))
  have hk:=containsK_calls A0_6 c0_6 l0_6 _ (Kd.C_below hr0_6 (below_alloc (Below.refl _ _) (.cells #[.int .i64 a0_0,.int .i64 a0_1,.int .i64 a0_2,.string a0_3,.slice A0_4 l0_4.length c0_4,.slice A0_5 l0_5.length c0_5,.slice A0_6 l0_6.length c0_6] 25)))
  have HB:=Aside0.mk (below_alloc (Below.refl w.heap.size w) (.cells #[.int .i64 a0_0,.int .i64 a0_1,.int .i64 a0_2,.string a0_3,.slice A0_4 l0_4.length c0_4,.slice A0_5 l0_5.length c0_5,.slice A0_6 l0_6.length c0_6] 25))
  have hl5:l0_5.length≤9223372036854775807:=hr0_5.2.1
  have hl6:l0_6.length≤9223372036854775807:=hr0_6.2.1
  have hw1:IntKind.i64.wrap ((l0_4.length:Int)+1)=(l0_4.length:Int)+1:=by
   rw [IntKind.wrap_i64]
   omega
  unfold partsB
  generalize l0_5.any badV=bv at hv ⊢
  generalize l0_6.any badK=bk at hk ⊢
  have hl4:l0_4.length≤9223372036854775807:=by omega
  clear hr0_4 hr0_5 hr0_6 hc0_4 hc0_5 hc0_6
  generalize l0_4.length=n4 at *
  generalize l0_5.length=n5 at *
  generalize l0_6.length=n6 at *
  by_cases h0:a0_0=0
  ·rw [if_pos h0]
   have d0:(a0_0==0)=true:=beq_iff_eq.mpr h0
   clear h0 hk
   by_cases h1:n5=n4
   ·rw [decide_eq_true h1]
    have d1:((n5:Int)==(n4:Int))=true:=beq_iff_eq.mpr (by omega)
    have d1n:(n5==n4)=true:=beq_iff_eq.mpr h1
    clear h1
    by_cases h2:n6=0
    ·rw [decide_eq_true h2]
     have d2:((n6:Int)==0)=true:=beq_iff_eq.mpr (by omega)
     have d2n:(n6==0)=true:=beq_iff_eq.mpr h2
     clear h2
     go_enter Try.func21,Try.ntmps21
     go_wp2_with (go_at_call 41;refine hv.mono ?_;rintro e w' ⟨rfl,⟨q,rfl⟩⟩)
     go_ret
     exact ⟨rfl,pw_below_drewN HB.out _⟩
    ·rw [decide_eq_false h2]
     have d2:((n6:Int)==0)=false:=beq_eq_false_iff_ne.mpr (by omega)
     have d2n:(n6==0)=false:=beq_eq_false_iff_ne.mpr h2
     clear h2
     go_enter Try.func21,Try.ntmps21
     go_wp2
     go_ret
     exact ⟨rfl,HB.out⟩
   ·rw [decide_eq_false h1]
    have d1:((n5:Int)==(n4:Int))=false:=beq_eq_false_iff_ne.mpr (by omega)
    have d1n:(n5==n4)=false:=beq_eq_false_iff_ne.mpr h1
    clear h1
    go_enter Try.func21,Try.ntmps21
    go_wp2
    go_ret
    exact ⟨rfl,HB.out⟩
  ·rw [if_neg h0]
   have d0:(a0_0==0)=false:=beq_eq_false_iff_ne.mpr h0
   clear h0 hv
   by_cases h1:n6=n4+1
   ·rw [decide_eq_true h1]
    have d1:((n6:Int)==(n4:Int)+1)=true:=beq_iff_eq.mpr (by omega)
    clear h1
    by_cases h2:n5=0
    ·rw [decide_eq_true h2]
     have d2:((n5:Int)==0)=true:=beq_iff_eq.mpr (by omega)
     have d2n:(n5==0)=true:=beq_iff_eq.mpr h2
     clear h2
     go_enter Try.func21,Try.ntmps21
     go_wp2_with (go_at_call 43;refine hk.mono ?_;rintro e w' ⟨rfl,⟨q,rfl⟩⟩)
     go_ret
     exact ⟨rfl,pw_below_drewN HB.out _⟩
    ·rw [decide_eq_false h2]
     have d2:((n5:Int)==0)=false:=beq_eq_false_iff_ne.mpr (by omega)
     have d2n:(n5==0)=false:=beq_eq_false_iff_ne.mpr h2
     clear h2
     go_enter Try.func21,Try.ntmps21
     go_wp2
     go_ret
     exact ⟨rfl,HB.out⟩
   ·rw [decide_eq_false h1]
    have d1:((n6:Int)==(n4:Int)+1)=false:=beq_eq_false_iff_ne.mpr (by omega)
    clear h1
    go_enter Try.func21,Try.ntmps21
    go_wp2
    go_ret
    exact ⟨rfl,HB.out⟩
 ·cases h
end Go.Proofs.Ythfhkcicpfnedaa.Pr
