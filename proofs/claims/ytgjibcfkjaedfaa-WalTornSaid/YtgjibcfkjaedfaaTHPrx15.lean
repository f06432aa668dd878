-- A part of the text Prx15, thinned by a program of this session.
import Derived.Test.YtgjibcfkjaedfaaTHPrx0
namespace Go.Proofs.Ytgjibcfkjaedfaa.Pr
open Go.RowKit Go.Proofs.YtgjibcfkjaedfaaW.PrintWords Go.Proofs.YtgjibcfkjaedfaaW.PrintLast Go.Proofs.YtgjibcfkjaedfaaW.PrintMore
attribute [local go_sem] max2_int min2_int max_two min_two max_three min_three max_four min_four
set_option linter.unusedVariables false
set_option linter.unusedSimpArgs false
mutual
def latticeref05_Compare.l0:Nat→ByteArray→ByteArray→Int→Option (Int)
 | 0,_,_,_=>none
 | k+1,x0,x1,x5=>if x5 < (x0.size:Int) then (latticeref05_Compare.j1 k x0 x1 x5 (decide (x5 < (x1.size:Int)))) else (latticeref05_Compare.j1 k x0 x1 x5 false)
def latticeref05_Compare.j1:Nat→ByteArray→ByteArray→Int→Bool→Option (Int)
 | 0,_,_,_,_=>none
 | k+1,x0,x1,x5,x15=>if x15=true then (if 0≤x5 then (if x5 < (x0.size:Int) then (if x5 < (x1.size:Int) then (if (bt x0 x5) < (bt x1 x5) then (some (-1)) else (if (bt x0 x5) > (bt x1 x5) then (some 1) else (latticeref05_Compare.l0 k x0 x1 (wrap64 (x5+1))))) else (none)) else (none)) else (none)) else (if (x0.size:Int) < (x1.size:Int) then (some (-1)) else (if (x0.size:Int) > (x1.size:Int) then (some 1) else (some 0)))
end
def latticeref05_Compare.f (k:Nat) (a0:ByteArray) (a1:ByteArray):Option (Int):=latticeref05_Compare.l0 k a0 a1 0
set_option maxHeartbeats 8000000 in
set_option maxRecDepth 100000 in
theorem latticeref05_Compare.calls (k:Nat) (a0:ByteArray) (a1:ByteArray) (r:Int) (w:World) (h:latticeref05_Compare.f k a0 a1=some r) :
  Calls Try.prog 108 #[.string a0,.string a1] w fun e w'=>e=.returned (.int .i64 r)∧Drawn0 w w':=by
 have H:(latticeref05_Compare.l0 k a0 a1 0)=some r:=h
 clear h
 have H':=Aside0.mk H
 clear H
 go_enter Try.func108,Try.ntmps108
 go_wp2
 repeat (go_quiet (fail);try go_wp2)
 go_loopg [5] k (fun kq v5 w'=>∃ (x5_1:Int),v5=.int .i64 x5_1∧Aside0 (latticeref05_Compare.l0 kq a0 a1 x5_1=some r)∧Aside0 (kq≤k)∧Drawn0 w w')
 case atStart=>exact ⟨(0),(by first|rfl|(simp;done)|(simp [*];done)),H',⟨Nat.le_refl _⟩,by repeat (first|exact Drawn0.refl _|apply Drawn0.step)⟩
 case round =>
  clear H'
  try clear c1
  try clear p2
  obtain ⟨x5_1,rfl,HA,HK1,⟨m1,rfl⟩⟩:=hrel
  cases gk with
  | zero=>exact absurd (show none=some _ from HA.out) (by simp)
  | succ k1 =>
   have H:=HA.out
   clear HA
   simp only [latticeref05_Compare.l0] at H
   have HC3:=Aside0.mk H
   clear H
   go_upto_region 2 with (fail)
   repeat (go_quiet (fail);go_upto_region 2 with (fail))
   go_cut [15] (fun v15 wc=>∃ (kq:Nat) (x15_2:Bool),v15=.bool x15_2∧Aside0 (latticeref05_Compare.j1 kq a0 a1 x5_1 x15_2=some r)∧Aside0 (kq≤k1)∧Drawn0 w wc)
   case first =>
    have H:=HC3.out
    clear HC3
    by_cases c4:x5_1 < (a0.size:Int)
    ·rw [if_pos c4] at H
     have c4b0:decide (x5_1 < (a0.size:Int))=true:=decide_eq_true c4
     clear c4
     (first|rw [c4b0]|(simp only [i64_w,i32_w];rw [c4b0])|skip)
     have H':=Aside0.mk H
     clear H
     go_wp2
     repeat (go_quiet (fail);try go_wp2)
     go_meet
     case rel=>exact ⟨_,(decide (x5_1 < (a1.size:Int))),(by first|rfl|(simp;done)|(simp [*];done)),H',⟨by have:=HK1.out;first|omega|exact Nat.le_refl _⟩,by repeat (first|exact Drawn0.refl _|apply Drawn0.step)⟩
    ·rw [if_neg c4] at H
     have c4b0:decide (x5_1 < (a0.size:Int))=false:=decide_eq_false c4
     clear c4
     (first|rw [c4b0]|(simp only [i64_w,i32_w];rw [c4b0])|skip)
     have H':=Aside0.mk H
     clear H
     go_wp2
     repeat (go_quiet (fail);try go_wp2)
     go_meet
     case rel=>exact ⟨_,(false),(by first|rfl|(simp;done)|(simp [*];done)),H',⟨by have:=HK1.out;first|omega|exact Nat.le_refl _⟩,by repeat (first|exact Drawn0.refl _|apply Drawn0.step)⟩
   case rest =>
    clear HC3
    try clear c1
    try clear p2
    try clear c4
    try clear c4b0
    try clear p2
    obtain ⟨kq,x15_2,rfl,HA,HJ2,⟨mc2,rfl⟩⟩:=hcut
    cases kq with
    | zero=>exact absurd (show none=some _ from HA.out) (by simp)
    | succ kj2 =>
     have H:=HA.out
     clear HA
     simp only [latticeref05_Compare.j1] at H
     by_cases c5:x15_2=true
     ·subst c5
      have H1:(if 0≤x5_1 then (if x5_1 < (a0.size:Int) then (if x5_1 < (a1.size:Int) then (if (bt a0 x5_1) < (bt a1 x5_1) then (some (-1)) else (if (bt a0 x5_1) > (bt a1 x5_1) then (some 1) else (latticeref05_Compare.l0 kj2 a0 a1 (wrap64 (x5_1+1))))) else (none)) else (none)) else (none))=some r:=by rw [if_pos rfl] at H;exact H
      clear H
      have H:=H1
      clear H1
      by_cases c6:0≤x5_1
      ·rw [if_pos c6] at H
       have c6b0:decide (0≤x5_1)=true:=decide_eq_true c6
       clear c6
       by_cases c7:x5_1 < (a0.size:Int)
       ·rw [if_pos c7] at H
        have c7b0:decide (x5_1 < (a0.size:Int))=true:=decide_eq_true c7
        clear c7
        by_cases c9:x5_1 < (a1.size:Int)
        ·rw [if_pos c9] at H
         have c9b0:decide (x5_1 < (a1.size:Int))=true:=decide_eq_true c9
         clear c9
         by_cases c11:(bt a0 x5_1) < (bt a1 x5_1)
         ·rw [if_pos c11] at H
          have c11b0:decide ((bt a0 x5_1) < (bt a1 x5_1))=true:=decide_eq_true c11
          clear c11
          obtain rfl:=Option.some.inj H
          have p8:0≤(x5_1:Int):=of_decide_eq_true (by first|(with_reducible assumption)|assumption)
          have q8:x5_1 < (a0.size:Int):=of_decide_eq_true (by first|(with_reducible assumption)|assumption)
          have hx8:=bt_at a0 x5_1
          replace p8:=eq_true p8
          replace q8:=eq_true q8
          have p10:0≤(x5_1:Int):=of_decide_eq_true (by first|(with_reducible assumption)|assumption)
          have q10:x5_1 < (a1.size:Int):=of_decide_eq_true (by first|(with_reducible assumption)|assumption)
          have hx10:=bt_at a1 x5_1
          replace p10:=eq_true p10
          replace q10:=eq_true q10
          go_wp2
          repeat (go_quiet (fail);try go_wp2)
          go_ret
          exact ⟨by first|rfl|(simp;done)|(simp [*];done),by repeat (first|exact Drawn0.refl _|apply Drawn0.step)⟩
         ·rw [if_neg c11] at H
          have c11b0:decide ((bt a0 x5_1) < (bt a1 x5_1))=false:=decide_eq_false c11
          clear c11
          by_cases c14:(bt a0 x5_1) > (bt a1 x5_1)
          ·rw [if_pos c14] at H
           have c14b0:decide ((bt a1 x5_1) < (bt a0 x5_1))=true:=decide_eq_true c14
           clear c14
           obtain rfl:=Option.some.inj H
           have p8:0≤(x5_1:Int):=of_decide_eq_true (by first|(with_reducible assumption)|assumption)
           have q8:x5_1 < (a0.size:Int):=of_decide_eq_true (by first|(with_reducible assumption)|assumption)
           have hx8:=bt_at a0 x5_1
           replace p8:=eq_true p8
           replace q8:=eq_true q8
           have p10:0≤(x5_1:Int):=of_decide_eq_true (by first|(with_reducible assumption)|assumption)
           have q10:x5_1 < (a1.size:Int):=of_decide_eq_true (by first|(with_reducible assumption)|assumption)
           have hx10:=bt_at a1 x5_1
           replace p10:=eq_true p10
           replace q10:=eq_true q10
           have p12:0≤(x5_1:Int):=of_decide_eq_true (by first|(with_reducible assumption)|assumption)
           have q12:x5_1 < (a0.size:Int):=of_decide_eq_true (by first|(with_reducible assumption)|assumption)
           have hx12:=bt_at a0 x5_1
           replace p12:=eq_true p12
           replace q12:=eq_true q12
           have p13:0≤(x5_1:Int):=of_decide_eq_true (by first|(with_reducible assumption)|assumption)
           have q13:x5_1 < (a1.size:Int):=of_decide_eq_true (by first|(with_reducible assumption)|assumption)
           have hx13:=bt_at a1 x5_1
           replace p13:=eq_true p13
           replace q13:=eq_true q13
           go_wp2
           repeat (go_quiet (fail);try go_wp2)
           go_ret
           exact ⟨by first|rfl|(simp;done)|(simp [*];done),by repeat (first|exact Drawn0.refl _|apply Drawn0.step)⟩
          ·rw [if_neg c14] at H
           have c14b0:decide ((bt a1 x5_1) < (bt a0 x5_1))=false:=decide_eq_false c14
           clear c14
           have H':=Aside0.mk H
           clear H
           have p8:0≤(x5_1:Int):=of_decide_eq_true (by first|(with_reducible assumption)|assumption)
           have q8:x5_1 < (a0.size:Int):=of_decide_eq_true (by first|(with_reducible assumption)|assumption)
           have hx8:=bt_at a0 x5_1
           replace p8:=eq_true p8
           replace q8:=eq_true q8
           have p10:0≤(x5_1:Int):=of_decide_eq_true (by first|(with_reducible assumption)|assumption)
           have q10:x5_1 < (a1.size:Int):=of_decide_eq_true (by first|(with_reducible assumption)|assumption)
           have hx10:=bt_at a1 x5_1
           replace p10:=eq_true p10
           replace q10:=eq_true q10
           have p12:0≤(x5_1:Int):=of_decide_eq_true (by first|(with_reducible assumption)|assumption)
           have q12:x5_1 < (a0.size:Int):=of_decide_eq_true (by first|(with_reducible assumption)|assumption)
           have hx12:=bt_at a0 x5_1
           replace p12:=eq_true p12
           replace q12:=eq_true q12
           have p13:0≤(x5_1:Int):=of_decide_eq_true (by first|(with_reducible assumption)|assumption)
           have q13:x5_1 < (a1.size:Int):=of_decide_eq_true (by first|(with_reducible assumption)|assumption)
           have hx13:=bt_at a1 x5_1
           replace p13:=eq_true p13
           replace q13:=eq_true q13
           go_wp2
           repeat (go_quiet (fail);try go_wp2)
           go_roundg kj2
           case measure=>have:=HK1.out;have:=HJ2.out;omega
           case rel=>exact ⟨(wrap64 (x5_1+1)),(by first|rfl|(simp;done)|(simp [*];done)),H',⟨by have:=HK1.out;have:=HJ2.out;omega⟩,by repeat (first|exact Drawn0.refl _|apply Drawn0.step)⟩
        ·rw [if_neg c9] at H
         exact absurd H (by simp)
       ·rw [if_neg c7] at H
        exact absurd H (by simp)
      ·rw [if_neg c6] at H
       exact absurd H (by simp)
     ·replace c5:=Bool.eq_false_iff.mpr c5
      subst c5
      have H1:(if (a0.size:Int) < (a1.size:Int) then (some (-1)) else (if (a0.size:Int) > (a1.size:Int) then (some 1) else (some 0)))=some r:=by rw [if_neg (show ¬ (false=true) by decide)] at H;exact H
      clear H
      have H:=H1
      clear H1
      by_cases c15:(a0.size:Int) < (a1.size:Int)
      ·rw [if_pos c15] at H
       have c15b0:decide ((a0.size:Int) < (a1.size:Int))=true:=decide_eq_true c15
       have c15b1:decide (a0.size < a1.size)=true:=decide_eq_true (Int.ofNat_lt.mp c15)
       clear c15
       obtain rfl:=Option.some.inj H
       go_wp2
       repeat (go_quiet (fail);try go_wp2)
       go_ret
       exact ⟨by first|rfl|(simp;done)|(simp [*];done),by repeat (first|exact Drawn0.refl _|apply Drawn0.step)⟩
      ·rw [if_neg c15] at H
       have c15b0:decide ((a0.size:Int) < (a1.size:Int))=false:=decide_eq_false c15
       have c15b1:decide (a0.size < a1.size)=false:=decide_eq_false (fun h=>c15 (Int.ofNat_lt.mpr h))
       clear c15
       by_cases c16:(a0.size:Int) > (a1.size:Int)
       ·rw [if_pos c16] at H
        have c16b0:decide ((a1.size:Int) < (a0.size:Int))=true:=decide_eq_true c16
        have c16b1:decide (a1.size < a0.size)=true:=decide_eq_true (Int.ofNat_lt.mp c16)
        clear c16
        obtain rfl:=Option.some.inj H
        go_wp2
        repeat (go_quiet (fail);try go_wp2)
        go_ret
        exact ⟨by first|rfl|(simp;done)|(simp [*];done),by repeat (first|exact Drawn0.refl _|apply Drawn0.step)⟩
       ·rw [if_neg c16] at H
        have c16b0:decide ((a1.size:Int) < (a0.size:Int))=false:=decide_eq_false c16
        have c16b1:decide (a1.size < a0.size)=false:=decide_eq_false (fun h=>c16 (Int.ofNat_lt.mpr h))
        clear c16
        obtain rfl:=Option.some.inj H
        go_wp2
        repeat (go_quiet (fail);try go_wp2)
        go_ret
        exact ⟨by first|rfl|(simp;done)|(simp [*];done),by repeat (first|exact Drawn0.refl _|apply Drawn0.step)⟩
mutual
def latticeref06_Size.l0:Nat→Int→List ByteArray→Int→Int→Int→Int→Int→ByteArray→List ByteArray→List ByteArray→List Int→Option (Int)
 | 0,_,_,_,_,_,_,_,_,_,_,_=>none
 | k+1,x3,x13,x14,x15,x153000,x153001,x153002,x153003,x153004,x153005,x153006=>if x15 < x14 then (if 0≤x15 then (if x15 < (x13.length:Int) then (latticeref06_Size.l0 k (wrap64 ((wrap64 (x3+2))+((rdOf ByteArray.empty x13 x15).size:Int))) x13 x14 (wrap64 (x15+1)) x153000 x153001 x153002 x153003 x153004 x153005 x153006) else (none)) else (none)) else (if x153000=0 then (latticeref06_Size.l1 k x3 x153005 (x153005.length:Int) 0) else (some (wrap64 (x3+(wrap64 (4*(x153006.length:Int)))))))
def latticeref06_Size.l1:Nat→Int→List ByteArray→Int→Int→Option (Int)
 | 0,_,_,_,_=>none
 | k+1,x3,x29,x30,x31=>if x31 < x30 then (if 0≤x31 then (if x31 < (x29.length:Int) then (latticeref06_Size.l1 k (wrap64 ((wrap64 (x3+2))+((rdOf ByteArray.empty x29 x31).size:Int))) x29 x30 (wrap64 (x31+1))) else (none)) else (none)) else (some x3)
end
def latticeref06_Size.f (k:Nat) (a0_0:Int) (a0_1:Int) (a0_2:Int) (a0_3:ByteArray) (l0_4:List ByteArray) (l0_5:List ByteArray) (l0_6:List Int):Option (Int):=latticeref06_Size.l0 k (wrap64 (21+(a0_3.size:Int))) l0_4 (l0_4.length:Int) 0 a0_0 a0_1 a0_2 a0_3 l0_4 l0_5 l0_6
set_option maxHeartbeats 8000000 in
set_option maxRecDepth 100000 in
theorem latticeref06_Size.calls (k:Nat) (a0_0:Int) (a0_1:Int) (a0_2:Int) (a0_3:ByteArray) (A0_4:Option Addr) (c0_4:Nat) (l0_4:List ByteArray) (A0_5:Option Addr) (c0_5:Nat) (l0_5:List ByteArray) (A0_6:Option Addr) (c0_6:Nat) (l0_6:List Int) (r:Int) (w:World) (hr0_4:Kd.C Kd.string w A0_4 l0_4.length l0_4) (hc0_4:l0_4.length≤c0_4) (hr0_5:Kd.C Kd.string w A0_5 l0_5.length l0_5) (hc0_5:l0_5.length≤c0_5) (hr0_6:Kd.C (Kd.int .i64) w A0_6 l0_6.length l0_6) (hc0_6:l0_6.length≤c0_6) (h:latticeref06_Size.f k a0_0 a0_1 a0_2 a0_3 l0_4 l0_5 l0_6=some r) :
  Calls Try.prog 109 #[.agg #[.int .i64 a0_0,.int .i64 a0_1,.int .i64 a0_2,.string a0_3,.slice A0_4 l0_4.length c0_4,.slice A0_5 l0_5.length c0_5,.slice A0_6 l0_6.length c0_6]] w fun e w'=>e=.returned (.int .i64 r)∧Below w.heap.size w w':=by
 have hu113:=Try.underlying113
 have HR0_4:=Aside0.mk hr0_4
 have HC0_4:=Aside0.mk hc0_4
 clear hr0_4 hc0_4
 have HR0_5:=Aside0.mk hr0_5
 have HC0_5:=Aside0.mk hc0_5
 clear hr0_5 hc0_5
 have HR0_6:=Aside0.mk hr0_6
 have HC0_6:=Aside0.mk hc0_6
 clear hr0_6 hc0_6
 have HB:=Aside0.mk (Below.refl w.heap.size w)
 have H:(latticeref06_Size.l0 k (wrap64 (21+(a0_3.size:Int))) l0_4 (l0_4.length:Int) 0 a0_0 a0_1 a0_2 a0_3 l0_4 l0_5 l0_6)=some r:=h
 clear h
 have H':=Aside0.mk H
 clear H
 go_enter Try.func109,Try.ntmps109
 go_wp2_with (first|((with_reducible refine gate_dst (N:=1) rfl ?_);refine box_event ?hg (N:=1) ?hd (cs:=#[.int .i64 a0_0,.int .i64 a0_1,.int .i64 a0_2,.string a0_3,.slice A0_4 l0_4.length c0_4,.slice A0_5 l0_5.length c0_5,.slice A0_6 l0_6.length c0_6]) (t:=113) ?hr ?_;(case hd=>rfl);(case hg=>rfl);(case hr=>first|(go_simp;done)|(go_simp;rfl));intro gb152 hg w2 hbox hb;have n0_:=Aside0.mk (below_step (by repeat (first|(with_reducible first|exact HB.out|apply below_alloc|apply pw_below_drewN|apply below_drew1)|exact HB.out)) hb);have n1_:=Aside0.mk (hbox);have n2_:=Aside0.mk ((by rw [hg];exact (below_size (by repeat (first|(with_reducible first|exact HB.out|apply below_alloc|apply pw_below_drewN|apply below_drew1)|exact HB.out))):w.heap.size≤gb152));have n3_:=Aside0.mk ((by rw [hg];exact (below_size (by repeat (first|(with_reducible first|exact HB.out|apply below_alloc|apply pw_below_drewN|apply below_drew1)|exact HB.out))):w.heap.size≤gb152));clear HB;have HB:=n0_;have BK152:=n1_;have GW152:=n2_;have GE152:=n3_;clear n0_ n1_ n2_ n3_;clear hb hbox hg;have hcz3_0:w2.cell? ⟨gb152,0,none⟩=some (.int .i64 a0_0):=(blk_cell BK152.out 0).trans rfl;have hcz3_1:w2.cell? ⟨gb152,1,none⟩=some (.int .i64 a0_1):=(blk_cell BK152.out 1).trans rfl;have hcz3_2:w2.cell? ⟨gb152,2,none⟩=some (.int .i64 a0_2):=(blk_cell BK152.out 2).trans rfl;have hcz3_3:w2.cell? ⟨gb152,3,none⟩=some (.string a0_3):=(blk_cell BK152.out 3).trans rfl;have hcz3_4:w2.cell? ⟨gb152,4,none⟩=some (.slice A0_4 l0_4.length c0_4):=(blk_cell BK152.out 4).trans rfl;have hcz3_5:w2.cell? ⟨gb152,5,none⟩=some (.slice A0_5 l0_5.length c0_5):=(blk_cell BK152.out 5).trans rfl;have hcz3_6:w2.cell? ⟨gb152,6,none⟩=some (.slice A0_6 l0_6.length c0_6):=(blk_cell BK152.out 6).trans rfl;have hfz3_0:=blk_frozen BK152.out 0;have hfz3_1:=blk_frozen BK152.out 1;have hfz3_2:=blk_frozen BK152.out 2;have hfz3_3:=blk_frozen BK152.out 3;have hfz3_4:=blk_frozen BK152.out 4;have hfz3_5:=blk_frozen BK152.out 5;have hfz3_6:=blk_frozen BK152.out 6))
 go_loopg [3,15] k (fun kq v3 v15 w'=>∃ (x3_1:Int) (x15_1:Int),v3=.int .i64 x3_1∧v15=.int .i64 x15_1∧Aside0 (latticeref06_Size.l0 kq x3_1 l0_4 (l0_4.length:Int) x15_1 a0_0 a0_1 a0_2 a0_3 l0_4 l0_5 l0_6=some r)∧Aside0 (kq≤k)∧Aside0 (w'.heap[gb152]?=some (.cells #[.int .i64 a0_0,.int .i64 a0_1,.int .i64 a0_2,.string a0_3,(.slice A0_4 l0_4.length c0_4),(.slice A0_5 l0_5.length c0_5),(.slice A0_6 l0_6.length c0_6)] 113 (0,0)))∧Aside0 (Below w.heap.size w w'))
 case atStart=>exact ⟨(wrap64 (21+(a0_3.size:Int))),(0),(by first|rfl|(simp;done)|(simp [*];done)),(by first|rfl|(simp;done)|(simp [*];done)),H',⟨Nat.le_refl _⟩,⟨by (with_reducible repeat (first|refine blk_drewN ?_ _|refine blk_drew ?_|refine blk_alloc ?_ _));exact BK152.out⟩,⟨by repeat (first|(with_reducible first|exact HB.out|apply below_alloc|apply pw_below_drewN|apply below_drew1|refine below_set ?_ GE152.out)|exact HB.out)⟩⟩
 case round =>
  clear H'
  try clear c1
  try clear p2
  try clear hcz3_0
  try clear hcz3_1
  try clear hcz3_2
  try clear hcz3_3
  try clear hcz3_4
  try clear hcz3_5
  try clear hcz3_6
  try clear hfz3_0
  try clear hfz3_1
  try clear hfz3_2
  try clear hfz3_3
  try clear hfz3_4
  try clear hfz3_5
  try clear hfz3_6
  obtain ⟨x3_1,x15_1,rfl,rfl,HA,HK1,BK152,HB⟩:=hrel
  cases gk with
  | zero=>exact absurd (show none=some _ from HA.out) (by simp)
  | succ k1 =>
   have H:=HA.out
   clear HA
   simp only [latticeref06_Size.l0] at H
   by_cases c4:x15_1 < (l0_4.length:Int)
   ·rw [if_pos c4] at H
    have c4b0:decide (x15_1 < (l0_4.length:Int))=true:=decide_eq_true c4
    clear c4
    by_cases c5:0≤x15_1
    ·rw [if_pos c5] at H
     have c5b0:decide (0≤x15_1)=true:=decide_eq_true c5
     clear c5
     by_cases c6:x15_1 < (l0_4.length:Int)
     ·rw [if_pos c6] at H
      have c6b0:decide (x15_1 < (l0_4.length:Int))=true:=decide_eq_true c6
      clear c6
      have H':=Aside0.mk H
      clear H
      have p153:0≤(x15_1:Int):=of_decide_eq_true (by first|(with_reducible assumption)|assumption)
      have q153:x15_1 < (l0_4.length:Int):=of_decide_eq_true (by first|(with_reducible assumption)|assumption)
      obtain ⟨ad153,e153,hx153_0⟩:=Kd.at_string HR0_4.out x15_1 p153 q153
      cases e153
      replace hx153_0:=(HB.out.cell (World.block_lt_of_cell? w _ hx153_0)).trans hx153_0
      replace p153:=eq_true p153
      replace q153:=eq_true q153
      go_wp2
      go_roundg k1
      case measure=>have:=HK1.out;omega
      case rel=>exact ⟨(wrap64 ((wrap64 (x3_1+2))+((rdOf ByteArray.empty l0_4 x15_1).size:Int))),(wrap64 (x15_1+1)),(by first|rfl|(simp;done)|(simp [*];done)),(by first|rfl|(simp;done)|(simp [*];done)),H',⟨by have:=HK1.out;omega⟩,⟨by (with_reducible repeat (first|refine blk_drewN ?_ _|refine blk_drew ?_|refine blk_alloc ?_ _));exact BK152.out⟩,⟨by repeat (first|(with_reducible first|exact HB.out|apply below_alloc|apply pw_below_drewN|apply below_drew1|refine below_set ?_ GE152.out)|exact HB.out)⟩⟩
     ·rw [if_neg c6] at H
      exact absurd H (by simp)
    ·rw [if_neg c5] at H
     exact absurd H (by simp)
   ·rw [if_neg c4] at H
    have c4b0:decide (x15_1 < (l0_4.length:Int))=false:=decide_eq_false c4
    clear c4
    by_cases c7:a0_0=0
    ·rw [if_pos c7] at H
     have c7b0:(a0_0==0)=true:=beq_iff_eq.mpr c7
     have c7b1:(a0_0 != 0)=false:=bne_eq_false_iff_eq.mpr c7
     clear c7
     have H':=Aside0.mk H
     clear H
     have hcz8_0:wr.cell? ⟨gb152,0,none⟩=some (.int .i64 a0_0):=(blk_cell BK152.out 0).trans rfl
     have hcz8_1:wr.cell? ⟨gb152,1,none⟩=some (.int .i64 a0_1):=(blk_cell BK152.out 1).trans rfl
     have hcz8_2:wr.cell? ⟨gb152,2,none⟩=some (.int .i64 a0_2):=(blk_cell BK152.out 2).trans rfl
     have hcz8_3:wr.cell? ⟨gb152,3,none⟩=some (.string a0_3):=(blk_cell BK152.out 3).trans rfl
     have hcz8_4:wr.cell? ⟨gb152,4,none⟩=some (.slice A0_4 l0_4.length c0_4):=(blk_cell BK152.out 4).trans rfl
     have hcz8_5:wr.cell? ⟨gb152,5,none⟩=some (.slice A0_5 l0_5.length c0_5):=(blk_cell BK152.out 5).trans rfl
     have hcz8_6:wr.cell? ⟨gb152,6,none⟩=some (.slice A0_6 l0_6.length c0_6):=(blk_cell BK152.out 6).trans rfl
     have hfz8_0:=blk_frozen BK152.out 0
     have hfz8_1:=blk_frozen BK152.out 1
     have hfz8_2:=blk_frozen BK152.out 2
     have hfz8_3:=blk_frozen BK152.out 3
     have hfz8_4:=blk_frozen BK152.out 4
     have hfz8_5:=blk_frozen BK152.out 5
     have hfz8_6:=blk_frozen BK152.out 6
     go_wp2
     go_loopg [3,31] k1 (fun kq v3 v31 w'=>∃ (x3_2:Int) (x31_2:Int),v3=.int .i64 x3_2∧v31=.int .i64 x31_2∧Aside0 (latticeref06_Size.l1 kq x3_2 l0_5 (l0_5.length:Int) x31_2=some r)∧Aside0 (kq≤k1)∧Aside0 (w'.heap[gb152]?=some (.cells #[.int .i64 a0_0,.int .i64 a0_1,.int .i64 a0_2,.string a0_3,(.slice A0_4 l0_4.length c0_4),(.slice A0_5 l0_5.length c0_5),(.slice A0_6 l0_6.length c0_6)] 113 (0,0)))∧Aside0 (Below w.heap.size w w'))
     case atStart=>exact ⟨(x3_1),(0),(by first|rfl|(simp;done)|(simp [*];done)),(by first|rfl|(simp;done)|(simp [*];done)),H',⟨Nat.le_refl _⟩,⟨by (with_reducible repeat (first|refine blk_drewN ?_ _|refine blk_drew ?_|refine blk_alloc ?_ _));exact BK152.out⟩,⟨by repeat (first|(with_reducible first|exact HB.out|apply below_alloc|apply pw_below_drewN|apply below_drew1|refine below_set ?_ GE152.out)|exact HB.out)⟩⟩
     case round =>
      clear H'
      try clear c1
      try clear p1
      try clear q1
      try clear hx1
      try clear p2
      try clear c4
      try clear c4b0
      try clear c5
      try clear c5b0
      try clear c6
      try clear c6b0
      try clear p6
      try clear c7
      try clear c7b0
      try clear c7b1
      try clear hcz3_0
      try clear hcz3_1
      try clear hcz3_2
      try clear hcz3_3
      try clear hcz3_4
      try clear hcz3_5
      try clear hcz3_6
      try clear hcz8_0
      try clear hcz8_1
      try clear hcz8_2
      try clear hcz8_3
      try clear hcz8_4
      try clear hcz8_5
      try clear hcz8_6
      try clear hfz3_0
      try clear hfz3_1
      try clear hfz3_2
      try clear hfz3_3
      try clear hfz3_4
      try clear hfz3_5
      try clear hfz3_6
      try clear hfz8_0
      try clear hfz8_1
      try clear hfz8_2
      try clear hfz8_3
      try clear hfz8_4
      try clear hfz8_5
      try clear hfz8_6
      try clear hx153_0
      try clear p153
      try clear p2
      try clear q153
      obtain ⟨x3_2,x31_2,rfl,rfl,HA,HK2,BK152,HB⟩:=hrel
      cases gk with
      | zero=>exact absurd (show none=some _ from HA.out) (by simp)
      | succ k2 =>
       have H:=HA.out
       clear HA
       simp only [latticeref06_Size.l1] at H
       by_cases c9:x31_2 < (l0_5.length:Int)
       ·rw [if_pos c9] at H
        have c9b0:decide (x31_2 < (l0_5.length:Int))=true:=decide_eq_true c9
        clear c9
        by_cases c10:0≤x31_2
        ·rw [if_pos c10] at H
         have c10b0:decide (0≤x31_2)=true:=decide_eq_true c10
         clear c10
         by_cases c11:x31_2 < (l0_5.length:Int)
         ·rw [if_pos c11] at H
          have c11b0:decide (x31_2 < (l0_5.length:Int))=true:=decide_eq_true c11
          clear c11
          have H':=Aside0.mk H
          clear H
          have p154:0≤(x31_2:Int):=of_decide_eq_true (by first|(with_reducible assumption)|assumption)
          have q154:x31_2 < (l0_5.length:Int):=of_decide_eq_true (by first|(with_reducible assumption)|assumption)
          obtain ⟨ad154,e154,hx154_0⟩:=Kd.at_string HR0_5.out x31_2 p154 q154
          cases e154
          replace hx154_0:=(HB.out.cell (World.block_lt_of_cell? w _ hx154_0)).trans hx154_0
          replace p154:=eq_true p154
          replace q154:=eq_true q154
          go_wp2
          go_roundg k2
          case measure=>have:=HK1.out;have:=HK2.out;omega
          case rel=>exact ⟨(wrap64 ((wrap64 (x3_2+2))+((rdOf ByteArray.empty l0_5 x31_2).size:Int))),(wrap64 (x31_2+1)),(by first|rfl|(simp;done)|(simp [*];done)),(by first|rfl|(simp;done)|(simp [*];done)),H',⟨by have:=HK1.out;have:=HK2.out;omega⟩,⟨by (with_reducible repeat (first|refine blk_drewN ?_ _|refine blk_drew ?_|refine blk_alloc ?_ _));exact BK152.out⟩,⟨by repeat (first|(with_reducible first|exact HB.out|apply below_alloc|apply pw_below_drewN|apply below_drew1|refine below_set ?_ GE152.out)|exact HB.out)⟩⟩
         ·rw [if_neg c11] at H
          exact absurd H (by simp)
        ·rw [if_neg c10] at H
         exact absurd H (by simp)
       ·rw [if_neg c9] at H
        have c9b0:decide (x31_2 < (l0_5.length:Int))=false:=decide_eq_false c9
        clear c9
        obtain rfl:=Option.some.inj H
        go_wp2
        go_ret
        exact ⟨by first|rfl|(simp [errW_none,errW_some] <;> rfl)|(simp [*,errW_none,errW_some] <;> rfl),by repeat (first|(with_reducible first|exact HB.out|apply below_alloc|apply pw_below_drewN|apply below_drew1|refine below_set ?_ GE152.out)|exact HB.out)⟩
    ·rw [if_neg c7] at H
     have c7b0:(a0_0==0)=false:=beq_eq_false_iff_ne.mpr c7
     have c7b1:(a0_0 != 0)=true:=bne_iff_ne.mpr c7
     obtain rfl:=Option.some.inj H
     have hcz12_0:wr.cell? ⟨gb152,0,none⟩=some (.int .i64 a0_0):=(blk_cell BK152.out 0).trans rfl
     have hcz12_1:wr.cell? ⟨gb152,1,none⟩=some (.int .i64 a0_1):=(blk_cell BK152.out 1).trans rfl
     have hcz12_2:wr.cell? ⟨gb152,2,none⟩=some (.int .i64 a0_2):=(blk_cell BK152.out 2).trans rfl
     have hcz12_3:wr.cell? ⟨gb152,3,none⟩=some (.string a0_3):=(blk_cell BK152.out 3).trans rfl
     have hcz12_4:wr.cell? ⟨gb152,4,none⟩=some (.slice A0_4 l0_4.length c0_4):=(blk_cell BK152.out 4).trans rfl
     have hcz12_5:wr.cell? ⟨gb152,5,none⟩=some (.slice A0_5 l0_5.length c0_5):=(blk_cell BK152.out 5).trans rfl
     have hcz12_6:wr.cell? ⟨gb152,6,none⟩=some (.slice A0_6 l0_6.length c0_6):=(blk_cell BK152.out 6).trans rfl
     have hfz12_0:=blk_frozen BK152.out 0
     have hfz12_1:=blk_frozen BK152.out 1
     have hfz12_2:=blk_frozen BK152.out 2
     have hfz12_3:=blk_frozen BK152.out 3
     have hfz12_4:=blk_frozen BK152.out 4
     have hfz12_5:=blk_frozen BK152.out 5
     have hfz12_6:=blk_frozen BK152.out 6
     go_wp2
     go_ret
     exact ⟨by first|rfl|(simp [errW_none,errW_some] <;> rfl)|(simp [*,errW_none,errW_some] <;> rfl),by repeat (first|(with_reducible first|exact HB.out|apply below_alloc|apply pw_below_drewN|apply below_drew1|refine below_set ?_ GE152.out)|exact HB.out)⟩
end Go.Proofs.Ytgjibcfkjaedfaa.Pr
