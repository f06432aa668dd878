-- A part of the text Prx4, thinned by a program of this session.
import Derived.Test.YtcocmpblmkdmjaaTNodeHalvesPrx0
import Derived.Test.YtcocmpblmkdmjaaTNodeHalvesPrx2
import Derived.Test.YtcocmpblmkdmjaaTNodeHalvesPrx3
namespace Go.Proofs.Ytcocmpblmkdmjaa.Pr
open Go.RowKit Go.Proofs.YtcocmpblmkdmjaaW.PrintWords Go.Proofs.YtcocmpblmkdmjaaW.PrintLast Go.Proofs.YtcocmpblmkdmjaaW.PrintMore
attribute [local go_sem] max2_int min2_int max_two min_two max_three min_three max_four min_four
set_option linter.unusedVariables false
set_option linter.unusedSimpArgs false
def node_Split.f (k:Nat) (a0_0:Int) (a0_1:Int) (a0_2:Int) (a0_3:ByteArray) (l0_4:List ByteArray) (l0_5:List ByteArray) (l0_6:List Int):Option (ByteArray×Int):=(page_Check.f k a0_0 a0_1 a0_2 a0_3 l0_4 l0_5 l0_6).bind fun t129=>(if t129=0 then (if (l0_4.length:Int) < 2 then (some ((⟨#[]⟩:ByteArray),7)) else ((node_parting.f k a0_0 a0_1 a0_2 a0_3 l0_4 l0_5 l0_6).bind fun t130=>(if a0_0 > 0 then (if 0≤t130 then (if t130 < (l0_4.length:Int) then (some (rdOf ByteArray.empty l0_4 t130,0)) else (none)) else (none)) else (if 0≤(wrap64 (t130 - 1)) then (if (wrap64 (t130 - 1)) < (l0_4.length:Int) then (if 0≤t130 then (if t130 < (l0_4.length:Int) then ((key_Between.f (rdOf ByteArray.empty l0_4 (wrap64 (t130 - 1))) (rdOf ByteArray.empty l0_4 t130)).bind fun bt134=>(some (bt134.1,bt134.2))) else (none)) else (none)) else (none)) else (none))))) else (some ((⟨#[]⟩:ByteArray),70)))
def node_Split.T8:Bool×List (List Nat×List Nat):=(true,[([],[]),([0],[0]),([],[]),([2],[2]),([1,3],[1,3]),([4],[4]),([],[]),([6],[6]),([],[]),([7,8],[7,8]),([9],[9]),([5,10],[5,10]),([11],[11]),([11],[11]),([12,11,0,1,2,3,4,5,6,7,8,9,10,11,12,13],[12]),([13,14,0,1,2,3,4,5,6,7,8,9,10,11,12,13,14],[13])])
def node_Split.B8:List Nat:=[0,1,0,4,15,31,0,64,0,448,960,2047,4095,4095,16383,32767]
theorem node_Split.tab8:rtab .any (opsOf Try.f10 8)=node_Split.T8:=by kernel_rfl
theorem node_Split.bits8:waitsOk node_Split.T8.2 node_Split.B8=true:=by kernel_rfl
set_option maxHeartbeats 8000000 in
set_option maxRecDepth 100000 in
theorem node_Split.calls (k:Nat) (a0_0:Int) (a0_1:Int) (a0_2:Int) (a0_3:ByteArray) (A0_4:Option Addr) (c0_4:Nat) (l0_4:List ByteArray) (A0_5:Option Addr) (c0_5:Nat) (l0_5:List ByteArray) (A0_6:Option Addr) (c0_6:Nat) (l0_6:List Int) (r1:ByteArray) (r2:Int) (w:World) (hr0_4:Kd.C Kd.string w A0_4 l0_4.length l0_4) (hc0_4:l0_4.length≤c0_4) (hr0_5:Kd.C Kd.string w A0_5 l0_5.length l0_5) (hc0_5:l0_5.length≤c0_5) (hr0_6:Kd.C (Kd.int .i64) w A0_6 l0_6.length l0_6) (hc0_6:l0_6.length≤c0_6) (h:node_Split.f k a0_0 a0_1 a0_2 a0_3 l0_4 l0_5 l0_6=some (r1,r2)) :
  Calls Try.prog 10 #[.agg #[.int .i64 a0_0,.int .i64 a0_1,.int .i64 a0_2,.string a0_3,.slice A0_4 l0_4.length c0_4,.slice A0_5 l0_5.length c0_5,.slice A0_6 l0_6.length c0_6]] w fun e w'=>e=.returned (.tuple #[.string r1,.int .i64 r2])∧Below w.heap.size w w':=by
 have hu25:=Try.underlying25
 have HR0_4:=Aside0.mk hr0_4
 have HC0_4:=Aside0.mk hc0_4
 clear hr0_4 hc0_4
 have HR0_5:=Aside0.mk hr0_5
 have HC0_5:=Aside0.mk hc0_5
 clear hr0_5 hc0_5
 have HR0_6:=Aside0.mk hr0_6
 have HC0_6:=Aside0.mk hc0_6
 clear hr0_6 hc0_6
 have HB:=Aside0.mk (Below.refl w.heap.size w)
 have H:((page_Check.f k a0_0 a0_1 a0_2 a0_3 l0_4 l0_5 l0_6).bind fun t129=>(if t129=0 then (if (l0_4.length:Int) < 2 then (some ((⟨#[]⟩:ByteArray),7)) else ((node_parting.f k a0_0 a0_1 a0_2 a0_3 l0_4 l0_5 l0_6).bind fun t130=>(if a0_0 > 0 then (if 0≤t130 then (if t130 < (l0_4.length:Int) then (some (rdOf ByteArray.empty l0_4 t130,0)) else (none)) else (none)) else (if 0≤(wrap64 (t130 - 1)) then (if (wrap64 (t130 - 1)) < (l0_4.length:Int) then (if 0≤t130 then (if t130 < (l0_4.length:Int) then ((key_Between.f (rdOf ByteArray.empty l0_4 (wrap64 (t130 - 1))) (rdOf ByteArray.empty l0_4 t130)).bind fun bt134=>(some (bt134.1,bt134.2))) else (none)) else (none)) else (none)) else (none))))) else (some ((⟨#[]⟩:ByteArray),70))))=some (r1,r2):=h
 clear h
 replace H:=Option.bind_eq_some_iff.mp H
 obtain ⟨t129,A20,H⟩:=H
 try dsimp only at H
 have A2:=Aside0.mk A20
 clear A20
 by_cases c3:t129=0
 ·rw [if_pos c3] at H
  have c3b0:(t129==0)=true:=beq_iff_eq.mpr c3
  have c3b1:(t129 != 0)=false:=bne_eq_false_iff_eq.mpr c3
  clear c3
  by_cases c4:(l0_4.length:Int) < 2
  ·rw [if_pos c4] at H
   have c4b0:decide ((l0_4.length:Int) < 2)=true:=decide_eq_true c4
   have c4b1:decide (l0_4.length < 2)=true:=decide_eq_true (by omega)
   clear c4
   simp only [Option.some.injEq,Prod.mk.injEq] at H
   obtain ⟨rfl,rfl⟩:=H
   go_enter Try.func10,Try.ntmps10
   go_wp2_with (first|((with_reducible refine gate_dst (N:=1) rfl ?_);refine box_event ?hg (N:=1) ?hd (cs:=#[.int .i64 a0_0,.int .i64 a0_1,.int .i64 a0_2,.string a0_3,.slice A0_4 l0_4.length c0_4,.slice A0_5 l0_5.length c0_5,.slice A0_6 l0_6.length c0_6]) (t:=25) ?hr ?_;(case hd=>rfl);(case hg=>rfl);(case hr=>first|(go_simp;done)|(go_simp;rfl));intro gb128 hg w5 hbox hb;have n0_:=Aside0.mk (below_step (by repeat (first|(with_reducible first|exact HB.out|apply below_alloc|apply pw_below_drewN|apply below_drew1)|exact HB.out)) hb);have n1_:=Aside0.mk (hbox);have n2_:=Aside0.mk ((by rw [hg];exact (below_size (by repeat (first|(with_reducible first|exact HB.out|apply below_alloc|apply pw_below_drewN|apply below_drew1)|exact HB.out))):w.heap.size≤gb128));have n3_:=Aside0.mk ((by rw [hg];exact (below_size (by repeat (first|(with_reducible first|exact HB.out|apply below_alloc|apply pw_below_drewN|apply below_drew1)|exact HB.out))):w.heap.size≤gb128));clear HB;have HB:=n0_;have BK128:=n1_;have GW128:=n2_;have GE128:=n3_;clear n0_ n1_ n2_ n3_;clear hb hbox hg;have hcz6_0:w5.cell? ⟨gb128,0,none⟩=some (.int .i64 a0_0):=(blk_cell BK128.out 0).trans rfl;have hcz6_1:w5.cell? ⟨gb128,1,none⟩=some (.int .i64 a0_1):=(blk_cell BK128.out 1).trans rfl;have hcz6_2:w5.cell? ⟨gb128,2,none⟩=some (.int .i64 a0_2):=(blk_cell BK128.out 2).trans rfl;have hcz6_3:w5.cell? ⟨gb128,3,none⟩=some (.string a0_3):=(blk_cell BK128.out 3).trans rfl;have hcz6_4:w5.cell? ⟨gb128,4,none⟩=some (.slice A0_4 l0_4.length c0_4):=(blk_cell BK128.out 4).trans rfl;have hcz6_5:w5.cell? ⟨gb128,5,none⟩=some (.slice A0_5 l0_5.length c0_5):=(blk_cell BK128.out 5).trans rfl;have hcz6_6:w5.cell? ⟨gb128,6,none⟩=some (.slice A0_6 l0_6.length c0_6):=(blk_cell BK128.out 6).trans rfl;have hfz6_0:=blk_frozen BK128.out 0;have hfz6_1:=blk_frozen BK128.out 1;have hfz6_2:=blk_frozen BK128.out 2;have hfz6_3:=blk_frozen BK128.out 3;have hfz6_4:=blk_frozen BK128.out 4;have hfz6_5:=blk_frozen BK128.out 5;have hfz6_6:=blk_frozen BK128.out 6)|((with_reducible refine gate_callee (f:=32) rfl ?_);refine goesL_ (some 7) rfl rfl Try.func32 (by kernel_rfl) rfl #[.agg #[.int .i64 a0_0,.int .i64 a0_1,.int .i64 a0_2,.string a0_3,.slice A0_4 l0_4.length c0_4,.slice A0_5 l0_5.length c0_5,.slice A0_6 l0_6.length c0_6]] rfl (by (try simp only [List.map_toArray,List.map_cons,List.map_nil]);first|done|rfl|(simp only [List.length_drop,List.length_take];rfl)) ?_;(with_reducible refine (page_Check.calls k a0_0 a0_1 a0_2 a0_3 _ _ l0_4 _ _ l0_5 _ _ l0_6 t129 _ ?side1 ?side2 ?side3 ?side4 ?side5 ?side6 A2.out).mono ?_);(case side1=>repeat (first|exact (Kd.C_below HR0_4.out HB.out)|(with_reducible refine Kd.C_alloc ?_ _)|(with_reducible refine Kd.C_drewN ?_ _)|(with_reducible refine Kd.C_drew ?_)));(case side2=>exact HC0_4.out);(case side3=>repeat (first|exact (Kd.C_below HR0_5.out HB.out)|(with_reducible refine Kd.C_alloc ?_ _)|(with_reducible refine Kd.C_drewN ?_ _)|(with_reducible refine Kd.C_drew ?_)));(case side4=>exact HC0_5.out);(case side5=>repeat (first|exact (Kd.C_below HR0_6.out HB.out)|(with_reducible refine Kd.C_alloc ?_ _)|(with_reducible refine Kd.C_drewN ?_ _)|(with_reducible refine Kd.C_drew ?_)));(case side6=>exact HC0_6.out);rintro e w7 ⟨rfl,hb⟩;refine ⟨_,rfl,?_⟩;have n0_:=Aside0.mk (blk_below (g:=gb128) (o:=.cells #[.int .i64 a0_0,.int .i64 a0_1,.int .i64 a0_2,.string a0_3,.slice A0_4 l0_4.length c0_4,.slice A0_5 l0_5.length c0_5,.slice A0_6 l0_6.length c0_6] 25 (0,0)) (by (with_reducible repeat (first|refine blk_drewN ?_ _|refine blk_drew ?_|refine blk_alloc ?_ _));exact BK128.out) hb);have n1_:=Aside0.mk (below_step (by repeat (first|(with_reducible first|exact HB.out|apply below_alloc|apply pw_below_drewN|apply below_drew1|refine below_set ?_ GE128.out)|exact HB.out)) hb);clear BK128;clear HB;have BK128:=n0_;have HB:=n1_;clear n0_ n1_;(try clear hb);(try clear hb2);(try clear hk);(try clear hi);have hcz8_0:w7.cell? ⟨gb128,0,none⟩=some (.int .i64 a0_0):=(blk_cell BK128.out 0).trans rfl;have hcz8_1:w7.cell? ⟨gb128,1,none⟩=some (.int .i64 a0_1):=(blk_cell BK128.out 1).trans rfl;have hcz8_2:w7.cell? ⟨gb128,2,none⟩=some (.int .i64 a0_2):=(blk_cell BK128.out 2).trans rfl;have hcz8_3:w7.cell? ⟨gb128,3,none⟩=some (.string a0_3):=(blk_cell BK128.out 3).trans rfl;have hcz8_4:w7.cell? ⟨gb128,4,none⟩=some (.slice A0_4 l0_4.length c0_4):=(blk_cell BK128.out 4).trans rfl;have hcz8_5:w7.cell? ⟨gb128,5,none⟩=some (.slice A0_5 l0_5.length c0_5):=(blk_cell BK128.out 5).trans rfl;have hcz8_6:w7.cell? ⟨gb128,6,none⟩=some (.slice A0_6 l0_6.length c0_6):=(blk_cell BK128.out 6).trans rfl;have hfz8_0:=blk_frozen BK128.out 0;have hfz8_1:=blk_frozen BK128.out 1;have hfz8_2:=blk_frozen BK128.out 2;have hfz8_3:=blk_frozen BK128.out 3;have hfz8_4:=blk_frozen BK128.out 4;have hfz8_5:=blk_frozen BK128.out 5;have hfz8_6:=blk_frozen BK128.out 6))
   go_ret2
   exact ⟨by first|rfl|(simp [errW_none,errW_some] <;> rfl)|(simp [*,errW_none,errW_some] <;> rfl),by repeat (first|(with_reducible first|exact HB.out|apply below_alloc|apply pw_below_drewN|apply below_drew1|refine below_set ?_ GE128.out)|exact HB.out)⟩
  ·rw [if_neg c4] at H
   have c4b0:decide ((l0_4.length:Int) < 2)=false:=decide_eq_false c4
   have c4b1:decide (l0_4.length < 2)=false:=decide_eq_false (by omega)
   clear c4
   replace H:=Option.bind_eq_some_iff.mp H
   obtain ⟨t130,A90,H⟩:=H
   try dsimp only at H
   have A9:=Aside0.mk A90
   clear A90
   by_cases c10:a0_0 > 0
   ·rw [if_pos c10] at H
    have c10b0:decide (0 < a0_0)=true:=decide_eq_true c10
    clear c10
    by_cases c11:0≤t130
    ·rw [if_pos c11] at H
     have c11b0:decide (0≤t130)=true:=decide_eq_true c11
     clear c11
     by_cases c12:t130 < (l0_4.length:Int)
     ·rw [if_pos c12] at H
      have c12b0:decide (t130 < (l0_4.length:Int))=true:=decide_eq_true c12
      clear c12
      simp only [Option.some.injEq,Prod.mk.injEq] at H
      obtain ⟨rfl,rfl⟩:=H
      go_enter Try.func10,Try.ntmps10
      go_wp2_with (first|((with_reducible refine gate_dst (N:=1) rfl ?_);refine box_event ?hg (N:=1) ?hd (cs:=#[.int .i64 a0_0,.int .i64 a0_1,.int .i64 a0_2,.string a0_3,.slice A0_4 l0_4.length c0_4,.slice A0_5 l0_5.length c0_5,.slice A0_6 l0_6.length c0_6]) (t:=25) ?hr ?_;(case hd=>rfl);(case hg=>rfl);(case hr=>first|(go_simp;done)|(go_simp;rfl));intro gb128 hg w13 hbox hb;have n0_:=Aside0.mk (below_step (by repeat (first|(with_reducible first|exact HB.out|apply below_alloc|apply pw_below_drewN|apply below_drew1)|exact HB.out)) hb);have n1_:=Aside0.mk (hbox);have n2_:=Aside0.mk ((by rw [hg];exact (below_size (by repeat (first|(with_reducible first|exact HB.out|apply below_alloc|apply pw_below_drewN|apply below_drew1)|exact HB.out))):w.heap.size≤gb128));have n3_:=Aside0.mk ((by rw [hg];exact (below_size (by repeat (first|(with_reducible first|exact HB.out|apply below_alloc|apply pw_below_drewN|apply below_drew1)|exact HB.out))):w.heap.size≤gb128));clear HB;have HB:=n0_;have BK128:=n1_;have GW128:=n2_;have GE128:=n3_;clear n0_ n1_ n2_ n3_;clear hb hbox hg;have hcz14_0:w13.cell? ⟨gb128,0,none⟩=some (.int .i64 a0_0):=(blk_cell BK128.out 0).trans rfl;have hcz14_1:w13.cell? ⟨gb128,1,none⟩=some (.int .i64 a0_1):=(blk_cell BK128.out 1).trans rfl;have hcz14_2:w13.cell? ⟨gb128,2,none⟩=some (.int .i64 a0_2):=(blk_cell BK128.out 2).trans rfl;have hcz14_3:w13.cell? ⟨gb128,3,none⟩=some (.string a0_3):=(blk_cell BK128.out 3).trans rfl;have hcz14_4:w13.cell? ⟨gb128,4,none⟩=some (.slice A0_4 l0_4.length c0_4):=(blk_cell BK128.out 4).trans rfl;have hcz14_5:w13.cell? ⟨gb128,5,none⟩=some (.slice A0_5 l0_5.length c0_5):=(blk_cell BK128.out 5).trans rfl;have hcz14_6:w13.cell? ⟨gb128,6,none⟩=some (.slice A0_6 l0_6.length c0_6):=(blk_cell BK128.out 6).trans rfl;have hfz14_0:=blk_frozen BK128.out 0;have hfz14_1:=blk_frozen BK128.out 1;have hfz14_2:=blk_frozen BK128.out 2;have hfz14_3:=blk_frozen BK128.out 3;have hfz14_4:=blk_frozen BK128.out 4;have hfz14_5:=blk_frozen BK128.out 5;have hfz14_6:=blk_frozen BK128.out 6)|((with_reducible refine gate_callee (f:=32) rfl ?_);refine goesL_ (some 7) rfl rfl Try.func32 (by kernel_rfl) rfl #[.agg #[.int .i64 a0_0,.int .i64 a0_1,.int .i64 a0_2,.string a0_3,.slice A0_4 l0_4.length c0_4,.slice A0_5 l0_5.length c0_5,.slice A0_6 l0_6.length c0_6]] rfl (by (try simp only [List.map_toArray,List.map_cons,List.map_nil]);first|done|rfl|(simp only [List.length_drop,List.length_take];rfl)) ?_;(with_reducible refine (page_Check.calls k a0_0 a0_1 a0_2 a0_3 _ _ l0_4 _ _ l0_5 _ _ l0_6 t129 _ ?side1 ?side2 ?side3 ?side4 ?side5 ?side6 A2.out).mono ?_);(case side1=>repeat (first|exact (Kd.C_below HR0_4.out HB.out)|(with_reducible refine Kd.C_alloc ?_ _)|(with_reducible refine Kd.C_drewN ?_ _)|(with_reducible refine Kd.C_drew ?_)));(case side2=>exact HC0_4.out);(case side3=>repeat (first|exact (Kd.C_below HR0_5.out HB.out)|(with_reducible refine Kd.C_alloc ?_ _)|(with_reducible refine Kd.C_drewN ?_ _)|(with_reducible refine Kd.C_drew ?_)));(case side4=>exact HC0_5.out);(case side5=>repeat (first|exact (Kd.C_below HR0_6.out HB.out)|(with_reducible refine Kd.C_alloc ?_ _)|(with_reducible refine Kd.C_drewN ?_ _)|(with_reducible refine Kd.C_drew ?_)));(case side6=>exact HC0_6.out);rintro e w15 ⟨rfl,hb⟩;refine ⟨_,rfl,?_⟩;have n0_:=Aside0.mk (blk_below (g:=gb128) (o:=.cells #[.int .i64 a0_0,.int .i64 a0_1,.int .i64 a0_2,.string a0_3,.slice A0_4 l0_4.length c0_4,.slice A0_5 l0_5.length c0_5,.slice A0_6 l0_6.length c0_6] 25 (0,0)) (by (with_reducible repeat (first|refine blk_drewN ?_ _|refine blk_drew ?_|refine blk_alloc ?_ _));exact BK128.out) hb);have n1_:=Aside0.mk (below_step (by repeat (first|(with_reducible first|exact HB.out|apply below_alloc|apply pw_below_drewN|apply below_drew1|refine below_set ?_ GE128.out)|exact HB.out)) hb);clear BK128;clear HB;have BK128:=n0_;have HB:=n1_;clear n0_ n1_;(try clear hb);(try clear hb2);(try clear hk);(try clear hi);have hcz16_0:w15.cell? ⟨gb128,0,none⟩=some (.int .i64 a0_0):=(blk_cell BK128.out 0).trans rfl;have hcz16_1:w15.cell? ⟨gb128,1,none⟩=some (.int .i64 a0_1):=(blk_cell BK128.out 1).trans rfl;have hcz16_2:w15.cell? ⟨gb128,2,none⟩=some (.int .i64 a0_2):=(blk_cell BK128.out 2).trans rfl;have hcz16_3:w15.cell? ⟨gb128,3,none⟩=some (.string a0_3):=(blk_cell BK128.out 3).trans rfl;have hcz16_4:w15.cell? ⟨gb128,4,none⟩=some (.slice A0_4 l0_4.length c0_4):=(blk_cell BK128.out 4).trans rfl;have hcz16_5:w15.cell? ⟨gb128,5,none⟩=some (.slice A0_5 l0_5.length c0_5):=(blk_cell BK128.out 5).trans rfl;have hcz16_6:w15.cell? ⟨gb128,6,none⟩=some (.slice A0_6 l0_6.length c0_6):=(blk_cell BK128.out 6).trans rfl;have hfz16_0:=blk_frozen BK128.out 0;have hfz16_1:=blk_frozen BK128.out 1;have hfz16_2:=blk_frozen BK128.out 2;have hfz16_3:=blk_frozen BK128.out 3;have hfz16_4:=blk_frozen BK128.out 4;have hfz16_5:=blk_frozen BK128.out 5;have hfz16_6:=blk_frozen BK128.out 6)|((with_reducible refine gate_callee (f:=33) rfl ?_);refine goesL_ (some 15) rfl rfl Try.func33 (by kernel_rfl) rfl #[.agg #[.int .i64 a0_0,.int .i64 a0_1,.int .i64 a0_2,.string a0_3,.slice A0_4 l0_4.length c0_4,.slice A0_5 l0_5.length c0_5,.slice A0_6 l0_6.length c0_6]] rfl (by (try simp only [List.map_toArray,List.map_cons,List.map_nil]);first|done|rfl|(simp only [List.length_drop,List.length_take];rfl)) ?_;(with_reducible refine (node_parting.calls k a0_0 a0_1 a0_2 a0_3 _ _ l0_4 _ _ l0_5 _ _ l0_6 t130 _ ?side1 ?side2 ?side3 ?side4 ?side5 ?side6 A9.out).mono ?_);(case side1=>repeat (first|exact (Kd.C_below HR0_4.out HB.out)|(with_reducible refine Kd.C_alloc ?_ _)|(with_reducible refine Kd.C_drewN ?_ _)|(with_reducible refine Kd.C_drew ?_)));(case side2=>exact HC0_4.out);(case side3=>repeat (first|exact (Kd.C_below HR0_5.out HB.out)|(with_reducible refine Kd.C_alloc ?_ _)|(with_reducible refine Kd.C_drewN ?_ _)|(with_reducible refine Kd.C_drew ?_)));(case side4=>exact HC0_5.out);(case side5=>repeat (first|exact (Kd.C_below HR0_6.out HB.out)|(with_reducible refine Kd.C_alloc ?_ _)|(with_reducible refine Kd.C_drewN ?_ _)|(with_reducible refine Kd.C_drew ?_)));(case side6=>exact HC0_6.out);rintro e w17 ⟨rfl,hb⟩;refine ⟨_,rfl,?_⟩;have n0_:=Aside0.mk (blk_below (g:=gb128) (o:=.cells #[.int .i64 a0_0,.int .i64 a0_1,.int .i64 a0_2,.string a0_3,.slice A0_4 l0_4.length c0_4,.slice A0_5 l0_5.length c0_5,.slice A0_6 l0_6.length c0_6] 25 (0,0)) (by (with_reducible repeat (first|refine blk_drewN ?_ _|refine blk_drew ?_|refine blk_alloc ?_ _));exact BK128.out) hb);have n1_:=Aside0.mk (below_step (by repeat (first|(with_reducible first|exact HB.out|apply below_alloc|apply pw_below_drewN|apply below_drew1|refine below_set ?_ GE128.out)|exact HB.out)) hb);clear BK128;clear HB;have BK128:=n0_;have HB:=n1_;clear n0_ n1_;(try clear hb);(try clear hb2);(try clear hk);(try clear hi);have hcz18_0:w17.cell? ⟨gb128,0,none⟩=some (.int .i64 a0_0):=(blk_cell BK128.out 0).trans rfl;have hcz18_1:w17.cell? ⟨gb128,1,none⟩=some (.int .i64 a0_1):=(blk_cell BK128.out 1).trans rfl;have hcz18_2:w17.cell? ⟨gb128,2,none⟩=some (.int .i64 a0_2):=(blk_cell BK128.out 2).trans rfl;have hcz18_3:w17.cell? ⟨gb128,3,none⟩=some (.string a0_3):=(blk_cell BK128.out 3).trans rfl;have hcz18_4:w17.cell? ⟨gb128,4,none⟩=some (.slice A0_4 l0_4.length c0_4):=(blk_cell BK128.out 4).trans rfl;have hcz18_5:w17.cell? ⟨gb128,5,none⟩=some (.slice A0_5 l0_5.length c0_5):=(blk_cell BK128.out 5).trans rfl;have hcz18_6:w17.cell? ⟨gb128,6,none⟩=some (.slice A0_6 l0_6.length c0_6):=(blk_cell BK128.out 6).trans rfl;have hfz18_0:=blk_frozen BK128.out 0;have hfz18_1:=blk_frozen BK128.out 1;have hfz18_2:=blk_frozen BK128.out 2;have hfz18_3:=blk_frozen BK128.out 3;have hfz18_4:=blk_frozen BK128.out 4;have hfz18_5:=blk_frozen BK128.out 5;have hfz18_6:=blk_frozen BK128.out 6;have p131:0≤(t130:Int):=of_decide_eq_true (by first|(with_reducible assumption)|assumption);have q131:t130 < (l0_4.length:Int):=of_decide_eq_true (by first|(with_reducible assumption)|assumption);obtain ⟨ad131,e131,hx131_0⟩:=Kd.at_string HR0_4.out t130 p131 q131;cases e131;replace hx131_0:=(HB.out.cell (World.block_lt_of_cell? w _ hx131_0)).trans hx131_0;replace p131:=eq_true p131;replace q131:=eq_true q131))
      go_ret2
      exact ⟨by first|rfl|(simp [errW_none,errW_some] <;> rfl)|(simp [*,errW_none,errW_some] <;> rfl),by repeat (first|(with_reducible first|exact HB.out|apply below_alloc|apply pw_below_drewN|apply below_drew1|refine below_set ?_ GE128.out)|exact HB.out)⟩
     ·rw [if_neg c12] at H
      exact absurd H (by simp)
    ·rw [if_neg c11] at H
     exact absurd H (by simp)
   ·rw [if_neg c10] at H
    have c10b0:decide (0 < a0_0)=false:=decide_eq_false c10
    clear c10
    obtain ⟨ji19,hji19⟩:∃ j_:Int,(wrap64 (t130 - 1))=j_:=⟨_,rfl⟩
    replace H:(if 0≤(ji19) then (if (ji19) < (l0_4.length:Int) then (if 0≤t130 then (if t130 < (l0_4.length:Int) then ((key_Between.f (rdOf ByteArray.empty l0_4 (ji19)) (rdOf ByteArray.empty l0_4 t130)).bind fun bt134=>(some (bt134.1,bt134.2))) else (none)) else (none)) else (none)) else (none))=some (r1,r2):=by first|(rw [hji19] at H;exact H)|(simp only [hji19] at H ⊢;exact H)
    (try rw [hji19] at A2)
    (try rw [hji19] at A9)
    have hji19w:(IntKind.i64.wrap (t130 - 1))=ji19:=(i64_w _).trans hji19
    by_cases c20:0≤(ji19)
    ·rw [if_pos c20] at H
     have c20b0:decide (0≤(ji19))=true:=decide_eq_true c20
     clear c20
     by_cases c21:(ji19) < (l0_4.length:Int)
     ·rw [if_pos c21] at H
      have c21b0:decide ((ji19) < (l0_4.length:Int))=true:=decide_eq_true c21
      clear c21
      by_cases c22:0≤t130
      ·rw [if_pos c22] at H
       have c22b0:decide (0≤t130)=true:=decide_eq_true c22
       clear c22
       by_cases c23:t130 < (l0_4.length:Int)
       ·rw [if_pos c23] at H
        have c23b0:decide (t130 < (l0_4.length:Int))=true:=decide_eq_true c23
        clear c23
        replace H:=Option.bind_eq_some_iff.mp H
        obtain ⟨⟨t134,t135⟩,A240,H⟩:=H
        try dsimp only at H
        have A24:=Aside0.mk A240
        clear A240
        simp only [Option.some.injEq,Prod.mk.injEq] at H
        obtain ⟨rfl,rfl⟩:=H
        go_enter Try.func10,Try.ntmps10
        try go_wp2_with (first|((with_reducible refine gate_dst (N:=1) rfl ?_);refine box_event ?hg (N:=1) ?hd (cs:=#[.int .i64 a0_0,.int .i64 a0_1,.int .i64 a0_2,.string a0_3,.slice A0_4 l0_4.length c0_4,.slice A0_5 l0_5.length c0_5,.slice A0_6 l0_6.length c0_6]) (t:=25) ?hr ?_;(case hd=>rfl);(case hg=>rfl);(case hr=>first|(go_simp;done)|(go_simp;rfl));intro gb128 hg w25 hbox hb;have n0_:=Aside0.mk (below_step (by repeat (first|(with_reducible first|exact HB.out|apply below_alloc|apply pw_below_drewN|apply below_drew1)|exact HB.out)) hb);have n1_:=Aside0.mk (hbox);have n2_:=Aside0.mk ((by rw [hg];exact (below_size (by repeat (first|(with_reducible first|exact HB.out|apply below_alloc|apply pw_below_drewN|apply below_drew1)|exact HB.out))):w.heap.size≤gb128));have n3_:=Aside0.mk ((by rw [hg];exact (below_size (by repeat (first|(with_reducible first|exact HB.out|apply below_alloc|apply pw_below_drewN|apply below_drew1)|exact HB.out))):w.heap.size≤gb128));clear HB;have HB:=n0_;have BK128:=n1_;have GW128:=n2_;have GE128:=n3_;clear n0_ n1_ n2_ n3_;clear hb hbox hg;have hcz26_0:w25.cell? ⟨gb128,0,none⟩=some (.int .i64 a0_0):=(blk_cell BK128.out 0).trans rfl;have hcz26_1:w25.cell? ⟨gb128,1,none⟩=some (.int .i64 a0_1):=(blk_cell BK128.out 1).trans rfl;have hcz26_2:w25.cell? ⟨gb128,2,none⟩=some (.int .i64 a0_2):=(blk_cell BK128.out 2).trans rfl;have hcz26_3:w25.cell? ⟨gb128,3,none⟩=some (.string a0_3):=(blk_cell BK128.out 3).trans rfl;have hcz26_4:w25.cell? ⟨gb128,4,none⟩=some (.slice A0_4 l0_4.length c0_4):=(blk_cell BK128.out 4).trans rfl;have hcz26_5:w25.cell? ⟨gb128,5,none⟩=some (.slice A0_5 l0_5.length c0_5):=(blk_cell BK128.out 5).trans rfl;have hcz26_6:w25.cell? ⟨gb128,6,none⟩=some (.slice A0_6 l0_6.length c0_6):=(blk_cell BK128.out 6).trans rfl;have hfz26_0:=blk_frozen BK128.out 0;have hfz26_1:=blk_frozen BK128.out 1;have hfz26_2:=blk_frozen BK128.out 2;have hfz26_3:=blk_frozen BK128.out 3;have hfz26_4:=blk_frozen BK128.out 4;have hfz26_5:=blk_frozen BK128.out 5;have hfz26_6:=blk_frozen BK128.out 6)|((with_reducible refine gate_callee (f:=32) rfl ?_);refine goesL_ (some 7) rfl rfl Try.func32 (by kernel_rfl) rfl #[.agg #[.int .i64 a0_0,.int .i64 a0_1,.int .i64 a0_2,.string a0_3,.slice A0_4 l0_4.length c0_4,.slice A0_5 l0_5.length c0_5,.slice A0_6 l0_6.length c0_6]] rfl (by (try simp only [List.map_toArray,List.map_cons,List.map_nil]);first|done|rfl|(simp only [List.length_drop,List.length_take];rfl)) ?_;(with_reducible refine (page_Check.calls k a0_0 a0_1 a0_2 a0_3 _ _ l0_4 _ _ l0_5 _ _ l0_6 t129 _ ?side1 ?side2 ?side3 ?side4 ?side5 ?side6 A2.out).mono ?_);(case side1=>repeat (first|exact (Kd.C_below HR0_4.out HB.out)|(with_reducible refine Kd.C_alloc ?_ _)|(with_reducible refine Kd.C_drewN ?_ _)|(with_reducible refine Kd.C_drew ?_)));(case side2=>exact HC0_4.out);(case side3=>repeat (first|exact (Kd.C_below HR0_5.out HB.out)|(with_reducible refine Kd.C_alloc ?_ _)|(with_reducible refine Kd.C_drewN ?_ _)|(with_reducible refine Kd.C_drew ?_)));(case side4=>exact HC0_5.out);(case side5=>repeat (first|exact (Kd.C_below HR0_6.out HB.out)|(with_reducible refine Kd.C_alloc ?_ _)|(with_reducible refine Kd.C_drewN ?_ _)|(with_reducible refine Kd.C_drew ?_)));(case side6=>exact HC0_6.out);rintro e w27 ⟨rfl,hb⟩;refine ⟨_,rfl,?_⟩;have n0_:=Aside0.mk (blk_below (g:=gb128) (o:=.cells #[.int .i64 a0_0,.int .i64 a0_1,.int .i64 a0_2,.string a0_3,.slice A0_4 l0_4.length c0_4,.slice A0_5 l0_5.length c0_5,.slice A0_6 l0_6.length c0_6] 25 (0,0)) (by (with_reducible repeat (first|refine blk_drewN ?_ _|refine blk_drew ?_|refine blk_alloc ?_ _));exact BK128.out) hb);have n1_:=Aside0.mk (below_step (by repeat (first|(with_reducible first|exact HB.out|apply below_alloc|apply pw_below_drewN|apply below_drew1|refine below_set ?_ GE128.out)|exact HB.out)) hb);clear BK128;clear HB;have BK128:=n0_;have HB:=n1_;clear n0_ n1_;(try clear hb);(try clear hb2);(try clear hk);(try clear hi);have hcz28_0:w27.cell? ⟨gb128,0,none⟩=some (.int .i64 a0_0):=(blk_cell BK128.out 0).trans rfl;have hcz28_1:w27.cell? ⟨gb128,1,none⟩=some (.int .i64 a0_1):=(blk_cell BK128.out 1).trans rfl;have hcz28_2:w27.cell? ⟨gb128,2,none⟩=some (.int .i64 a0_2):=(blk_cell BK128.out 2).trans rfl;have hcz28_3:w27.cell? ⟨gb128,3,none⟩=some (.string a0_3):=(blk_cell BK128.out 3).trans rfl;have hcz28_4:w27.cell? ⟨gb128,4,none⟩=some (.slice A0_4 l0_4.length c0_4):=(blk_cell BK128.out 4).trans rfl;have hcz28_5:w27.cell? ⟨gb128,5,none⟩=some (.slice A0_5 l0_5.length c0_5):=(blk_cell BK128.out 5).trans rfl;have hcz28_6:w27.cell? ⟨gb128,6,none⟩=some (.slice A0_6 l0_6.length c0_6):=(blk_cell BK128.out 6).trans rfl;have hfz28_0:=blk_frozen BK128.out 0;have hfz28_1:=blk_frozen BK128.out 1;have hfz28_2:=blk_frozen BK128.out 2;have hfz28_3:=blk_frozen BK128.out 3;have hfz28_4:=blk_frozen BK128.out 4;have hfz28_5:=blk_frozen BK128.out 5;have hfz28_6:=blk_frozen BK128.out 6)|((with_reducible refine gate_callee (f:=33) rfl ?_);refine goesL_ (some 15) rfl rfl Try.func33 (by kernel_rfl) rfl #[.agg #[.int .i64 a0_0,.int .i64 a0_1,.int .i64 a0_2,.string a0_3,.slice A0_4 l0_4.length c0_4,.slice A0_5 l0_5.length c0_5,.slice A0_6 l0_6.length c0_6]] rfl (by (try simp only [List.map_toArray,List.map_cons,List.map_nil]);first|done|rfl|(simp only [List.length_drop,List.length_take];rfl)) ?_;(with_reducible refine (node_parting.calls k a0_0 a0_1 a0_2 a0_3 _ _ l0_4 _ _ l0_5 _ _ l0_6 t130 _ ?side1 ?side2 ?side3 ?side4 ?side5 ?side6 A9.out).mono ?_);(case side1=>repeat (first|exact (Kd.C_below HR0_4.out HB.out)|(with_reducible refine Kd.C_alloc ?_ _)|(with_reducible refine Kd.C_drewN ?_ _)|(with_reducible refine Kd.C_drew ?_)));(case side2=>exact HC0_4.out);(case side3=>repeat (first|exact (Kd.C_below HR0_5.out HB.out)|(with_reducible refine Kd.C_alloc ?_ _)|(with_reducible refine Kd.C_drewN ?_ _)|(with_reducible refine Kd.C_drew ?_)));(case side4=>exact HC0_5.out);(case side5=>repeat (first|exact (Kd.C_below HR0_6.out HB.out)|(with_reducible refine Kd.C_alloc ?_ _)|(with_reducible refine Kd.C_drewN ?_ _)|(with_reducible refine Kd.C_drew ?_)));(case side6=>exact HC0_6.out);rintro e w29 ⟨rfl,hb⟩;refine ⟨_,rfl,?_⟩;have n0_:=Aside0.mk (blk_below (g:=gb128) (o:=.cells #[.int .i64 a0_0,.int .i64 a0_1,.int .i64 a0_2,.string a0_3,.slice A0_4 l0_4.length c0_4,.slice A0_5 l0_5.length c0_5,.slice A0_6 l0_6.length c0_6] 25 (0,0)) (by (with_reducible repeat (first|refine blk_drewN ?_ _|refine blk_drew ?_|refine blk_alloc ?_ _));exact BK128.out) hb);have n1_:=Aside0.mk (below_step (by repeat (first|(with_reducible first|exact HB.out|apply below_alloc|apply pw_below_drewN|apply below_drew1|refine below_set ?_ GE128.out)|exact HB.out)) hb);clear BK128;clear HB;have BK128:=n0_;have HB:=n1_;clear n0_ n1_;(try clear hb);(try clear hb2);(try clear hk);(try clear hi);have hcz30_0:w29.cell? ⟨gb128,0,none⟩=some (.int .i64 a0_0):=(blk_cell BK128.out 0).trans rfl;have hcz30_1:w29.cell? ⟨gb128,1,none⟩=some (.int .i64 a0_1):=(blk_cell BK128.out 1).trans rfl;have hcz30_2:w29.cell? ⟨gb128,2,none⟩=some (.int .i64 a0_2):=(blk_cell BK128.out 2).trans rfl;have hcz30_3:w29.cell? ⟨gb128,3,none⟩=some (.string a0_3):=(blk_cell BK128.out 3).trans rfl;have hcz30_4:w29.cell? ⟨gb128,4,none⟩=some (.slice A0_4 l0_4.length c0_4):=(blk_cell BK128.out 4).trans rfl;have hcz30_5:w29.cell? ⟨gb128,5,none⟩=some (.slice A0_5 l0_5.length c0_5):=(blk_cell BK128.out 5).trans rfl;have hcz30_6:w29.cell? ⟨gb128,6,none⟩=some (.slice A0_6 l0_6.length c0_6):=(blk_cell BK128.out 6).trans rfl;have hfz30_0:=blk_frozen BK128.out 0;have hfz30_1:=blk_frozen BK128.out 1;have hfz30_2:=blk_frozen BK128.out 2;have hfz30_3:=blk_frozen BK128.out 3;have hfz30_4:=blk_frozen BK128.out 4;have hfz30_5:=blk_frozen BK128.out 5;have hfz30_6:=blk_frozen BK128.out 6))
        have n0_:=Aside0.mk (blk_drew BK128.out)
        have n1_:=Aside0.mk (below_drew1 HB.out)
        clear BK128
        clear HB
        have BK128:=n0_
        have HB:=n1_
        clear n0_ n1_
        have p132:0≤((ji19):Int):=of_decide_eq_true (by first|(with_reducible assumption)|assumption)
        have q132:(ji19) < (l0_4.length:Int):=of_decide_eq_true (by first|(with_reducible assumption)|assumption)
        obtain ⟨ad132,e132,hx132_0⟩:=Kd.at_string HR0_4.out (ji19) p132 q132
        have hw132_0:=hx132_0
        cases e132
        replace hx132_0:=(HB.out.cell (World.block_lt_of_cell? w _ hx132_0)).trans hx132_0
        replace p132:=eq_true p132
        replace q132:=eq_true q132
        have p133:0≤(t130:Int):=of_decide_eq_true (by first|(with_reducible assumption)|assumption)
        have q133:t130 < (l0_4.length:Int):=of_decide_eq_true (by first|(with_reducible assumption)|assumption)
        obtain ⟨ad133,e133,hx133_0⟩:=Kd.at_string HR0_4.out t130 p133 q133
        have hw133_0:=hx133_0
        obtain rfl:ad132=ad133:=(by injection e133)
        replace hx133_0:=(HB.out.cell (World.block_lt_of_cell? w _ hx133_0)).trans hx133_0
        replace p133:=eq_true p133
        replace q133:=eq_true q133
        refine start_ (n:=16) (S:=fun w'=>w'.cell? ⟨gb128,0,none⟩=some (.int .i64 a0_0)∧w'.cell? ⟨gb128,1,none⟩=some (.int .i64 a0_1)∧w'.cell? ⟨gb128,2,none⟩=some (.int .i64 a0_2)∧w'.cell? ⟨gb128,3,none⟩=some (.string a0_3)∧w'.cell? ⟨gb128,4,none⟩=some (.slice (some ad132) l0_4.length c0_4)∧w'.cell? ⟨gb128,5,none⟩=some (.slice A0_5 l0_5.length c0_5)∧w'.cell? ⟨gb128,6,none⟩=some (.slice A0_6 l0_6.length c0_6)∧w'.cell? (ad132.add ((ji19)).toNat)=some (.string (rdOf ByteArray.empty l0_4 (ji19)))∧w'.cell? (ad132.add (t130).toNat)=some (.string (rdOf ByteArray.empty l0_4 t130))) (ds:=[]) #[false,false,false,false,false,false,false,false,false,false,false,false,false,false,false,false] (by kernel_rfl) rfl rfl ⟨(blk_cell BK128.out 0).trans rfl,(blk_cell BK128.out 1).trans rfl,(blk_cell BK128.out 2).trans rfl,(blk_cell BK128.out 3).trans rfl,(blk_cell BK128.out 4).trans rfl,(blk_cell BK128.out 5).trans rfl,(blk_cell BK128.out 6).trans rfl,((HB.out.cell (World.block_lt_of_cell? w _ hw132_0)).trans hw132_0),((HB.out.cell (World.block_lt_of_cell? w _ hw133_0)).trans hw133_0)⟩ (fun hHeld=>?_);refine with_tabW node_Split.tab8 node_Split.bits8 (fun HT_ HW_=>?_)
        generalize w29.drew=w31 at BK128 HB hx132_0 hx133_0 hHeld ⊢
        refine pure_ (i:=0) (N:=some 24) (v:=?_) (a':=?_) #[true,false,false,false,false,false,false,false,false,false,false,false,false,false,false,false] rfl rfl (any_of HT_.out (by kernel_rfl)) (fun _ _ _ h=>h) (Or.inl ⟨by rfl,?_⟩) ?_ ?_
        rotate_left
        ·intro w'
         go_simp
         with_reducible rfl
        rotate_left
        ·simp only [Act.put,List.setIfInBounds_toArray,List.set_cons_zero,List.set_cons_succ,i64_w,i32_w]
         rfl
        refine pure_ (i:=2) (N:=some 26) (v:=?_) (a':=?_) #[true,false,true,false,false,false,false,false,false,false,false,false,false,false,false,false] rfl rfl (any_of HT_.out (by kernel_rfl)) (fun _ _ _ h=>h) (Or.inl ⟨by rfl,?_⟩) ?_ ?_
        rotate_left
        ·intro w'
         go_simp
         with_reducible rfl
        rotate_left
        ·simp only [Act.put,List.setIfInBounds_toArray,List.set_cons_zero,List.set_cons_succ,i64_w,i32_w]
         rfl
        refine pure_ (i:=3) (N:=some 27) (v:=?_) (a':=?_) #[true,false,true,true,false,false,false,false,false,false,false,false,false,false,false,false] rfl rfl (any_of HT_.out (by kernel_rfl)) (fun _ _ _ h=>h) (Or.inl ⟨by rfl,?_⟩) ?_ ?_
        rotate_left
        ·intro w'
         go_simp
         with_reducible rfl
        rotate_left
        ·simp only [Act.put,List.setIfInBounds_toArray,List.set_cons_zero,List.set_cons_succ,i64_w,i32_w]
         rfl
        refine pure_ (i:=6) (N:=some 30) (v:=?_) (a':=?_) #[true,false,true,true,false,false,true,false,false,false,false,false,false,false,false,false] rfl rfl (any_of HT_.out (by kernel_rfl)) (fun _ _ _ h=>h) (Or.inl ⟨by rfl,?_⟩) ?_ ?_
        rotate_left
        ·intro w'
         go_simp
         with_reducible rfl
        rotate_left
        ·simp only [Act.put,List.setIfInBounds_toArray,List.set_cons_zero,List.set_cons_succ,i64_w,i32_w]
         rfl
        refine pure_ (i:=8) (N:=some 32) (v:=?_) (a':=?_) #[true,false,true,true,false,false,true,false,true,false,false,false,false,false,false,false] rfl rfl (any_of HT_.out (by kernel_rfl)) (fun _ _ _ h=>h) (Or.inl ⟨by rfl,?_⟩) ?_ ?_
        rotate_left
        ·intro w'
         go_simp
         with_reducible rfl
        rotate_left
        ·simp only [Act.put,List.setIfInBounds_toArray,List.set_cons_zero,List.set_cons_succ,i64_w,i32_w]
         rfl
        refine take_ (i:=1) (N:=some 25) (v:=?_) (a':=?_) #[true,true,true,true,false,false,true,false,true,false,false,false,false,false,false,false] rfl rfl (take_ofW HT_.out HW_.out (by kernel_rfl)) (fun _ _ _ h=>h) (Or.inl ⟨by rfl,?_⟩) hHeld ?_ ?_
        rotate_left
        ·rintro w' ⟨s0,s1,s2,s3,s4,s5,s6,s7,s8⟩
         go_simp
         with_reducible rfl
        rotate_left
        ·simp only [Act.put,List.setIfInBounds_toArray,List.set_cons_zero,List.set_cons_succ,i64_w,i32_w]
         rfl
        refine pure_ (i:=4) (N:=some 28) (v:=?_) (a':=?_) #[true,true,true,true,true,false,true,false,true,false,false,false,false,false,false,false] rfl rfl (any_of HT_.out (by kernel_rfl)) (fun _ _ _ h=>h) (Or.inl ⟨by rfl,?_⟩) ?_ ?_
        rotate_left
        ·intro w'
         go_simp
         with_reducible rfl
        rotate_left
        ·simp only [Act.put,List.setIfInBounds_toArray,List.set_cons_zero,List.set_cons_succ,i64_w,i32_w]
         rfl
        refine take_ (i:=5) (N:=some 29) (v:=?_) (a':=?_) #[true,true,true,true,true,true,true,false,true,false,false,false,false,false,false,false] rfl rfl (take_ofW HT_.out HW_.out (by kernel_rfl)) (fun _ _ _ h=>h) (Or.inl ⟨by rfl,?_⟩) hHeld ?_ ?_
        rotate_left
        ·rintro w' ⟨s0,s1,s2,s3,s4,s5,s6,s7,s8⟩
         go_simp
         with_reducible rfl
        rotate_left
        ·simp only [Act.put,List.setIfInBounds_toArray,List.set_cons_zero,List.set_cons_succ,i64_w,i32_w]
         rfl
        refine take_ (i:=7) (N:=some 31) (v:=?_) (a':=?_) #[true,true,true,true,true,true,true,true,true,false,false,false,false,false,false,false] rfl rfl (take_ofW HT_.out HW_.out (by kernel_rfl)) (fun _ _ _ h=>h) (Or.inl ⟨by rfl,?_⟩) hHeld ?_ ?_
        rotate_left
        ·rintro w' ⟨s0,s1,s2,s3,s4,s5,s6,s7,s8⟩
         go_simp
         with_reducible rfl
        rotate_left
        ·simp only [Act.put,List.setIfInBounds_toArray,List.set_cons_zero,List.set_cons_succ,i64_w,i32_w]
         rfl
        refine pure_ (i:=9) (N:=some 33) (v:=?_) (a':=?_) #[true,true,true,true,true,true,true,true,true,true,false,false,false,false,false,false] rfl rfl (any_of HT_.out (by kernel_rfl)) (fun _ _ _ h=>h) (Or.inl ⟨by rfl,?_⟩) ?_ ?_
        rotate_left
        ·intro w'
         go_simp
         with_reducible rfl
        rotate_left
        ·simp only [Act.put,List.setIfInBounds_toArray,List.set_cons_zero,List.set_cons_succ,i64_w,i32_w]
         rfl
        refine take_ (i:=10) (N:=some 34) (v:=?_) (a':=?_) #[true,true,true,true,true,true,true,true,true,true,true,false,false,false,false,false] rfl rfl (take_ofW HT_.out HW_.out (by kernel_rfl)) (fun _ _ _ h=>h) (Or.inl ⟨by rfl,?_⟩) hHeld ?_ ?_
        rotate_left
        ·rintro w' ⟨s0,s1,s2,s3,s4,s5,s6,s7,s8⟩
         go_simp
         with_reducible rfl
        rotate_left
        ·simp only [Act.put,List.setIfInBounds_toArray,List.set_cons_zero,List.set_cons_succ,i64_w,i32_w]
         rfl
        refine one_ (i:=11) (N:=some 35) #[true,true,true,true,true,true,true,true,true,true,true,true,false,false,false,false] rfl rfl (one_of HT_.out (by kernel_rfl)) (by decide) (fun K hK=>?_)
        refine goes_ Try.func34 (by kernel_rfl) rfl #[.string (rdOf ByteArray.empty l0_4 (ji19)),.string (rdOf ByteArray.empty l0_4 t130)] (by rfl) rfl rfl (by (try simp only [List.map_toArray,List.map_cons,List.map_nil]);first|done|(simp only [hji19];rfl)|rfl|(simp only [List.length_drop,List.length_take];rfl)) ?_
        with_reducible refine (key_Between.calls (rdOf ByteArray.empty l0_4 (ji19)) (rdOf ByteArray.empty l0_4 t130) t134 t135 _ A24.out).mono ?_
        rintro e w32 ⟨rfl,hb⟩
        refine ⟨_,rfl,?_⟩
        have n0_:=Aside0.mk (blk_below (g:=gb128) (o:=.cells #[.int .i64 a0_0,.int .i64 a0_1,.int .i64 a0_2,.string a0_3,.slice (some ad132) l0_4.length c0_4,.slice A0_5 l0_5.length c0_5,.slice A0_6 l0_6.length c0_6] 25 (0,0)) (by (with_reducible repeat (first|refine blk_drewN ?_ _|refine blk_drew ?_|refine blk_alloc ?_ _));exact BK128.out) hb)
        have n1_:=Aside0.mk (below_step (by repeat (first|(with_reducible first|exact HB.out|apply below_alloc|apply pw_below_drewN|apply below_drew1|refine below_set ?_ GE128.out)|exact HB.out)) hb)
        clear BK128
        clear HB
        have BK128:=n0_
        have HB:=n1_
        clear n0_ n1_
        (try clear hb)
        (try clear hb2)
        (try clear hk)
        (try clear hi)
        refine hK.out _ _ ⟨(blk_cell BK128.out 0).trans rfl,(blk_cell BK128.out 1).trans rfl,(blk_cell BK128.out 2).trans rfl,(blk_cell BK128.out 3).trans rfl,(blk_cell BK128.out 4).trans rfl,(blk_cell BK128.out 5).trans rfl,(blk_cell BK128.out 6).trans rfl,((HB.out.cell (World.block_lt_of_cell? w _ hw132_0)).trans hw132_0),((HB.out.cell (World.block_lt_of_cell? w _ hw133_0)).trans hw133_0)⟩ (fun hHeld=>?_)
        clear hK K
        refine norm_ (a':=?_) ?_ ?_
        rotate_left
        ·show Act.put _ (some 35) _=_
         simp only [Act.put,List.setIfInBounds_toArray,List.set_cons_zero,List.set_cons_succ,i64_w,i32_w]
         rfl
        refine pure_ (i:=12) (N:=some 36) (v:=?_) (a':=?_) #[true,true,true,true,true,true,true,true,true,true,true,true,true,false,false,false] rfl rfl (any_of HT_.out (by kernel_rfl)) (fun _ _ _ h=>h) (Or.inl ⟨by rfl,?_⟩) ?_ ?_
        rotate_left
        ·intro w'
         go_simp
         with_reducible rfl
        rotate_left
        ·simp only [Act.put,List.setIfInBounds_toArray,List.set_cons_zero,List.set_cons_succ,i64_w,i32_w]
         rfl
        refine pure_ (i:=13) (N:=some 37) (v:=?_) (a':=?_) #[true,true,true,true,true,true,true,true,true,true,true,true,true,true,false,false] rfl rfl (any_of HT_.out (by kernel_rfl)) (fun _ _ _ h=>h) (Or.inl ⟨by rfl,?_⟩) ?_ ?_
        rotate_left
        ·intro w'
         go_simp
         with_reducible rfl
        rotate_left
        ·simp only [Act.put,List.setIfInBounds_toArray,List.set_cons_zero,List.set_cons_succ,i64_w,i32_w]
         rfl
        refine pure_ (i:=14) (N:=some 2) (v:=?_) (a':=?_) #[true,true,true,true,true,true,true,true,true,true,true,true,true,true,true,false] rfl rfl (any_of HT_.out (by kernel_rfl)) (fun _ _ _ h=>h) (Or.inl ⟨by rfl,?_⟩) ?_ ?_
        rotate_left
        ·intro w'
         go_simp
         with_reducible rfl
        rotate_left
        ·simp only [Act.put,List.setIfInBounds_toArray,List.set_cons_zero,List.set_cons_succ,i64_w,i32_w]
         rfl
        refine pure_ (i:=15) (N:=some 3) (v:=?_) (a':=?_) #[true,true,true,true,true,true,true,true,true,true,true,true,true,true,true,true] rfl rfl (any_of HT_.out (by kernel_rfl)) (fun _ _ _ h=>h) (Or.inl ⟨by rfl,?_⟩) ?_ ?_
        rotate_left
        ·intro w'
         go_simp
         with_reducible rfl
        rotate_left
        ·simp only [Act.put,List.setIfInBounds_toArray,List.set_cons_zero,List.set_cons_succ,i64_w,i32_w]
         rfl
        refine done_ (done_of HT_.out (by kernel_rfl)) ?_
        try go_wp2
        go_ret2
        exact ⟨by first|rfl|(simp [errW_none,errW_some] <;> rfl)|(simp only [← hji19];first|rfl|(simp [errW_none,errW_some] <;> rfl))|(simp [*,errW_none,errW_some] <;> rfl),by repeat (first|(with_reducible first|exact HB.out|apply below_alloc|apply pw_below_drewN|apply below_drew1|refine below_set ?_ GE128.out)|exact HB.out)⟩
       ·rw [if_neg c23] at H
        exact absurd H (by simp)
      ·rw [if_neg c22] at H
       exact absurd H (by simp)
     ·rw [if_neg c21] at H
      exact absurd H (by simp)
    ·rw [if_neg c20] at H
     exact absurd H (by simp)
 ·rw [if_neg c3] at H
  have c3b0:(t129==0)=false:=beq_eq_false_iff_ne.mpr c3
  have c3b1:(t129 != 0)=true:=bne_iff_ne.mpr c3
  simp only [Option.some.injEq,Prod.mk.injEq] at H
  obtain ⟨rfl,rfl⟩:=H
  go_enter Try.func10,Try.ntmps10
  go_wp2_with (first|((with_reducible refine gate_dst (N:=1) rfl ?_);refine box_event ?hg (N:=1) ?hd (cs:=#[.int .i64 a0_0,.int .i64 a0_1,.int .i64 a0_2,.string a0_3,.slice A0_4 l0_4.length c0_4,.slice A0_5 l0_5.length c0_5,.slice A0_6 l0_6.length c0_6]) (t:=25) ?hr ?_;(case hd=>rfl);(case hg=>rfl);(case hr=>first|(go_simp;done)|(go_simp;rfl));intro gb128 hg w33 hbox hb;have n0_:=Aside0.mk (below_step (by repeat (first|(with_reducible first|exact HB.out|apply below_alloc|apply pw_below_drewN|apply below_drew1)|exact HB.out)) hb);have n1_:=Aside0.mk (hbox);have n2_:=Aside0.mk ((by rw [hg];exact (below_size (by repeat (first|(with_reducible first|exact HB.out|apply below_alloc|apply pw_below_drewN|apply below_drew1)|exact HB.out))):w.heap.size≤gb128));have n3_:=Aside0.mk ((by rw [hg];exact (below_size (by repeat (first|(with_reducible first|exact HB.out|apply below_alloc|apply pw_below_drewN|apply below_drew1)|exact HB.out))):w.heap.size≤gb128));clear HB;have HB:=n0_;have BK128:=n1_;have GW128:=n2_;have GE128:=n3_;clear n0_ n1_ n2_ n3_;clear hb hbox hg;have hcz34_0:w33.cell? ⟨gb128,0,none⟩=some (.int .i64 a0_0):=(blk_cell BK128.out 0).trans rfl;have hcz34_1:w33.cell? ⟨gb128,1,none⟩=some (.int .i64 a0_1):=(blk_cell BK128.out 1).trans rfl;have hcz34_2:w33.cell? ⟨gb128,2,none⟩=some (.int .i64 a0_2):=(blk_cell BK128.out 2).trans rfl;have hcz34_3:w33.cell? ⟨gb128,3,none⟩=some (.string a0_3):=(blk_cell BK128.out 3).trans rfl;have hcz34_4:w33.cell? ⟨gb128,4,none⟩=some (.slice A0_4 l0_4.length c0_4):=(blk_cell BK128.out 4).trans rfl;have hcz34_5:w33.cell? ⟨gb128,5,none⟩=some (.slice A0_5 l0_5.length c0_5):=(blk_cell BK128.out 5).trans rfl;have hcz34_6:w33.cell? ⟨gb128,6,none⟩=some (.slice A0_6 l0_6.length c0_6):=(blk_cell BK128.out 6).trans rfl;have hfz34_0:=blk_frozen BK128.out 0;have hfz34_1:=blk_frozen BK128.out 1;have hfz34_2:=blk_frozen BK128.out 2;have hfz34_3:=blk_frozen BK128.out 3;have hfz34_4:=blk_frozen BK128.out 4;have hfz34_5:=blk_frozen BK128.out 5;have hfz34_6:=blk_frozen BK128.out 6)|((with_reducible refine gate_callee (f:=32) rfl ?_);refine goesL_ (some 7) rfl rfl Try.func32 (by kernel_rfl) rfl #[.agg #[.int .i64 a0_0,.int .i64 a0_1,.int .i64 a0_2,.string a0_3,.slice A0_4 l0_4.length c0_4,.slice A0_5 l0_5.length c0_5,.slice A0_6 l0_6.length c0_6]] rfl (by (try simp only [List.map_toArray,List.map_cons,List.map_nil]);first|done|rfl|(simp only [List.length_drop,List.length_take];rfl)) ?_;(with_reducible refine (page_Check.calls k a0_0 a0_1 a0_2 a0_3 _ _ l0_4 _ _ l0_5 _ _ l0_6 t129 _ ?side1 ?side2 ?side3 ?side4 ?side5 ?side6 A2.out).mono ?_);(case side1=>repeat (first|exact (Kd.C_below HR0_4.out HB.out)|(with_reducible refine Kd.C_alloc ?_ _)|(with_reducible refine Kd.C_drewN ?_ _)|(with_reducible refine Kd.C_drew ?_)));(case side2=>exact HC0_4.out);(case side3=>repeat (first|exact (Kd.C_below HR0_5.out HB.out)|(with_reducible refine Kd.C_alloc ?_ _)|(with_reducible refine Kd.C_drewN ?_ _)|(with_reducible refine Kd.C_drew ?_)));(case side4=>exact HC0_5.out);(case side5=>repeat (first|exact (Kd.C_below HR0_6.out HB.out)|(with_reducible refine Kd.C_alloc ?_ _)|(with_reducible refine Kd.C_drewN ?_ _)|(with_reducible refine Kd.C_drew ?_)));(case side6=>exact HC0_6.out);rintro e w35 ⟨rfl,hb⟩;refine ⟨_,rfl,?_⟩;have n0_:=Aside0.mk (blk_below (g:=gb128) (o:=.cells #[.int .i64 a0_0,.int .i64 a0_1,.int .i64 a0_2,.string a0_3,.slice A0_4 l0_4.length c0_4,.slice A0_5 l0_5.length c0_5,.slice A0_6 l0_6.length c0_6] 25 (0,0)) (by (with_reducible repeat (first|refine blk_drewN ?_ _|refine blk_drew ?_|refine blk_alloc ?_ _));exact BK128.out) hb);have n1_:=Aside0.mk (below_step (by repeat (first|(with_reducible first|exact HB.out|apply below_alloc|apply pw_below_drewN|apply below_drew1|refine below_set ?_ GE128.out)|exact HB.out)) hb);clear BK128;clear HB;have BK128:=n0_;have HB:=n1_;clear n0_ n1_;(try clear hb);(try clear hb2);(try clear hk);(try clear hi)))
  go_ret2
  exact ⟨by first|rfl|(simp [errW_none,errW_some] <;> rfl)|(simp [*,errW_none,errW_some] <;> rfl),by repeat (first|(with_reducible first|exact HB.out|apply below_alloc|apply pw_below_drewN|apply below_drew1|refine below_set ?_ GE128.out)|exact HB.out)⟩
def latticeref05_Check.f (a0:ByteArray):Option (Int):=if (a0.size:Int) < 1 then (some 50) else (if (a0.size:Int) > 16 then (some 50) else (some 0))
set_option maxHeartbeats 8000000 in
set_option maxRecDepth 100000 in
theorem latticeref05_Check.calls (a0:ByteArray) (r:Int) (w:World) (h:latticeref05_Check.f a0=some r) :
  Calls Try.prog 25 #[.string a0] w fun e w'=>e=.returned (.int .i64 r)∧Drawn0 w w':=by
 have H:(if (a0.size:Int) < 1 then (some 50) else (if (a0.size:Int) > 16 then (some 50) else (some 0)))=some r:=h
 clear h
 by_cases c2:(a0.size:Int) < 1
 ·rw [if_pos c2] at H
  have c2b0:decide ((a0.size:Int) < 1)=true:=decide_eq_true c2
  have c2b1:decide (a0.size < 1)=true:=decide_eq_true (by omega)
  clear c2
  obtain rfl:=Option.some.inj H
  go_enter Try.func25,Try.ntmps25
  go_wp2
  go_ret
  exact ⟨by first|rfl|(simp;done)|(simp [*];done),by repeat (first|exact Drawn0.refl _|apply Drawn0.step)⟩
 ·rw [if_neg c2] at H
  have c2b0:decide ((a0.size:Int) < 1)=false:=decide_eq_false c2
  have c2b1:decide (a0.size < 1)=false:=decide_eq_false (by omega)
  clear c2
  by_cases c3:(a0.size:Int) > 16
  ·rw [if_pos c3] at H
   have c3b0:decide (16 < (a0.size:Int))=true:=decide_eq_true c3
   have c3b1:decide (16 < a0.size)=true:=decide_eq_true (by omega)
   clear c3
   obtain rfl:=Option.some.inj H
   go_enter Try.func25,Try.ntmps25
   go_wp2
   go_ret
   exact ⟨by first|rfl|(simp;done)|(simp [*];done),by repeat (first|exact Drawn0.refl _|apply Drawn0.step)⟩
  ·rw [if_neg c3] at H
   have c3b0:decide (16 < (a0.size:Int))=false:=decide_eq_false c3
   have c3b1:decide (16 < a0.size)=false:=decide_eq_false (by omega)
   clear c3
   obtain rfl:=Option.some.inj H
   go_enter Try.func25,Try.ntmps25
   go_wp2
   go_ret
   exact ⟨by first|rfl|(simp;done)|(simp [*];done),by repeat (first|exact Drawn0.refl _|apply Drawn0.step)⟩
mutual
def latticeref05_Compare.l0:Nat→ByteArray→ByteArray→Int→Option (Int)
 | 0,_,_,_=>none
 | k+1,x0,x1,x5=>if x5 < (x0.size:Int) then (latticeref05_Compare.j1 k x0 x1 x5 (decide (x5 < (x1.size:Int)))) else (latticeref05_Compare.j1 k x0 x1 x5 false)
def latticeref05_Compare.j1:Nat→ByteArray→ByteArray→Int→Bool→Option (Int)
 | 0,_,_,_,_=>none
 | k+1,x0,x1,x5,x15=>if x15=true then (if 0≤x5 then (if x5 < (x0.size:Int) then (if x5 < (x1.size:Int) then (if (bt x0 x5) < (bt x1 x5) then (some (-1)) else (if (bt x0 x5) > (bt x1 x5) then (some 1) else (latticeref05_Compare.l0 k x0 x1 (wrap64 (x5+1))))) else (none)) else (none)) else (none)) else (if (x0.size:Int) < (x1.size:Int) then (some (-1)) else (if (x0.size:Int) > (x1.size:Int) then (some 1) else (some 0)))
end
def latticeref05_Compare.f (k:Nat) (a0:ByteArray) (a1:ByteArray):Option (Int):=latticeref05_Compare.l0 k a0 a1 0
set_option maxHeartbeats 8000000 in
set_option maxRecDepth 100000 in
theorem latticeref05_Compare.calls (k:Nat) (a0:ByteArray) (a1:ByteArray) (r:Int) (w:World) (h:latticeref05_Compare.f k a0 a1=some r) :
  Calls Try.prog 41 #[.string a0,.string a1] w fun e w'=>e=.returned (.int .i64 r)∧Drawn0 w w':=by
 have H:(latticeref05_Compare.l0 k a0 a1 0)=some r:=h
 clear h
 have H':=Aside0.mk H
 clear H
 go_enter Try.func41,Try.ntmps41
 go_wp2
 repeat (go_quiet (fail);try go_wp2)
 go_loopg [5] k (fun kq v5 w'=>∃ (x5_1:Int),v5=.int .i64 x5_1∧Aside0 (latticeref05_Compare.l0 kq a0 a1 x5_1=some r)∧Aside0 (kq≤k)∧Drawn0 w w')
 case atStart=>exact ⟨(0),(by first|rfl|(simp;done)|(simp [*];done)),H',⟨Nat.le_refl _⟩,by repeat (first|exact Drawn0.refl _|apply Drawn0.step)⟩
 case round =>
  clear H'
  try clear p2
  obtain ⟨x5_1,rfl,HA,HK1,⟨m1,rfl⟩⟩:=hrel
  cases gk with
  | zero=>exact absurd HA.out (by simp [latticeref05_Compare.l0])
  | succ k1 =>
   have H:=HA.out
   clear HA
   simp only [latticeref05_Compare.l0] at H
   have HC3:=Aside0.mk H
   clear H
   go_upto_region 2 with (fail)
   repeat (go_quiet (fail);go_upto_region 2 with (fail))
   go_cut [15] (fun v15 wc=>∃ (kq:Nat) (x15_2:Bool),v15=.bool x15_2∧Aside0 (latticeref05_Compare.j1 kq a0 a1 x5_1 x15_2=some r)∧Aside0 (kq≤k1)∧Drawn0 w wc)
   case first =>
    have H:=HC3.out
    clear HC3
    by_cases c4:x5_1 < (a0.size:Int)
    ·rw [if_pos c4] at H
     have c4b0:decide (x5_1 < (a0.size:Int))=true:=decide_eq_true c4
     clear c4
     (first|rw [c4b0]|(simp only [i64_w,i32_w];rw [c4b0])|skip)
     have H':=Aside0.mk H
     clear H
     go_wp2
     repeat (go_quiet (fail);try go_wp2)
     go_meet
     case rel=>exact ⟨_,(decide (x5_1 < (a1.size:Int))),(by first|rfl|(simp;done)|(simp [*];done)),H',⟨by have:=HK1.out;first|omega|exact Nat.le_refl _⟩,by repeat (first|exact Drawn0.refl _|apply Drawn0.step)⟩
    ·rw [if_neg c4] at H
     have c4b0:decide (x5_1 < (a0.size:Int))=false:=decide_eq_false c4
     clear c4
     (first|rw [c4b0]|(simp only [i64_w,i32_w];rw [c4b0])|skip)
     have H':=Aside0.mk H
     clear H
     go_wp2
     repeat (go_quiet (fail);try go_wp2)
     go_meet
     case rel=>exact ⟨_,(false),(by first|rfl|(simp;done)|(simp [*];done)),H',⟨by have:=HK1.out;first|omega|exact Nat.le_refl _⟩,by repeat (first|exact Drawn0.refl _|apply Drawn0.step)⟩
   case rest =>
    clear HC3
    try clear p2
    try clear c4
    try clear c4b0
    try clear p2
    obtain ⟨kq,x15_2,rfl,HA,HJ2,⟨mc2,rfl⟩⟩:=hcut
    cases kq with
    | zero=>exact absurd HA.out (by simp [latticeref05_Compare.j1])
    | succ kj2 =>
     have H:=HA.out
     clear HA
     simp only [latticeref05_Compare.j1] at H
     by_cases c5:x15_2=true
     ·subst c5
      have H1:(if 0≤x5_1 then (if x5_1 < (a0.size:Int) then (if x5_1 < (a1.size:Int) then (if (bt a0 x5_1) < (bt a1 x5_1) then (some (-1)) else (if (bt a0 x5_1) > (bt a1 x5_1) then (some 1) else (latticeref05_Compare.l0 kj2 a0 a1 (wrap64 (x5_1+1))))) else (none)) else (none)) else (none))=some r:=by rw [if_pos rfl] at H;exact H
      clear H
      have H:=H1
      clear H1
      by_cases c6:0≤x5_1
      ·rw [if_pos c6] at H
       have c6b0:decide (0≤x5_1)=true:=decide_eq_true c6
       clear c6
       by_cases c7:x5_1 < (a0.size:Int)
       ·rw [if_pos c7] at H
        have c7b0:decide (x5_1 < (a0.size:Int))=true:=decide_eq_true c7
        clear c7
        by_cases c9:x5_1 < (a1.size:Int)
        ·rw [if_pos c9] at H
         have c9b0:decide (x5_1 < (a1.size:Int))=true:=decide_eq_true c9
         clear c9
         by_cases c11:(bt a0 x5_1) < (bt a1 x5_1)
         ·rw [if_pos c11] at H
          have c11b0:decide ((bt a0 x5_1) < (bt a1 x5_1))=true:=decide_eq_true c11
          clear c11
          obtain rfl:=Option.some.inj H
          have p8:0≤(x5_1:Int):=of_decide_eq_true (by first|(with_reducible assumption)|assumption)
          have q8:x5_1 < (a0.size:Int):=of_decide_eq_true (by first|(with_reducible assumption)|assumption)
          have hx8:=bt_at a0 x5_1
          replace p8:=eq_true p8
          replace q8:=eq_true q8
          have p10:0≤(x5_1:Int):=of_decide_eq_true (by first|(with_reducible assumption)|assumption)
          have q10:x5_1 < (a1.size:Int):=of_decide_eq_true (by first|(with_reducible assumption)|assumption)
          have hx10:=bt_at a1 x5_1
          replace p10:=eq_true p10
          replace q10:=eq_true q10
          go_wp2
          repeat (go_quiet (fail);try go_wp2)
          go_ret
          exact ⟨by first|rfl|(simp;done)|(simp [*];done),by repeat (first|exact Drawn0.refl _|apply Drawn0.step)⟩
         ·rw [if_neg c11] at H
          have c11b0:decide ((bt a0 x5_1) < (bt a1 x5_1))=false:=decide_eq_false c11
          clear c11
          by_cases c14:(bt a0 x5_1) > (bt a1 x5_1)
          ·rw [if_pos c14] at H
           have c14b0:decide ((bt a1 x5_1) < (bt a0 x5_1))=true:=decide_eq_true c14
           clear c14
           obtain rfl:=Option.some.inj H
           have p8:0≤(x5_1:Int):=of_decide_eq_true (by first|(with_reducible assumption)|assumption)
           have q8:x5_1 < (a0.size:Int):=of_decide_eq_true (by first|(with_reducible assumption)|assumption)
           have hx8:=bt_at a0 x5_1
           replace p8:=eq_true p8
           replace q8:=eq_true q8
           have p10:0≤(x5_1:Int):=of_decide_eq_true (by first|(with_reducible assumption)|assumption)
           have q10:x5_1 < (a1.size:Int):=of_decide_eq_true (by first|(with_reducible assumption)|assumption)
           have hx10:=bt_at a1 x5_1
           replace p10:=eq_true p10
           replace q10:=eq_true q10
           have p12:0≤(x5_1:Int):=of_decide_eq_true (by first|(with_reducible assumption)|assumption)
           have q12:x5_1 < (a0.size:Int):=of_decide_eq_true (by first|(with_reducible assumption)|assumption)
           have hx12:=bt_at a0 x5_1
           replace p12:=eq_true p12
           replace q12:=eq_true q12
           have p13:0≤(x5_1:Int):=of_decide_eq_true (by first|(with_reducible assumption)|assumption)
           have q13:x5_1 < (a1.size:Int):=of_decide_eq_true (by first|(with_reducible assumption)|assumption)
           have hx13:=bt_at a1 x5_1
           replace p13:=eq_true p13
           replace q13:=eq_true q13
           go_wp2
           repeat (go_quiet (fail);try go_wp2)
           go_ret
           exact ⟨by first|rfl|(simp;done)|(simp [*];done),by repeat (first|exact Drawn0.refl _|apply Drawn0.step)⟩
          ·rw [if_neg c14] at H
           have c14b0:decide ((bt a1 x5_1) < (bt a0 x5_1))=false:=decide_eq_false c14
           clear c14
           have H':=Aside0.mk H
           clear H
           have p8:0≤(x5_1:Int):=of_decide_eq_true (by first|(with_reducible assumption)|assumption)
           have q8:x5_1 < (a0.size:Int):=of_decide_eq_true (by first|(with_reducible assumption)|assumption)
           have hx8:=bt_at a0 x5_1
           replace p8:=eq_true p8
           replace q8:=eq_true q8
           have p10:0≤(x5_1:Int):=of_decide_eq_true (by first|(with_reducible assumption)|assumption)
           have q10:x5_1 < (a1.size:Int):=of_decide_eq_true (by first|(with_reducible assumption)|assumption)
           have hx10:=bt_at a1 x5_1
           replace p10:=eq_true p10
           replace q10:=eq_true q10
           have p12:0≤(x5_1:Int):=of_decide_eq_true (by first|(with_reducible assumption)|assumption)
           have q12:x5_1 < (a0.size:Int):=of_decide_eq_true (by first|(with_reducible assumption)|assumption)
           have hx12:=bt_at a0 x5_1
           replace p12:=eq_true p12
           replace q12:=eq_true q12
           have p13:0≤(x5_1:Int):=of_decide_eq_true (by first|(with_reducible assumption)|assumption)
           have q13:x5_1 < (a1.size:Int):=of_decide_eq_true (by first|(with_reducible assumption)|assumption)
           have hx13:=bt_at a1 x5_1
           replace p13:=eq_true p13
           replace q13:=eq_true q13
           go_wp2
           repeat (go_quiet (fail);try go_wp2)
           go_roundg kj2
           case measure=>have:=HK1.out;have:=HJ2.out;omega
           case rel=>exact ⟨(wrap64 (x5_1+1)),(by first|rfl|(simp;done)|(simp [*];done)),H',⟨by have:=HK1.out;have:=HJ2.out;omega⟩,by repeat (first|exact Drawn0.refl _|apply Drawn0.step)⟩
        ·rw [if_neg c9] at H
         exact absurd H (by simp)
       ·rw [if_neg c7] at H
        exact absurd H (by simp)
      ·rw [if_neg c6] at H
       exact absurd H (by simp)
     ·replace c5:=Bool.eq_false_iff.mpr c5
      subst c5
      have H1:(if (a0.size:Int) < (a1.size:Int) then (some (-1)) else (if (a0.size:Int) > (a1.size:Int) then (some 1) else (some 0)))=some r:=by rw [if_neg (show ¬ (false=true) by decide)] at H;exact H
      clear H
      have H:=H1
      clear H1
      by_cases c15:(a0.size:Int) < (a1.size:Int)
      ·rw [if_pos c15] at H
       have c15b0:decide ((a0.size:Int) < (a1.size:Int))=true:=decide_eq_true c15
       have c15b1:decide (a0.size < a1.size)=true:=decide_eq_true (Int.ofNat_lt.mp c15)
       clear c15
       obtain rfl:=Option.some.inj H
       go_wp2
       repeat (go_quiet (fail);try go_wp2)
       go_ret
       exact ⟨by first|rfl|(simp;done)|(simp [*];done),by repeat (first|exact Drawn0.refl _|apply Drawn0.step)⟩
      ·rw [if_neg c15] at H
       have c15b0:decide ((a0.size:Int) < (a1.size:Int))=false:=decide_eq_false c15
       have c15b1:decide (a0.size < a1.size)=false:=decide_eq_false (fun h=>c15 (Int.ofNat_lt.mpr h))
       clear c15
       by_cases c16:(a0.size:Int) > (a1.size:Int)
       ·rw [if_pos c16] at H
        have c16b0:decide ((a1.size:Int) < (a0.size:Int))=true:=decide_eq_true c16
        have c16b1:decide (a1.size < a0.size)=true:=decide_eq_true (Int.ofNat_lt.mp c16)
        clear c16
        obtain rfl:=Option.some.inj H
        go_wp2
        repeat (go_quiet (fail);try go_wp2)
        go_ret
        exact ⟨by first|rfl|(simp;done)|(simp [*];done),by repeat (first|exact Drawn0.refl _|apply Drawn0.step)⟩
       ·rw [if_neg c16] at H
        have c16b0:decide ((a1.size:Int) < (a0.size:Int))=false:=decide_eq_false c16
        have c16b1:decide (a1.size < a0.size)=false:=decide_eq_false (fun h=>c16 (Int.ofNat_lt.mpr h))
        clear c16
        obtain rfl:=Option.some.inj H
        go_wp2
        repeat (go_quiet (fail);try go_wp2)
        go_ret
        exact ⟨by first|rfl|(simp;done)|(simp [*];done),by repeat (first|exact Drawn0.refl _|apply Drawn0.step)⟩
def latticeref05_Value.f (a0:ByteArray):Option (Int):=if (a0.size:Int) > 32 then (some 51) else (some 0)
set_option maxHeartbeats 8000000 in
set_option maxRecDepth 100000 in
theorem latticeref05_Value.calls (a0:ByteArray) (r:Int) (w:World) (h:latticeref05_Value.f a0=some r) :
  Calls Try.prog 47 #[.string a0] w fun e w'=>e=.returned (.int .i64 r)∧Drawn0 w w':=by
 have H:(if (a0.size:Int) > 32 then (some 51) else (some 0))=some r:=h
 clear h
 by_cases c2:(a0.size:Int) > 32
 ·rw [if_pos c2] at H
  have c2b0:decide (32 < (a0.size:Int))=true:=decide_eq_true c2
  have c2b1:decide (32 < a0.size)=true:=decide_eq_true (by omega)
  clear c2
  obtain rfl:=Option.some.inj H
  go_enter Try.func47,Try.ntmps47
  go_wp2
  go_ret
  exact ⟨by first|rfl|(simp;done)|(simp [*];done),by repeat (first|exact Drawn0.refl _|apply Drawn0.step)⟩
 ·rw [if_neg c2] at H
  have c2b0:decide (32 < (a0.size:Int))=false:=decide_eq_false c2
  have c2b1:decide (32 < a0.size)=false:=decide_eq_false (by omega)
  clear c2
  obtain rfl:=Option.some.inj H
  go_enter Try.func47,Try.ntmps47
  go_wp2
  go_ret
  exact ⟨by first|rfl|(simp;done)|(simp [*];done),by repeat (first|exact Drawn0.refl _|apply Drawn0.step)⟩
end Go.Proofs.Ytcocmpblmkdmjaa.Pr
