-- A part of the text Prx28, thinned by a program of this session.
import Derived.Test.YtcocmpblmkdmjaaTNodeChangesPrx0
import Derived.Test.YtcocmpblmkdmjaaTNodeChangesPrx10
import Derived.Test.YtcocmpblmkdmjaaTNodeChangesPrx11
namespace Go.Proofs.Ytcocmpblmkdmjaa.Pr
open Go.RowKit Go.Proofs.YtcocmpblmkdmjaaW.PrintWords Go.Proofs.YtcocmpblmkdmjaaW.PrintLast Go.Proofs.YtcocmpblmkdmjaaW.PrintMore
attribute [local go_sem] max2_int min2_int max_two min_two max_three min_three max_four min_four
set_option linter.unusedVariables false
set_option linter.unusedSimpArgs false
def latticeref07_Del.l0:Nat→ByteArray→List ByteArray→Int→Int→Int→Int→Int→ByteArray→List ByteArray→List ByteArray→List Int→Int→Int→Int→ByteArray→List ByteArray→List ByteArray→List Int→Option (Int×Int×Int×ByteArray×List ByteArray×List ByteArray×List Int×Int)
 | 0,_,_,_,_,_,_,_,_,_,_,_,_,_,_,_,_,_,_=>none
 | k+1,x1,x20,x21,x22,x518000,x518001,x518002,x518003,x518004,x518005,x518006,x534000,x534001,x534002,x534003,x534004,x534005,x534006=>if x22 < x21 then (if 0≤x22 then (if x22 < (x20.length:Int) then (if (rdOf ByteArray.empty x20 x22).toList=x1.toList then (latticeref07_Del.l0 k x1 x20 x21 (wrap64 (x22+1)) x518000 x518001 x518002 x518003 x518004 x518005 x518006 x534000 x534001 x534002 x534003 x534004 x534005 x534006) else (if x534004.length < 8796093022208 then (if x22 < (x518005.length:Int) then (if x534005.length < 8796093022208 then (latticeref07_Del.l0 k x1 x20 x21 (wrap64 (x22+1)) x518000 x518001 x518002 x518003 x518004 x518005 x518006 x534000 x534001 x534002 x534003 (x534004++[rdOf ByteArray.empty x20 x22]) (x534005++[rdOf ByteArray.empty x518005 x22]) x534006) else (none)) else (none)) else (none))) else (none)) else (none)) else (some (x534000,x534001,x534002,x534003,x534004,x534005,x534006,0))
def latticeref07_Del.f (k:Nat) (a0_0:Int) (a0_1:Int) (a0_2:Int) (a0_3:ByteArray) (l0_4:List ByteArray) (l0_5:List ByteArray) (l0_6:List Int) (a1:ByteArray):Option (Int×Int×Int×ByteArray×List ByteArray×List ByteArray×List Int×Int):=(latticeref07_asked.f k a0_0 a0_1 a0_2 a0_3 l0_4 l0_5 l0_6 a1 (⟨#[]⟩:ByteArray) 1 0).bind fun t519=>(if t519=0 then ((latticeref07_bare.f a0_0 a0_1 a0_2 a0_3 l0_4 l0_5 l0_6).bind fun bt520=>(latticeref07_Del.l0 k a1 l0_4 (l0_4.length:Int) 0 a0_0 a0_1 a0_2 a0_3 l0_4 l0_5 l0_6 bt520.1 bt520.2.1 bt520.2.2.1 bt520.2.2.2.1 bt520.2.2.2.2.1 bt520.2.2.2.2.2.1 bt520.2.2.2.2.2.2)) else (some (0,0,0,(⟨#[]⟩:ByteArray),([]:List ByteArray),([]:List ByteArray),([]:List Int),t519)))
def latticeref07_Del.T10:Bool×List (List Nat×List Nat):=(true,[([],[]),([0],[0]),([],[]),([2],[2]),([],[]),([3,4],[3,4]),([5],[5]),([6],[6]),([1,7],[1,7]),([0,1,2,3,4,5,6,7,8],[]),([9,8,8,0,1,2,3,4,5,6,7,8],[8,9])])
def latticeref07_Del.B10:List Nat:=[0,1,0,4,0,28,60,124,255,511,1023]
theorem latticeref07_Del.tab10:rtab .any (opsOf Try.f31 10)=latticeref07_Del.T10:=by kernel_rfl
theorem latticeref07_Del.bits10:waitsOk latticeref07_Del.T10.2 latticeref07_Del.B10=true:=by kernel_rfl
set_option maxHeartbeats 8000000 in
set_option maxRecDepth 100000 in
theorem latticeref07_Del.calls (k:Nat) (a0_0:Int) (a0_1:Int) (a0_2:Int) (a0_3:ByteArray) (A0_4:Option Addr) (c0_4:Nat) (l0_4:List ByteArray) (A0_5:Option Addr) (c0_5:Nat) (l0_5:List ByteArray) (A0_6:Option Addr) (c0_6:Nat) (l0_6:List Int) (a1:ByteArray) (r1:Int) (r2:Int) (r3:Int) (r4:ByteArray) (r5:List ByteArray) (r6:List ByteArray) (r7:List Int) (r8:Int) (w:World) (hr0_4:Kd.C Kd.string w A0_4 l0_4.length l0_4) (hc0_4:l0_4.length≤c0_4) (hr0_5:Kd.C Kd.string w A0_5 l0_5.length l0_5) (hc0_5:l0_5.length≤c0_5) (hr0_6:Kd.C (Kd.int .i64) w A0_6 l0_6.length l0_6) (hc0_6:l0_6.length≤c0_6) (h:latticeref07_Del.f k a0_0 a0_1 a0_2 a0_3 l0_4 l0_5 l0_6 a1=some (r1,r2,r3,r4,r5,r6,r7,r8)) :
  Calls Try.prog 31 #[.agg #[.int .i64 a0_0,.int .i64 a0_1,.int .i64 a0_2,.string a0_3,.slice A0_4 l0_4.length c0_4,.slice A0_5 l0_5.length c0_5,.slice A0_6 l0_6.length c0_6],.string a1] w fun e w'=>∃ v4_ v5_ v6_:Value,e=.returned (.tuple #[.agg #[.int .i64 r1,.int .i64 r2,.int .i64 r3,.string r4,v4_,v5_,v6_],.int .i64 r8])∧Kd.R Kd.string 9 w' w.heap.size (fun k_=>some k_≠(v5_:Value).ownBlock) v4_ r5∧Kd.R Kd.string 9 w' w.heap.size (fun k_=>some k_≠(v4_:Value).ownBlock) v5_ r6∧Kd.R (Kd.int .i64) 3 w' w.heap.size (fun _=>True) v6_ r7∧Below w.heap.size w w':=by
 have hu25:=Try.underlying25
 have HR0_4:=Aside0.mk hr0_4
 have HC0_4:=Aside0.mk hc0_4
 clear hr0_4 hc0_4
 have HR0_5:=Aside0.mk hr0_5
 have HC0_5:=Aside0.mk hc0_5
 clear hr0_5 hc0_5
 have HR0_6:=Aside0.mk hr0_6
 have HC0_6:=Aside0.mk hc0_6
 clear hr0_6 hc0_6
 have HB:=Aside0.mk (Below.refl w.heap.size w)
 have H:((latticeref07_asked.f k a0_0 a0_1 a0_2 a0_3 l0_4 l0_5 l0_6 a1 (⟨#[]⟩:ByteArray) 1 0).bind fun t519=>(if t519=0 then ((latticeref07_bare.f a0_0 a0_1 a0_2 a0_3 l0_4 l0_5 l0_6).bind fun bt520=>(latticeref07_Del.l0 k a1 l0_4 (l0_4.length:Int) 0 a0_0 a0_1 a0_2 a0_3 l0_4 l0_5 l0_6 bt520.1 bt520.2.1 bt520.2.2.1 bt520.2.2.2.1 bt520.2.2.2.2.1 bt520.2.2.2.2.2.1 bt520.2.2.2.2.2.2)) else (some (0,0,0,(⟨#[]⟩:ByteArray),([]:List ByteArray),([]:List ByteArray),([]:List Int),t519))))=some (r1,r2,r3,r4,r5,r6,r7,r8):=h
 clear h
 replace H:=Option.bind_eq_some_iff.mp H
 obtain ⟨t519,A30,H⟩:=H
 try dsimp only at H
 have A3:=Aside0.mk A30
 clear A30
 by_cases c4:t519=0
 ·rw [if_pos c4] at H
  have c4b0:(t519==0)=true:=beq_iff_eq.mpr c4
  have c4b1:(t519 != 0)=false:=bne_eq_false_iff_eq.mpr c4
  clear c4
  replace H:=Option.bind_eq_some_iff.mp H
  obtain ⟨⟨t520,t521,t522,t523,t524,t527,t530⟩,A50,H⟩:=H
  try dsimp only at H
  have A5:=Aside0.mk A50
  clear A50
  have H':=Aside0.mk H
  clear H
  go_enter Try.func31,Try.ntmps31
  go_wp2_with (first|((with_reducible refine gate_dst (N:=2) rfl ?_);refine box_event ?hg (N:=2) ?hd (cs:=#[.int .i64 a0_0,.int .i64 a0_1,.int .i64 a0_2,.string a0_3,.slice A0_4 l0_4.length c0_4,.slice A0_5 l0_5.length c0_5,.slice A0_6 l0_6.length c0_6]) (t:=25) ?hr ?_;(case hd=>rfl);(case hg=>rfl);(case hr=>first|(go_simp;done)|(go_simp;rfl));intro gb517 hg w6 hbox hb;have n0_:=Aside0.mk (below_step (by repeat (first|(with_reducible first|exact HB.out|apply below_alloc|apply pw_below_drewN|apply below_drew1)|exact HB.out)) hb);have n1_:=Aside0.mk (hbox);have n2_:=Aside0.mk ((by rw [hg];exact (below_size (by repeat (first|(with_reducible first|exact HB.out|apply below_alloc|apply pw_below_drewN|apply below_drew1)|exact HB.out))):w.heap.size≤gb517));have n3_:=Aside0.mk ((by rw [hg];exact (below_size (by repeat (first|(with_reducible first|exact HB.out|apply below_alloc|apply pw_below_drewN|apply below_drew1)|exact HB.out))):w.heap.size≤gb517));clear HB;have HB:=n0_;have BK517:=n1_;have GW517:=n2_;have GE517:=n3_;clear n0_ n1_ n2_ n3_;clear hb hbox hg)|((with_reducible refine gate_dst (N:=4) rfl ?_);refine box_event ?hg (N:=4) ?hd (cs:=#[.int .i64 0,.int .i64 0,.int .i64 0,.string (⟨#[]⟩:ByteArray),.slice none 0 0,.slice none 0 0,.slice none 0 0]) (t:=25) ?hr ?_;(case hd=>rfl);(case hg=>rfl);(case hr=>first|(go_simp;done)|(go_simp;rfl));intro gb518 hg w7 hbox hb;have n0_:=Aside0.mk (blk_below (g:=gb517) (o:=.cells #[.int .i64 a0_0,.int .i64 a0_1,.int .i64 a0_2,.string a0_3,.slice A0_4 l0_4.length c0_4,.slice A0_5 l0_5.length c0_5,.slice A0_6 l0_6.length c0_6] 25 (0,0)) (by (with_reducible repeat (first|refine blk_drewN ?_ _|refine blk_drew ?_|refine blk_alloc ?_ _));exact BK517.out) hb);have n1_:=Aside0.mk (below_step (by repeat (first|(with_reducible first|exact HB.out|apply below_alloc|apply pw_below_drewN|apply below_drew1|refine below_set ?_ GE517.out)|exact HB.out)) hb);have n2_:=Aside0.mk (hbox);have n3_:=Aside0.mk ((by rw [hg];exact (below_size (by repeat (first|(with_reducible first|exact HB.out|apply below_alloc|apply pw_below_drewN|apply below_drew1|refine below_set ?_ GE517.out)|exact HB.out))):w.heap.size≤gb518));have n4_:=Aside0.mk ((by rw [hg];exact (below_size (by repeat (first|(with_reducible first|exact HB.out|apply below_alloc|apply pw_below_drewN|apply below_drew1|refine below_set ?_ GE517.out)|exact HB.out))):w.heap.size≤gb518));have n5_:=Aside0.mk ((by rw [hg];exact Nat.ne_of_lt (blk_lt (g:=gb517) (o:=.cells #[.int .i64 a0_0,.int .i64 a0_1,.int .i64 a0_2,.string a0_3,.slice A0_4 l0_4.length c0_4,.slice A0_5 l0_5.length c0_5,.slice A0_6 l0_6.length c0_6] 25 (0,0)) (by (with_reducible repeat (first|refine blk_drewN ?_ _|refine blk_drew ?_|refine blk_alloc ?_ _));exact BK517.out)):gb517≠gb518));have n6_:=Aside0.mk ((by rw [hg];exact Nat.ne_of_gt (blk_lt (g:=gb517) (o:=.cells #[.int .i64 a0_0,.int .i64 a0_1,.int .i64 a0_2,.string a0_3,.slice A0_4 l0_4.length c0_4,.slice A0_5 l0_5.length c0_5,.slice A0_6 l0_6.length c0_6] 25 (0,0)) (by (with_reducible repeat (first|refine blk_drewN ?_ _|refine blk_drew ?_|refine blk_alloc ?_ _));exact BK517.out)):gb518≠gb517));clear BK517;clear HB;have BK517:=n0_;have HB:=n1_;have BK518:=n2_;have GW518:=n3_;have GE518:=n4_;have NB517_518:=n5_;have NB518_517:=n6_;clear n0_ n1_ n2_ n3_ n4_ n5_ n6_;clear hb hbox hg;have hnb8:=NB517_518.out;have hnc8:=NB518_517.out;have hcz9_0:w7.cell? ⟨gb517,0,none⟩=some (.int .i64 a0_0):=(blk_cell BK517.out 0).trans rfl;have hcz9_1:w7.cell? ⟨gb517,1,none⟩=some (.int .i64 a0_1):=(blk_cell BK517.out 1).trans rfl;have hcz9_2:w7.cell? ⟨gb517,2,none⟩=some (.int .i64 a0_2):=(blk_cell BK517.out 2).trans rfl;have hcz9_3:w7.cell? ⟨gb517,3,none⟩=some (.string a0_3):=(blk_cell BK517.out 3).trans rfl;have hcz9_4:w7.cell? ⟨gb517,4,none⟩=some (.slice A0_4 l0_4.length c0_4):=(blk_cell BK517.out 4).trans rfl;have hcz9_5:w7.cell? ⟨gb517,5,none⟩=some (.slice A0_5 l0_5.length c0_5):=(blk_cell BK517.out 5).trans rfl;have hcz9_6:w7.cell? ⟨gb517,6,none⟩=some (.slice A0_6 l0_6.length c0_6):=(blk_cell BK517.out 6).trans rfl;have hfz9_0:=blk_frozen BK517.out 0;have hfz9_1:=blk_frozen BK517.out 1;have hfz9_2:=blk_frozen BK517.out 2;have hfz9_3:=blk_frozen BK517.out 3;have hfz9_4:=blk_frozen BK517.out 4;have hfz9_5:=blk_frozen BK517.out 5;have hfz9_6:=blk_frozen BK517.out 6)|((with_reducible refine gate_callee (f:=46) rfl ?_);refine goesL_ (some 12) rfl rfl Try.func46 (by kernel_rfl) rfl #[.agg #[.int .i64 a0_0,.int .i64 a0_1,.int .i64 a0_2,.string a0_3,.slice A0_4 l0_4.length c0_4,.slice A0_5 l0_5.length c0_5,.slice A0_6 l0_6.length c0_6],.string a1,.string (⟨#[]⟩:ByteArray),.int .i64 1,.int .i64 0] rfl (by (try simp only [List.map_toArray,List.map_cons,List.map_nil]);first|done|rfl|(simp only [List.length_drop,List.length_take];rfl)) ?_;(with_reducible refine (latticeref07_asked.calls k a0_0 a0_1 a0_2 a0_3 _ _ l0_4 _ _ l0_5 _ _ l0_6 a1 (⟨#[]⟩:ByteArray) 1 0 t519 _ ?side1 ?side2 ?side3 ?side4 ?side5 ?side6 A3.out).mono ?_);(case side1=>repeat (first|exact (Kd.C_below HR0_4.out HB.out)|(with_reducible refine Kd.C_alloc ?_ _)|(with_reducible refine Kd.C_drewN ?_ _)|(with_reducible refine Kd.C_drew ?_)));(case side2=>exact HC0_4.out);(case side3=>repeat (first|exact (Kd.C_below HR0_5.out HB.out)|(with_reducible refine Kd.C_alloc ?_ _)|(with_reducible refine Kd.C_drewN ?_ _)|(with_reducible refine Kd.C_drew ?_)));(case side4=>exact HC0_5.out);(case side5=>repeat (first|exact (Kd.C_below HR0_6.out HB.out)|(with_reducible refine Kd.C_alloc ?_ _)|(with_reducible refine Kd.C_drewN ?_ _)|(with_reducible refine Kd.C_drew ?_)));(case side6=>exact HC0_6.out);rintro e w10 ⟨rfl,hb⟩;refine ⟨_,rfl,?_⟩;have n0_:=Aside0.mk (blk_below (g:=gb517) (o:=.cells #[.int .i64 a0_0,.int .i64 a0_1,.int .i64 a0_2,.string a0_3,.slice A0_4 l0_4.length c0_4,.slice A0_5 l0_5.length c0_5,.slice A0_6 l0_6.length c0_6] 25 (0,0)) (by (with_reducible repeat (first|refine blk_drewN ?_ _|refine blk_drew ?_|refine blk_alloc ?_ _));exact BK517.out) hb);have n1_:=Aside0.mk (blk_below (g:=gb518) (o:=.cells #[.int .i64 0,.int .i64 0,.int .i64 0,.string (⟨#[]⟩:ByteArray),.slice none 0 0,.slice none 0 0,.slice none 0 0] 25 (0,0)) (by (with_reducible repeat (first|refine blk_drewN ?_ _|refine blk_drew ?_|refine blk_alloc ?_ _));exact BK518.out) hb);have n2_:=Aside0.mk (below_step (by repeat (first|(with_reducible first|exact HB.out|apply below_alloc|apply pw_below_drewN|apply below_drew1|refine below_set ?_ GE517.out|refine below_set ?_ GE518.out)|exact HB.out)) hb);clear BK517;clear BK518;clear HB;have BK517:=n0_;have BK518:=n1_;have HB:=n2_;clear n0_ n1_ n2_;(try clear hb);(try clear hb2);(try clear hk);(try clear hi);have hcz11_0:w10.cell? ⟨gb517,0,none⟩=some (.int .i64 a0_0):=(blk_cell BK517.out 0).trans rfl;have hcz11_1:w10.cell? ⟨gb517,1,none⟩=some (.int .i64 a0_1):=(blk_cell BK517.out 1).trans rfl;have hcz11_2:w10.cell? ⟨gb517,2,none⟩=some (.int .i64 a0_2):=(blk_cell BK517.out 2).trans rfl;have hcz11_3:w10.cell? ⟨gb517,3,none⟩=some (.string a0_3):=(blk_cell BK517.out 3).trans rfl;have hcz11_4:w10.cell? ⟨gb517,4,none⟩=some (.slice A0_4 l0_4.length c0_4):=(blk_cell BK517.out 4).trans rfl;have hcz11_5:w10.cell? ⟨gb517,5,none⟩=some (.slice A0_5 l0_5.length c0_5):=(blk_cell BK517.out 5).trans rfl;have hcz11_6:w10.cell? ⟨gb517,6,none⟩=some (.slice A0_6 l0_6.length c0_6):=(blk_cell BK517.out 6).trans rfl;have hfz11_0:=blk_frozen BK517.out 0;have hfz11_1:=blk_frozen BK517.out 1;have hfz11_2:=blk_frozen BK517.out 2;have hfz11_3:=blk_frozen BK517.out 3;have hfz11_4:=blk_frozen BK517.out 4;have hfz11_5:=blk_frozen BK517.out 5;have hfz11_6:=blk_frozen BK517.out 6)|((with_reducible refine gate_callee (f:=40) rfl ?_);refine goesL_ (some 18) rfl rfl Try.func40 (by kernel_rfl) rfl #[.agg #[.int .i64 a0_0,.int .i64 a0_1,.int .i64 a0_2,.string a0_3,.slice A0_4 l0_4.length c0_4,.slice A0_5 l0_5.length c0_5,.slice A0_6 l0_6.length c0_6]] rfl (by (try simp only [List.map_toArray,List.map_cons,List.map_nil]);first|done|rfl|(simp only [List.length_drop,List.length_take];rfl)) ?_;(with_reducible refine (latticeref07_bare.calls a0_0 a0_1 a0_2 a0_3 _ _ l0_4 _ _ l0_5 _ _ l0_6 t520 t521 t522 t523 t524 t527 t530 _ ?side1 ?side2 ?side3 ?side4 ?side5 ?side6 A5.out).mono ?_);(case side1=>repeat (first|exact (Kd.C_below HR0_4.out HB.out)|(with_reducible refine Kd.C_alloc ?_ _)|(with_reducible refine Kd.C_drewN ?_ _)|(with_reducible refine Kd.C_drew ?_)));(case side2=>exact HC0_4.out);(case side3=>repeat (first|exact (Kd.C_below HR0_5.out HB.out)|(with_reducible refine Kd.C_alloc ?_ _)|(with_reducible refine Kd.C_drewN ?_ _)|(with_reducible refine Kd.C_drew ?_)));(case side4=>exact HC0_5.out);(case side5=>repeat (first|exact (Kd.C_below HR0_6.out HB.out)|(with_reducible refine Kd.C_alloc ?_ _)|(with_reducible refine Kd.C_drewN ?_ _)|(with_reducible refine Kd.C_drew ?_)));(case side6=>exact HC0_6.out);rintro e w12 ⟨v525,v528,v531,rfl,ho0,ho1,ho2,hb⟩;refine ⟨_,rfl,?_⟩;have n0_:=Aside0.mk (Kd.R_lower ho0 (below_size (by repeat (first|(with_reducible first|exact HB.out|apply below_alloc|apply pw_below_drewN|apply below_drew1|refine below_set ?_ GE517.out|refine below_set ?_ GE518.out)|exact HB.out))));have n1_:=Aside0.mk (Kd.R_lower ho1 (below_size (by repeat (first|(with_reducible first|exact HB.out|apply below_alloc|apply pw_below_drewN|apply below_drew1|refine below_set ?_ GE517.out|refine below_set ?_ GE518.out)|exact HB.out))));have n2_:=Aside0.mk (Kd.R_lower ho2 (below_size (by repeat (first|(with_reducible first|exact HB.out|apply below_alloc|apply pw_below_drewN|apply below_drew1|refine below_set ?_ GE517.out|refine below_set ?_ GE518.out)|exact HB.out))));have n3_:=Aside0.mk (blk_below (g:=gb517) (o:=.cells #[.int .i64 a0_0,.int .i64 a0_1,.int .i64 a0_2,.string a0_3,.slice A0_4 l0_4.length c0_4,.slice A0_5 l0_5.length c0_5,.slice A0_6 l0_6.length c0_6] 25 (0,0)) (by (with_reducible repeat (first|refine blk_drewN ?_ _|refine blk_drew ?_|refine blk_alloc ?_ _));exact BK517.out) hb);have n4_:=Aside0.mk (blk_below (g:=gb518) (o:=.cells #[.int .i64 0,.int .i64 0,.int .i64 0,.string (⟨#[]⟩:ByteArray),.slice none 0 0,.slice none 0 0,.slice none 0 0] 25 (0,0)) (by (with_reducible repeat (first|refine blk_drewN ?_ _|refine blk_drew ?_|refine blk_alloc ?_ _));exact BK518.out) hb);have n5_:=Aside0.mk (below_step (by repeat (first|(with_reducible first|exact HB.out|apply below_alloc|apply pw_below_drewN|apply below_drew1|refine below_set ?_ GE517.out|refine below_set ?_ GE518.out)|exact HB.out)) hb);clear BK517;clear BK518;clear HB;have HO526:=n0_;have HO529:=n1_;have HO532:=n2_;have BK517:=n3_;have BK518:=n4_;have HB:=n5_;clear n0_ n1_ n2_ n3_ n4_ n5_;(try clear hb);(try clear hb2);(try clear hk);(try clear hi);(try clear ho0);(try clear ho1);(try clear ho2))|((with_reducible refine gate_dst (N:=7) rfl ?_);refine box_event ?hg (N:=7) ?hd (cs:=#[.int .i64 0,.int .i64 0,.int .i64 0,.string (⟨#[]⟩:ByteArray),.slice none 0 0,.slice none 0 0,.slice none 0 0]) (t:=25) ?hr ?_;(case hd=>rfl);(case hg=>rfl);(case hr=>first|(go_simp;done)|(go_simp;rfl));intro gb533 hg w13 hbox hb;have n0_:=Aside0.mk (Kd.R_below (by (with_reducible repeat (first|apply Kd.R_alloc|apply Kd.R_drewN|apply Kd.R_drew));exact HO526.out) hb);have n1_:=Aside0.mk (Kd.R_below (by (with_reducible repeat (first|apply Kd.R_alloc|apply Kd.R_drewN|apply Kd.R_drew));exact HO529.out) hb);have n2_:=Aside0.mk (Kd.R_below (by (with_reducible repeat (first|apply Kd.R_alloc|apply Kd.R_drewN|apply Kd.R_drew));exact HO532.out) hb);have n3_:=Aside0.mk (blk_below (g:=gb517) (o:=.cells #[.int .i64 a0_0,.int .i64 a0_1,.int .i64 a0_2,.string a0_3,.slice A0_4 l0_4.length c0_4,.slice A0_5 l0_5.length c0_5,.slice A0_6 l0_6.length c0_6] 25 (0,0)) (by (with_reducible repeat (first|refine blk_drewN ?_ _|refine blk_drew ?_|refine blk_alloc ?_ _));exact BK517.out) hb);have n4_:=Aside0.mk (blk_below (g:=gb518) (o:=.cells #[.int .i64 0,.int .i64 0,.int .i64 0,.string (⟨#[]⟩:ByteArray),.slice none 0 0,.slice none 0 0,.slice none 0 0] 25 (0,0)) (by (with_reducible repeat (first|refine blk_drewN ?_ _|refine blk_drew ?_|refine blk_alloc ?_ _));exact BK518.out) hb);have n5_:=Aside0.mk (below_step (by repeat (first|(with_reducible first|exact HB.out|apply below_alloc|apply pw_below_drewN|apply below_drew1|refine below_set ?_ GE517.out|refine below_set ?_ GE518.out)|exact HB.out)) hb);have n6_:=Aside0.mk (hbox);have n7_:=Aside0.mk ((by rw [hg];exact (below_size (by repeat (first|(with_reducible first|exact HB.out|apply below_alloc|apply pw_below_drewN|apply below_drew1|refine below_set ?_ GE517.out|refine below_set ?_ GE518.out)|exact HB.out))):w.heap.size≤gb533));have n8_:=Aside0.mk ((by rw [hg];exact (below_size (by repeat (first|(with_reducible first|exact HB.out|apply below_alloc|apply pw_below_drewN|apply below_drew1|refine below_set ?_ GE517.out|refine below_set ?_ GE518.out)|exact HB.out))):w.heap.size≤gb533));have n9_:=Aside0.mk ((by rw [hg];exact Nat.ne_of_lt (blk_lt (g:=gb517) (o:=.cells #[.int .i64 a0_0,.int .i64 a0_1,.int .i64 a0_2,.string a0_3,.slice A0_4 l0_4.length c0_4,.slice A0_5 l0_5.length c0_5,.slice A0_6 l0_6.length c0_6] 25 (0,0)) (by (with_reducible repeat (first|refine blk_drewN ?_ _|refine blk_drew ?_|refine blk_alloc ?_ _));exact BK517.out)):gb517≠gb533));have n10_:=Aside0.mk ((by rw [hg];exact Nat.ne_of_gt (blk_lt (g:=gb517) (o:=.cells #[.int .i64 a0_0,.int .i64 a0_1,.int .i64 a0_2,.string a0_3,.slice A0_4 l0_4.length c0_4,.slice A0_5 l0_5.length c0_5,.slice A0_6 l0_6.length c0_6] 25 (0,0)) (by (with_reducible repeat (first|refine blk_drewN ?_ _|refine blk_drew ?_|refine blk_alloc ?_ _));exact BK517.out)):gb533≠gb517));have n11_:=Aside0.mk ((by rw [hg];exact Nat.ne_of_lt (blk_lt (g:=gb518) (o:=.cells #[.int .i64 0,.int .i64 0,.int .i64 0,.string (⟨#[]⟩:ByteArray),.slice none 0 0,.slice none 0 0,.slice none 0 0] 25 (0,0)) (by (with_reducible repeat (first|refine blk_drewN ?_ _|refine blk_drew ?_|refine blk_alloc ?_ _));exact BK518.out)):gb518≠gb533));have n12_:=Aside0.mk ((by rw [hg];exact Nat.ne_of_gt (blk_lt (g:=gb518) (o:=.cells #[.int .i64 0,.int .i64 0,.int .i64 0,.string (⟨#[]⟩:ByteArray),.slice none 0 0,.slice none 0 0,.slice none 0 0] 25 (0,0)) (by (with_reducible repeat (first|refine blk_drewN ?_ _|refine blk_drew ?_|refine blk_alloc ?_ _));exact BK518.out)):gb533≠gb518));clear HO526;clear HO529;clear HO532;clear BK517;clear BK518;clear HB;have HO526:=n0_;have HO529:=n1_;have HO532:=n2_;have BK517:=n3_;have BK518:=n4_;have HB:=n5_;have BK533:=n6_;have GW533:=n7_;have GE533:=n8_;have NB517_533:=n9_;have NB533_517:=n10_;have NB518_533:=n11_;have NB533_518:=n12_;clear n0_ n1_ n2_ n3_ n4_ n5_ n6_ n7_ n8_ n9_ n10_ n11_ n12_;clear hb hbox hg;have hnb14:=NB533_517.out;have hnc14:=NB517_533.out;have hnb15:=NB533_518.out;have hnc15:=NB518_533.out;have hcz16_0:w13.cell? ⟨gb533,0,none⟩=some (.int .i64 0):=(blk_cell BK533.out 0).trans rfl;have hcz16_1:w13.cell? ⟨gb533,1,none⟩=some (.int .i64 0):=(blk_cell BK533.out 1).trans rfl;have hcz16_2:w13.cell? ⟨gb533,2,none⟩=some (.int .i64 0):=(blk_cell BK533.out 2).trans rfl;have hcz16_3:w13.cell? ⟨gb533,3,none⟩=some (.string (⟨#[]⟩:ByteArray)):=(blk_cell BK533.out 3).trans rfl;have hcz16_4:w13.cell? ⟨gb533,4,none⟩=some (.slice none 0 0):=(blk_cell BK533.out 4).trans rfl;have hcz16_5:w13.cell? ⟨gb533,5,none⟩=some (.slice none 0 0):=(blk_cell BK533.out 5).trans rfl;have hcz16_6:w13.cell? ⟨gb533,6,none⟩=some (.slice none 0 0):=(blk_cell BK533.out 6).trans rfl;have hfz16_0:=blk_frozen BK533.out 0;have hfz16_1:=blk_frozen BK533.out 1;have hfz16_2:=blk_frozen BK533.out 2;have hfz16_3:=blk_frozen BK533.out 3;have hfz16_4:=blk_frozen BK533.out 4;have hfz16_5:=blk_frozen BK533.out 5;have hfz16_6:=blk_frozen BK533.out 6;obtain ⟨Ao17,co17,eo17⟩:=Kd.R_slice HO526.out;subst eo17;obtain ⟨Ao18,co18,eo18⟩:=Kd.R_slice HO529.out;subst eo18;obtain ⟨Ao19,co19,eo19⟩:=Kd.R_slice HO532.out;subst eo19;have hcz20_0:w13.cell? ⟨gb517,0,none⟩=some (.int .i64 a0_0):=(blk_cell BK517.out 0).trans rfl;have hcz20_1:w13.cell? ⟨gb517,1,none⟩=some (.int .i64 a0_1):=(blk_cell BK517.out 1).trans rfl;have hcz20_2:w13.cell? ⟨gb517,2,none⟩=some (.int .i64 a0_2):=(blk_cell BK517.out 2).trans rfl;have hcz20_3:w13.cell? ⟨gb517,3,none⟩=some (.string a0_3):=(blk_cell BK517.out 3).trans rfl;have hcz20_4:w13.cell? ⟨gb517,4,none⟩=some (.slice A0_4 l0_4.length c0_4):=(blk_cell BK517.out 4).trans rfl;have hcz20_5:w13.cell? ⟨gb517,5,none⟩=some (.slice A0_5 l0_5.length c0_5):=(blk_cell BK517.out 5).trans rfl;have hcz20_6:w13.cell? ⟨gb517,6,none⟩=some (.slice A0_6 l0_6.length c0_6):=(blk_cell BK517.out 6).trans rfl;have hfz20_0:=blk_frozen BK517.out 0;have hfz20_1:=blk_frozen BK517.out 1;have hfz20_2:=blk_frozen BK517.out 2;have hfz20_3:=blk_frozen BK517.out 3;have hfz20_4:=blk_frozen BK517.out 4;have hfz20_5:=blk_frozen BK517.out 5;have hfz20_6:=blk_frozen BK517.out 6))
  go_loopg [22] k (fun kq v22 w'=>∃ (x22_1:Int) (x534004_1:List ByteArray) (x534005_1:List ByteArray) (u534004:Value) (u534005:Value),v22=.int .i64 x22_1∧Aside0 (latticeref07_Del.l0 kq a1 l0_4 (l0_4.length:Int) x22_1 a0_0 a0_1 a0_2 a0_3 l0_4 l0_5 l0_6 t520 t521 t522 t523 x534004_1 x534005_1 t530=some (r1,r2,r3,r4,r5,r6,r7,r8))∧Aside0 (kq≤k)∧Aside0 (Kd.R Kd.string 9 w' w.heap.size (fun k_=>some k_≠(u534005:Value).ownBlock) u534004 x534004_1)∧Aside0 (Kd.R Kd.string 9 w' w.heap.size (fun k_=>some k_≠(u534004:Value).ownBlock) u534005 x534005_1)∧Aside0 (Kd.R (Kd.int .i64) 3 w' w.heap.size (fun _=>True) (.slice Ao19 t530.length co19) t530)∧Aside0 (w'.heap[gb517]?=some (.cells #[.int .i64 a0_0,.int .i64 a0_1,.int .i64 a0_2,.string a0_3,(.slice A0_4 l0_4.length c0_4),(.slice A0_5 l0_5.length c0_5),(.slice A0_6 l0_6.length c0_6)] 25 (0,0)))∧Aside0 (w'.heap[gb518]?=some (.cells #[.int .i64 0,.int .i64 0,.int .i64 0,.string (⟨#[]⟩:ByteArray),(.slice none 0 0),(.slice none 0 0),(.slice none 0 0)] 25 (0,0)))∧Aside0 (w'.heap[gb533]?=some (.cells #[.int .i64 t520,.int .i64 t521,.int .i64 t522,.string t523,u534004,u534005,(.slice Ao19 t530.length co19)] 25 (0,0)))∧Aside0 (Below w.heap.size w w'))
  case atStart=>exact ⟨(0),(t524),(t527),(.slice Ao17 t524.length co17),(.slice Ao18 t527.length co18),(by first|rfl|(simp;done)|(simp [*];done)),H',⟨Nat.le_refl _⟩,⟨by (with_reducible repeat (first|apply Kd.R_alloc|apply Kd.R_drewN|apply Kd.R_drew));exact Kd.R_mono (Kd.R_far (p:=⟨gb533,6,none⟩) (Kd.R_far (p:=⟨gb533,5,none⟩) (Kd.R_far (p:=⟨gb533,4,none⟩) (Kd.R_far (p:=⟨gb533,3,none⟩) (Kd.R_far (p:=⟨gb533,2,none⟩) (Kd.R_far (p:=⟨gb533,1,none⟩) (Kd.R_far (p:=⟨gb533,0,none⟩) (Kd.R_types HO526.out BK533.out (by decide)) (fun _ hk=>hk.2) (.int .i64 t520)) (fun _ hk=>hk.2) (.int .i64 t521)) (fun _ hk=>hk.2) (.int .i64 t522)) (fun _ hk=>hk.2) (.string t523)) (fun _ hk=>hk.2) (.slice Ao17 t524.length co17)) (fun _ hk=>hk.2) (.slice Ao18 t527.length co18)) (fun _ hk=>hk.2) (.slice Ao19 t530.length co19)) (fun _ hk=>hk.1)⟩,⟨by (with_reducible repeat (first|apply Kd.R_alloc|apply Kd.R_drewN|apply Kd.R_drew));exact Kd.R_mono (Kd.R_far (p:=⟨gb533,6,none⟩) (Kd.R_far (p:=⟨gb533,5,none⟩) (Kd.R_far (p:=⟨gb533,4,none⟩) (Kd.R_far (p:=⟨gb533,3,none⟩) (Kd.R_far (p:=⟨gb533,2,none⟩) (Kd.R_far (p:=⟨gb533,1,none⟩) (Kd.R_far (p:=⟨gb533,0,none⟩) (Kd.R_types HO529.out BK533.out (by decide)) (fun _ hk=>hk.2) (.int .i64 t520)) (fun _ hk=>hk.2) (.int .i64 t521)) (fun _ hk=>hk.2) (.int .i64 t522)) (fun _ hk=>hk.2) (.string t523)) (fun _ hk=>hk.2) (.slice Ao17 t524.length co17)) (fun _ hk=>hk.2) (.slice Ao18 t527.length co18)) (fun _ hk=>hk.2) (.slice Ao19 t530.length co19)) (fun _ hk=>hk.1)⟩,⟨by (with_reducible repeat (first|apply Kd.R_alloc|apply Kd.R_drewN|apply Kd.R_drew));exact Kd.R_mono (Kd.R_far (p:=⟨gb533,6,none⟩) (Kd.R_far (p:=⟨gb533,5,none⟩) (Kd.R_far (p:=⟨gb533,4,none⟩) (Kd.R_far (p:=⟨gb533,3,none⟩) (Kd.R_far (p:=⟨gb533,2,none⟩) (Kd.R_far (p:=⟨gb533,1,none⟩) (Kd.R_far (p:=⟨gb533,0,none⟩) (Kd.R_types HO532.out BK533.out (by decide)) (fun _ hk=>hk.2) (.int .i64 t520)) (fun _ hk=>hk.2) (.int .i64 t521)) (fun _ hk=>hk.2) (.int .i64 t522)) (fun _ hk=>hk.2) (.string t523)) (fun _ hk=>hk.2) (.slice Ao17 t524.length co17)) (fun _ hk=>hk.2) (.slice Ao18 t527.length co18)) (fun _ hk=>hk.2) (.slice Ao19 t530.length co19)) (fun _ hk=>trivial)⟩,⟨by (with_reducible repeat (first|refine blk_drewN ?_ _|refine blk_drew ?_|refine blk_alloc ?_ _));refine blk_far ?_ NB517_533.out _;(with_reducible repeat (first|refine blk_drewN ?_ _|refine blk_drew ?_|refine blk_alloc ?_ _));refine blk_far ?_ NB517_533.out _;(with_reducible repeat (first|refine blk_drewN ?_ _|refine blk_drew ?_|refine blk_alloc ?_ _));refine blk_far ?_ NB517_533.out _;(with_reducible repeat (first|refine blk_drewN ?_ _|refine blk_drew ?_|refine blk_alloc ?_ _));refine blk_far ?_ NB517_533.out _;(with_reducible repeat (first|refine blk_drewN ?_ _|refine blk_drew ?_|refine blk_alloc ?_ _));refine blk_far ?_ NB517_533.out _;(with_reducible repeat (first|refine blk_drewN ?_ _|refine blk_drew ?_|refine blk_alloc ?_ _));refine blk_far ?_ NB517_533.out _;(with_reducible repeat (first|refine blk_drewN ?_ _|refine blk_drew ?_|refine blk_alloc ?_ _));refine blk_far ?_ NB517_533.out _;(with_reducible repeat (first|refine blk_drewN ?_ _|refine blk_drew ?_|refine blk_alloc ?_ _));exact BK517.out⟩,⟨by (with_reducible repeat (first|refine blk_drewN ?_ _|refine blk_drew ?_|refine blk_alloc ?_ _));refine blk_far ?_ NB518_533.out _;(with_reducible repeat (first|refine blk_drewN ?_ _|refine blk_drew ?_|refine blk_alloc ?_ _));refine blk_far ?_ NB518_533.out _;(with_reducible repeat (first|refine blk_drewN ?_ _|refine blk_drew ?_|refine blk_alloc ?_ _));refine blk_far ?_ NB518_533.out _;(with_reducible repeat (first|refine blk_drewN ?_ _|refine blk_drew ?_|refine blk_alloc ?_ _));refine blk_far ?_ NB518_533.out _;(with_reducible repeat (first|refine blk_drewN ?_ _|refine blk_drew ?_|refine blk_alloc ?_ _));refine blk_far ?_ NB518_533.out _;(with_reducible repeat (first|refine blk_drewN ?_ _|refine blk_drew ?_|refine blk_alloc ?_ _));refine blk_far ?_ NB518_533.out _;(with_reducible repeat (first|refine blk_drewN ?_ _|refine blk_drew ?_|refine blk_alloc ?_ _));refine blk_far ?_ NB518_533.out _;(with_reducible repeat (first|refine blk_drewN ?_ _|refine blk_drew ?_|refine blk_alloc ?_ _));exact BK518.out⟩,⟨by (with_reducible repeat (first|refine blk_drewN ?_ _|refine blk_drew ?_|refine blk_alloc ?_ _));refine blk_put (cs:=#[.int .i64 t520,.int .i64 t521,.int .i64 t522,.string t523,.slice Ao17 t524.length co17,.slice Ao18 t527.length co18,.slice none 0 0]) ?_ 6 _ rfl;(with_reducible repeat (first|refine blk_drewN ?_ _|refine blk_drew ?_|refine blk_alloc ?_ _));refine blk_put (cs:=#[.int .i64 t520,.int .i64 t521,.int .i64 t522,.string t523,.slice Ao17 t524.length co17,.slice none 0 0,.slice none 0 0]) ?_ 5 _ rfl;(with_reducible repeat (first|refine blk_drewN ?_ _|refine blk_drew ?_|refine blk_alloc ?_ _));refine blk_put (cs:=#[.int .i64 t520,.int .i64 t521,.int .i64 t522,.string t523,.slice none 0 0,.slice none 0 0,.slice none 0 0]) ?_ 4 _ rfl;(with_reducible repeat (first|refine blk_drewN ?_ _|refine blk_drew ?_|refine blk_alloc ?_ _));refine blk_put (cs:=#[.int .i64 t520,.int .i64 t521,.int .i64 t522,.string (⟨#[]⟩:ByteArray),.slice none 0 0,.slice none 0 0,.slice none 0 0]) ?_ 3 _ rfl;(with_reducible repeat (first|refine blk_drewN ?_ _|refine blk_drew ?_|refine blk_alloc ?_ _));refine blk_put (cs:=#[.int .i64 t520,.int .i64 t521,.int .i64 0,.string (⟨#[]⟩:ByteArray),.slice none 0 0,.slice none 0 0,.slice none 0 0]) ?_ 2 _ rfl;(with_reducible repeat (first|refine blk_drewN ?_ _|refine blk_drew ?_|refine blk_alloc ?_ _));refine blk_put (cs:=#[.int .i64 t520,.int .i64 0,.int .i64 0,.string (⟨#[]⟩:ByteArray),.slice none 0 0,.slice none 0 0,.slice none 0 0]) ?_ 1 _ rfl;(with_reducible repeat (first|refine blk_drewN ?_ _|refine blk_drew ?_|refine blk_alloc ?_ _));refine blk_put (cs:=#[.int .i64 0,.int .i64 0,.int .i64 0,.string (⟨#[]⟩:ByteArray),.slice none 0 0,.slice none 0 0,.slice none 0 0]) ?_ 0 _ rfl;(with_reducible repeat (first|refine blk_drewN ?_ _|refine blk_drew ?_|refine blk_alloc ?_ _));exact BK533.out⟩,⟨by repeat (first|(with_reducible first|exact HB.out|apply below_alloc|apply pw_below_drewN|apply below_drew1|refine below_set ?_ GE517.out|refine below_set ?_ GE518.out|refine below_set ?_ GE533.out)|exact HB.out)⟩⟩
  case round =>
   clear H'
   try clear c1
   try clear p2
   try clear c3
   try clear c4
   try clear c4b0
   try clear c4b1
   try clear c8
   try clear c14
   try clear c15
   try clear hcz11_0
   try clear hcz11_1
   try clear hcz11_2
   try clear hcz11_3
   try clear hcz11_4
   try clear hcz11_5
   try clear hcz11_6
   try clear hcz16_0
   try clear hcz16_1
   try clear hcz16_2
   try clear hcz16_3
   try clear hcz16_4
   try clear hcz16_5
   try clear hcz16_6
   try clear hcz20_0
   try clear hcz20_1
   try clear hcz20_2
   try clear hcz20_3
   try clear hcz20_4
   try clear hcz20_5
   try clear hcz20_6
   try clear hcz9_0
   try clear hcz9_1
   try clear hcz9_2
   try clear hcz9_3
   try clear hcz9_4
   try clear hcz9_5
   try clear hcz9_6
   try clear hfz11_0
   try clear hfz11_1
   try clear hfz11_2
   try clear hfz11_3
   try clear hfz11_4
   try clear hfz11_5
   try clear hfz11_6
   try clear hfz16_0
   try clear hfz16_1
   try clear hfz16_2
   try clear hfz16_3
   try clear hfz16_4
   try clear hfz16_5
   try clear hfz16_6
   try clear hfz20_0
   try clear hfz20_1
   try clear hfz20_2
   try clear hfz20_3
   try clear hfz20_4
   try clear hfz20_5
   try clear hfz20_6
   try clear hfz9_0
   try clear hfz9_1
   try clear hfz9_2
   try clear hfz9_3
   try clear hfz9_4
   try clear hfz9_5
   try clear hfz9_6
   obtain ⟨x22_1,x534004_1,x534005_1,u534004,u534005,rfl,HA,HK1,HO_534004,HO_534005,HO_534006,BK517,BK518,BK533,HB⟩:=hrel
   cases gk with
   | zero=>exact absurd HA.out (by simp [latticeref07_Del.l0])
   | succ k1 =>
    have H:=HA.out
    clear HA
    simp only [latticeref07_Del.l0] at H
    by_cases c21:x22_1 < (l0_4.length:Int)
    ·rw [if_pos c21] at H
     have c21b0:decide (x22_1 < (l0_4.length:Int))=true:=decide_eq_true c21
     clear c21
     by_cases c22:0≤x22_1
     ·rw [if_pos c22] at H
      have c22b0:decide (0≤x22_1)=true:=decide_eq_true c22
      clear c22
      by_cases c23:x22_1 < (l0_4.length:Int)
      ·rw [if_pos c23] at H
       have c23b0:decide (x22_1 < (l0_4.length:Int))=true:=decide_eq_true c23
       clear c23
       by_cases c24:(rdOf ByteArray.empty l0_4 x22_1).toList=a1.toList
       ·rw [if_pos c24] at H
        have c24b0:((rdOf ByteArray.empty l0_4 x22_1).toList==a1.toList)=true:=beq_iff_eq.mpr c24
        have c24b1:((rdOf ByteArray.empty l0_4 x22_1).toList != a1.toList)=false:=bne_eq_false_iff_eq.mpr c24
        clear c24
        have H':=Aside0.mk H
        clear H
        have p534:0≤(x22_1:Int):=of_decide_eq_true (by first|(with_reducible assumption)|assumption)
        have q534:x22_1 < (l0_4.length:Int):=of_decide_eq_true (by first|(with_reducible assumption)|assumption)
        obtain ⟨ad534,e534,hx534_0⟩:=Kd.at_string HR0_4.out x22_1 p534 q534
        cases e534
        replace hx534_0:=(HB.out.cell (World.block_lt_of_cell? w _ hx534_0)).trans hx534_0
        replace p534:=eq_true p534
        replace q534:=eq_true q534
        go_wp2
        go_roundg k1
        case measure=>have:=HK1.out;omega
        case rel=>exact ⟨(wrap64 (x22_1+1)),(x534004_1),(x534005_1),(u534004),(u534005),(by first|rfl|(simp;done)|(simp [*];done)),H',⟨by have:=HK1.out;omega⟩,⟨by (with_reducible repeat (first|apply Kd.R_alloc|apply Kd.R_drewN|apply Kd.R_drew));exact HO_534004.out⟩,⟨by (with_reducible repeat (first|apply Kd.R_alloc|apply Kd.R_drewN|apply Kd.R_drew));exact HO_534005.out⟩,⟨by (with_reducible repeat (first|apply Kd.R_alloc|apply Kd.R_drewN|apply Kd.R_drew));exact HO_534006.out⟩,⟨by (with_reducible repeat (first|refine blk_drewN ?_ _|refine blk_drew ?_|refine blk_alloc ?_ _));exact BK517.out⟩,⟨by (with_reducible repeat (first|refine blk_drewN ?_ _|refine blk_drew ?_|refine blk_alloc ?_ _));exact BK518.out⟩,⟨by (with_reducible repeat (first|refine blk_drewN ?_ _|refine blk_drew ?_|refine blk_alloc ?_ _));exact BK533.out⟩,⟨by repeat (first|(with_reducible first|exact HB.out|apply below_alloc|apply pw_below_drewN|apply below_drew1|refine below_set ?_ GE517.out|refine below_set ?_ GE518.out|refine below_set ?_ GE533.out)|exact HB.out)⟩⟩
       ·rw [if_neg c24] at H
        have c24b0:((rdOf ByteArray.empty l0_4 x22_1).toList==a1.toList)=false:=beq_eq_false_iff_ne.mpr c24
        have c24b1:((rdOf ByteArray.empty l0_4 x22_1).toList != a1.toList)=true:=bne_iff_ne.mpr c24
        by_cases c25:x534004_1.length < 8796093022208
        ·rw [if_pos c25] at H
         have LMc25:=Aside0.mk c25
         clear c25
         obtain ⟨y535,hy535⟩:∃ y_:List ByteArray,y_=(x534004_1++[rdOf ByteArray.empty l0_4 x22_1]):=⟨_,rfl⟩
         replace H:(if x22_1 < (l0_5.length:Int) then (if x534005_1.length < 8796093022208 then (latticeref07_Del.l0 k1 a1 l0_4 (l0_4.length:Int) (wrap64 (x22_1+1)) a0_0 a0_1 a0_2 a0_3 l0_4 l0_5 l0_6 t520 t521 t522 t523 y535 (x534005_1++[rdOf ByteArray.empty l0_5 x22_1]) t530) else (none)) else (none))=some (r1,r2,r3,r4,r5,r6,r7,r8):=by first|(rw [hy535];with_reducible exact H)|(have H2_:=(Option.bind_some _ _).symm.trans H;rw [hy535];with_reducible exact H2_)|(have H2_:=(Option.bind_some _ _).symm.trans H;with_reducible exact H2_)|with_reducible exact H|(rw [hy535];exact H)|exact H
         have Ny535:=Aside0.mk hy535
         clear hy535
         by_cases c26:x22_1 < (l0_5.length:Int)
         ·rw [if_pos c26] at H
          have c26b0:decide (x22_1 < (l0_5.length:Int))=true:=decide_eq_true c26
          clear c26
          by_cases c27:x534005_1.length < 8796093022208
          ·rw [if_pos c27] at H
           have LMc27:=Aside0.mk c27
           clear c27
           obtain ⟨y539,hy539⟩:∃ y_:List ByteArray,y_=(x534005_1++[rdOf ByteArray.empty l0_5 x22_1]):=⟨_,rfl⟩
           replace H:(latticeref07_Del.l0 k1 a1 l0_4 (l0_4.length:Int) (wrap64 (x22_1+1)) a0_0 a0_1 a0_2 a0_3 l0_4 l0_5 l0_6 t520 t521 t522 t523 y535 y539 t530)=some (r1,r2,r3,r4,r5,r6,r7,r8):=by first|(rw [hy539];with_reducible exact H)|(have H2_:=(Option.bind_some _ _).symm.trans H;rw [hy539];with_reducible exact H2_)|(have H2_:=(Option.bind_some _ _).symm.trans H;with_reducible exact H2_)|with_reducible exact H|(rw [hy539];exact H)|exact H
           have Ny539:=Aside0.mk hy539
           clear hy539
           have H':=Aside0.mk H
           clear H
           have p534:0≤(x22_1:Int):=of_decide_eq_true (by first|(with_reducible assumption)|assumption)
           have q534:x22_1 < (l0_4.length:Int):=of_decide_eq_true (by first|(with_reducible assumption)|assumption)
           obtain ⟨ad534,e534,hx534_0⟩:=Kd.at_string HR0_4.out x22_1 p534 q534
           cases e534
           replace hx534_0:=(HB.out.cell (World.block_lt_of_cell? w _ hx534_0)).trans hx534_0
           replace p534:=eq_true p534
           replace q534:=eq_true q534
           have hnb28:=NB533_517.out
           have hnc28:=NB517_533.out
           have hnb29:=NB533_518.out
           have hnc29:=NB518_533.out
           have hcz30_0:wr.cell? ⟨gb533,0,none⟩=some (.int .i64 t520):=(blk_cell BK533.out 0).trans rfl
           have hcz30_1:wr.cell? ⟨gb533,1,none⟩=some (.int .i64 t521):=(blk_cell BK533.out 1).trans rfl
           have hcz30_2:wr.cell? ⟨gb533,2,none⟩=some (.int .i64 t522):=(blk_cell BK533.out 2).trans rfl
           have hcz30_3:wr.cell? ⟨gb533,3,none⟩=some (.string t523):=(blk_cell BK533.out 3).trans rfl
           have hcz30_4:wr.cell? ⟨gb533,4,none⟩=some (u534004):=(blk_cell BK533.out 4).trans rfl
           have hcz30_5:wr.cell? ⟨gb533,5,none⟩=some (u534005):=(blk_cell BK533.out 5).trans rfl
           have hcz30_6:wr.cell? ⟨gb533,6,none⟩=some (.slice Ao19 t530.length co19):=(blk_cell BK533.out 6).trans rfl
           have hfz30_0:=blk_frozen BK533.out 0
           have hfz30_1:=blk_frozen BK533.out 1
           have hfz30_2:=blk_frozen BK533.out 2
           have hfz30_3:=blk_frozen BK533.out 3
           have hfz30_4:=blk_frozen BK533.out 4
           have hfz30_5:=blk_frozen BK533.out 5
           have hfz30_6:=blk_frozen BK533.out 6
           try go_wp2_with (first|((with_reducible refine gate_builtin (b:=.append) (xs:=#[.tmp 31,.tmp 33]) rfl ?_);at_builtin;refine Kd.R_append Kd.string (w0:=w) w.heap.size rfl (.tmp 31) (.tmp 33) 22 9 (.string ⟨#[]⟩) 16 rfl Try.underlying22 info9 rfl (by decide) (by omega) u534004 x534004_1 (rdOf ByteArray.empty l0_4 x22_1) [.string (rdOf ByteArray.empty l0_4 x22_1)] (fun k_=>some k_≠(u534005:Value).ownBlock) (fun _=>False) rfl rfl ?aP (fun _ hk=>hk.elim) ?aF ?aO ?aB ?aS ?aL ?_;(case aP=>exact rfl);(case aB=>exact (by repeat (first|(with_reducible first|exact HB.out|apply below_alloc|apply pw_below_drewN|apply below_drew1|refine below_set ?_ GE517.out|refine below_set ?_ GE518.out|refine below_set ?_ GE533.out)|exact HB.out)));(case aF=>exact (fun k_ hk=>Kd.fresh' (Kd.R_lt (by (with_reducible repeat (first|apply Kd.R_alloc|apply Kd.R_drewN|apply Kd.R_drew));exact HO_534005.out)) k_ hk));(case aO=>exact (by (with_reducible repeat (first|apply Kd.R_alloc|apply Kd.R_drewN|apply Kd.R_drew));exact HO_534004.out));(case aS=>exact (below_size (by repeat (first|(with_reducible first|exact HB.out|apply below_alloc|apply pw_below_drewN|apply below_drew1|refine below_set ?_ GE517.out|refine below_set ?_ GE518.out|refine below_set ?_ GE533.out)|exact HB.out))));(case aL=>have:=LMc25.out;omega);intro v536 w31 ho hb hg hat;rw [← Ny535.out] at ho;have n0_:=Aside0.mk (Kd.R_after (ok:=(fun _=>True)) (by (with_reducible repeat (first|apply Kd.R_alloc|apply Kd.R_drewN|apply Kd.R_drew));exact Kd.R_mono HO_534005.out (fun _ hk=>⟨trivial,hk⟩)) hg hat);have n1_:=Aside0.mk (Kd.R_over' (by (with_reducible repeat (first|apply Kd.R_alloc|apply Kd.R_drewN|apply Kd.R_drew));exact HO_534006.out) (Kd.R_typed (by (with_reducible repeat (first|apply Kd.R_alloc|apply Kd.R_drewN|apply Kd.R_drew));exact HO_534004.out)) (by decide) hg);have n2_:=Aside0.mk (blk_grown (g:=gb517) (o:=.cells #[.int .i64 a0_0,.int .i64 a0_1,.int .i64 a0_2,.string a0_3,.slice (some ad534) l0_4.length c0_4,.slice A0_5 l0_5.length c0_5,.slice A0_6 l0_6.length c0_6] 25 (0,0)) (by (with_reducible repeat (first|refine blk_drewN ?_ _|refine blk_drew ?_|refine blk_alloc ?_ _));exact BK517.out) hg (Kd.R_ne HO_534004.out BK517.out (by decide)));have n3_:=Aside0.mk (blk_grown (g:=gb518) (o:=.cells #[.int .i64 0,.int .i64 0,.int .i64 0,.string (⟨#[]⟩:ByteArray),.slice none 0 0,.slice none 0 0,.slice none 0 0] 25 (0,0)) (by (with_reducible repeat (first|refine blk_drewN ?_ _|refine blk_drew ?_|refine blk_alloc ?_ _));exact BK518.out) hg (Kd.R_ne HO_534004.out BK518.out (by decide)));have n4_:=Aside0.mk (blk_grown (g:=gb533) (o:=.cells #[.int .i64 t520,.int .i64 t521,.int .i64 t522,.string t523,u534004,u534005,.slice Ao19 t530.length co19] 25 (0,0)) (by (with_reducible repeat (first|refine blk_drewN ?_ _|refine blk_drew ?_|refine blk_alloc ?_ _));exact BK533.out) hg (Kd.R_ne HO_534004.out BK533.out (by decide)));have n5_:=Aside0.mk (hb);have n6_:=Aside0.mk (ho);clear HO_534005;clear HO_534006;clear BK517;clear BK518;clear BK533;clear HB;clear HO_534004;have HO_534005:=n0_;have HO_534006:=n1_;have BK517:=n2_;have BK518:=n3_;have BK533:=n4_;have HB:=n5_;have HO537:=n6_;clear n0_ n1_ n2_ n3_ n4_ n5_ n6_;clear ho hb hg hat;obtain ⟨Ao32,co32,eo32⟩:=Kd.R_slice HO537.out;subst eo32;have hcz33_0:w31.cell? ⟨gb533,0,none⟩=some (.int .i64 t520):=(blk_cell BK533.out 0).trans rfl;have hcz33_1:w31.cell? ⟨gb533,1,none⟩=some (.int .i64 t521):=(blk_cell BK533.out 1).trans rfl;have hcz33_2:w31.cell? ⟨gb533,2,none⟩=some (.int .i64 t522):=(blk_cell BK533.out 2).trans rfl;have hcz33_3:w31.cell? ⟨gb533,3,none⟩=some (.string t523):=(blk_cell BK533.out 3).trans rfl;have hcz33_4:w31.cell? ⟨gb533,4,none⟩=some (u534004):=(blk_cell BK533.out 4).trans rfl;have hcz33_5:w31.cell? ⟨gb533,5,none⟩=some (u534005):=(blk_cell BK533.out 5).trans rfl;have hcz33_6:w31.cell? ⟨gb533,6,none⟩=some (.slice Ao19 t530.length co19):=(blk_cell BK533.out 6).trans rfl;have hfz33_0:=blk_frozen BK533.out 0;have hfz33_1:=blk_frozen BK533.out 1;have hfz33_2:=blk_frozen BK533.out 2;have hfz33_3:=blk_frozen BK533.out 3;have hfz33_4:=blk_frozen BK533.out 4;have hfz33_5:=blk_frozen BK533.out 5;have hfz33_6:=blk_frozen BK533.out 6))
           have n0_:Aside0 (Kd.R Kd.string 9 (w31.setCell ⟨gb533,4,none⟩ (.slice Ao32 y535.length co32)) w.heap.size (fun k_=>some k_≠(.slice Ao32 y535.length co32:Value).ownBlock) u534005 x534005_1):=⟨by (with_reducible repeat (first|apply Kd.R_alloc|apply Kd.R_drewN|apply Kd.R_drew));exact Kd.R_mono (Kd.R_far (p:=⟨gb533,4,none⟩) (Kd.R_types HO_534005.out BK533.out (by decide)) (fun _ hk=>hk.2) (.slice Ao32 y535.length co32)) (fun _ hk=>hk.1.2)⟩
           have n1_:Aside0 (Kd.R (Kd.int .i64) 3 (w31.setCell ⟨gb533,4,none⟩ (.slice Ao32 y535.length co32)) w.heap.size (fun _=>True) (.slice Ao19 t530.length co19) t530):=⟨by (with_reducible repeat (first|apply Kd.R_alloc|apply Kd.R_drewN|apply Kd.R_drew));exact Kd.R_mono (Kd.R_far (p:=⟨gb533,4,none⟩) (Kd.R_types HO_534006.out BK533.out (by decide)) (fun _ hk=>hk.2) (.slice Ao32 y535.length co32)) (fun _ hk=>trivial)⟩
           have n2_:Aside0 (Kd.R Kd.string 9 (w31.setCell ⟨gb533,4,none⟩ (.slice Ao32 y535.length co32)) w.heap.size (fun k_=>some k_≠(u534005:Value).ownBlock) (.slice Ao32 y535.length co32) y535):=⟨by (with_reducible repeat (first|apply Kd.R_alloc|apply Kd.R_drewN|apply Kd.R_drew));exact Kd.R_mono (Kd.R_far (p:=⟨gb533,4,none⟩) (Kd.R_types HO537.out BK533.out (by decide)) (fun _ hk=>hk.2) (.slice Ao32 y535.length co32)) (fun _ hk=>hk.1)⟩
           have n3_:Aside0 ((w31.setCell ⟨gb533,4,none⟩ (.slice Ao32 y535.length co32)).heap[gb517]?=some (.cells #[.int .i64 a0_0,.int .i64 a0_1,.int .i64 a0_2,.string a0_3,.slice (some ad534) l0_4.length c0_4,.slice A0_5 l0_5.length c0_5,.slice A0_6 l0_6.length c0_6] 25 (0,0))):=⟨by (with_reducible repeat (first|refine blk_drewN ?_ _|refine blk_drew ?_|refine blk_alloc ?_ _));refine blk_far ?_ NB517_533.out _;(with_reducible repeat (first|refine blk_drewN ?_ _|refine blk_drew ?_|refine blk_alloc ?_ _));exact BK517.out⟩
           have n4_:Aside0 ((w31.setCell ⟨gb533,4,none⟩ (.slice Ao32 y535.length co32)).heap[gb518]?=some (.cells #[.int .i64 0,.int .i64 0,.int .i64 0,.string (⟨#[]⟩:ByteArray),.slice none 0 0,.slice none 0 0,.slice none 0 0] 25 (0,0))):=⟨by (with_reducible repeat (first|refine blk_drewN ?_ _|refine blk_drew ?_|refine blk_alloc ?_ _));refine blk_far ?_ NB518_533.out _;(with_reducible repeat (first|refine blk_drewN ?_ _|refine blk_drew ?_|refine blk_alloc ?_ _));exact BK518.out⟩
           have n5_:Aside0 ((w31.setCell ⟨gb533,4,none⟩ (.slice Ao32 y535.length co32)).heap[gb533]?=some (.cells #[.int .i64 t520,.int .i64 t521,.int .i64 t522,.string t523,.slice Ao32 y535.length co32,u534005,.slice Ao19 t530.length co19] 25 (0,0))):=⟨by (with_reducible repeat (first|refine blk_drewN ?_ _|refine blk_drew ?_|refine blk_alloc ?_ _));refine blk_put (cs:=#[.int .i64 t520,.int .i64 t521,.int .i64 t522,.string t523,u534004,u534005,.slice Ao19 t530.length co19]) ?_ 4 _ rfl;(with_reducible repeat (first|refine blk_drewN ?_ _|refine blk_drew ?_|refine blk_alloc ?_ _));exact BK533.out⟩
           have n6_:Aside0 (Below w.heap.size w (w31.setCell ⟨gb533,4,none⟩ (.slice Ao32 y535.length co32))):=⟨by repeat (first|(with_reducible first|exact HB.out|apply below_alloc|apply pw_below_drewN|apply below_drew1|refine below_set ?_ GE517.out|refine below_set ?_ GE518.out|refine below_set ?_ GE533.out)|exact HB.out)⟩
           (try clear HO_534005)
           (try clear HO_534006)
           (try clear HO537)
           (try clear BK517)
           (try clear BK518)
           (try clear BK533)
           (try clear HB)
           generalize (w31.setCell ⟨gb533,4,none⟩ (.slice Ao32 y535.length co32))=w34 at n0_ n1_ n2_ n3_ n4_ n5_ n6_ ⊢
           have HO_534005:=n0_
           have HO_534006:=n1_
           have HO537:=n2_
           have BK517:=n3_
           have BK518:=n4_
           have BK533:=n5_
           have HB:=n6_
           clear n0_ n1_ n2_ n3_ n4_ n5_ n6_
           have n0_:=Aside0.mk (Kd.R_drew HO_534005.out)
           have n1_:=Aside0.mk (Kd.R_drew HO_534006.out)
           have n2_:=Aside0.mk (Kd.R_drew HO537.out)
           have n3_:=Aside0.mk (blk_drew BK517.out)
           have n4_:=Aside0.mk (blk_drew BK518.out)
           have n5_:=Aside0.mk (blk_drew BK533.out)
           have n6_:=Aside0.mk (below_drew1 HB.out)
           clear HO_534005
           clear HO_534006
           clear HO537
           clear BK517
           clear BK518
           clear BK533
           clear HB
           have HO_534005:=n0_
           have HO_534006:=n1_
           have HO537:=n2_
           have BK517:=n3_
           have BK518:=n4_
           have BK533:=n5_
           have HB:=n6_
           clear n0_ n1_ n2_ n3_ n4_ n5_ n6_
           have p538:0≤(x22_1:Int):=of_decide_eq_true (by first|(with_reducible assumption)|assumption)
           have q538:x22_1 < (l0_5.length:Int):=of_decide_eq_true (by first|(with_reducible assumption)|assumption)
           obtain ⟨ad538,e538,hx538_0⟩:=Kd.at_string HR0_5.out x22_1 p538 q538
           have hw538_0:=hx538_0
           cases e538
           replace hx538_0:=(HB.out.cell (World.block_lt_of_cell? w _ hx538_0)).trans hx538_0
           replace p538:=eq_true p538
           replace q538:=eq_true q538
           refine start_ (n:=11) (S:=fun w'=>w'.cell? ⟨gb533,0,none⟩=some (.int .i64 t520)∧w'.cell? ⟨gb533,1,none⟩=some (.int .i64 t521)∧w'.cell? ⟨gb533,2,none⟩=some (.int .i64 t522)∧w'.cell? ⟨gb533,3,none⟩=some (.string t523)∧w'.cell? ⟨gb533,4,none⟩=some (.slice Ao32 y535.length co32)∧w'.cell? ⟨gb533,5,none⟩=some (u534005)∧w'.cell? ⟨gb533,6,none⟩=some (.slice Ao19 t530.length co19)∧w'.cell? ⟨gb517,0,none⟩=some (.int .i64 a0_0)∧w'.cell? ⟨gb517,1,none⟩=some (.int .i64 a0_1)∧w'.cell? ⟨gb517,2,none⟩=some (.int .i64 a0_2)∧w'.cell? ⟨gb517,3,none⟩=some (.string a0_3)∧w'.cell? ⟨gb517,4,none⟩=some (.slice (some ad534) l0_4.length c0_4)∧w'.cell? ⟨gb517,5,none⟩=some (.slice (some ad538) l0_5.length c0_5)∧w'.cell? ⟨gb517,6,none⟩=some (.slice A0_6 l0_6.length c0_6)∧w'.cell? (ad538.add (x22_1).toNat)=some (.string (rdOf ByteArray.empty l0_5 x22_1))) (ds:=[10]) #[false,false,false,false,false,false,false,false,false,false,false] (by kernel_rfl) rfl rfl ⟨(blk_cell BK533.out 0).trans rfl,(blk_cell BK533.out 1).trans rfl,(blk_cell BK533.out 2).trans rfl,(blk_cell BK533.out 3).trans rfl,(blk_cell BK533.out 4).trans rfl,(blk_cell BK533.out 5).trans rfl,(blk_cell BK533.out 6).trans rfl,(blk_cell BK517.out 0).trans rfl,(blk_cell BK517.out 1).trans rfl,(blk_cell BK517.out 2).trans rfl,(blk_cell BK517.out 3).trans rfl,(blk_cell BK517.out 4).trans rfl,(blk_cell BK517.out 5).trans rfl,(blk_cell BK517.out 6).trans rfl,((HB.out.cell (World.block_lt_of_cell? w _ hw538_0)).trans hw538_0)⟩ (fun hHeld=>?_);refine with_tabW latticeref07_Del.tab10 latticeref07_Del.bits10 (fun HT_ HW_=>?_)
           generalize w34.drew=w35 at HO_534005 HO_534006 HO537 BK517 BK518 BK533 HB hx538_0 hHeld ⊢
           refine pure_ (i:=0) (N:=some 36) (v:=?_) (a':=?_) #[true,false,false,false,false,false,false,false,false,false,false] rfl rfl (any_of HT_.out (by kernel_rfl)) (fun _ _ _ h=>h) (Or.inl ⟨by rfl,?_⟩) ?_ ?_
           rotate_left
           ·intro w'
            go_simp
            with_reducible rfl
           rotate_left
           ·simp only [Act.put,List.setIfInBounds_toArray,List.set_cons_zero,List.set_cons_succ,i64_w,i32_w]
            rfl
           refine pure_ (i:=2) (N:=some 38) (v:=?_) (a':=?_) #[true,false,true,false,false,false,false,false,false,false,false] rfl rfl (any_of HT_.out (by kernel_rfl)) (fun _ _ _ h=>h) (Or.inl ⟨by rfl,?_⟩) ?_ ?_
           rotate_left
           ·intro w'
            go_simp
            with_reducible rfl
           rotate_left
           ·simp only [Act.put,List.setIfInBounds_toArray,List.set_cons_zero,List.set_cons_succ,i64_w,i32_w]
            rfl
           refine pure_ (i:=4) (N:=some 40) (v:=?_) (a':=?_) #[true,false,true,false,true,false,false,false,false,false,false] rfl rfl (any_of HT_.out (by kernel_rfl)) (fun _ _ _ h=>h) (Or.inl ⟨by rfl,?_⟩) ?_ ?_
           rotate_left
           ·intro w'
            go_simp
            with_reducible rfl
           rotate_left
           ·simp only [Act.put,List.setIfInBounds_toArray,List.set_cons_zero,List.set_cons_succ,i64_w,i32_w]
            rfl
           refine take_ (i:=1) (N:=some 37) (v:=?_) (a':=?_) #[true,true,true,false,true,false,false,false,false,false,false] rfl rfl (take_ofW HT_.out HW_.out (by kernel_rfl)) (fun _ _ _ h=>h) (Or.inl ⟨by rfl,?_⟩) hHeld ?_ ?_
           rotate_left
           ·rintro w' ⟨s0,s1,s2,s3,s4,s5,s6,s7,s8,s9,s10,s11,s12,s13,s14⟩
            go_simp
            with_reducible rfl
           rotate_left
           ·simp only [Act.put,List.setIfInBounds_toArray,List.set_cons_zero,List.set_cons_succ,i64_w,i32_w]
            rfl
           refine take_ (i:=3) (N:=some 39) (v:=?_) (a':=?_) #[true,true,true,true,true,false,false,false,false,false,false] rfl rfl (take_ofW HT_.out HW_.out (by kernel_rfl)) (fun _ _ _ h=>h) (Or.inl ⟨by rfl,?_⟩) hHeld ?_ ?_
           rotate_left
           ·rintro w' ⟨s0,s1,s2,s3,s4,s5,s6,s7,s8,s9,s10,s11,s12,s13,s14⟩
            go_simp
            with_reducible rfl
           rotate_left
           ·simp only [Act.put,List.setIfInBounds_toArray,List.set_cons_zero,List.set_cons_succ,i64_w,i32_w]
            rfl
           refine pure_ (i:=5) (N:=some 41) (v:=?_) (a':=?_) #[true,true,true,true,true,true,false,false,false,false,false] rfl rfl (any_of HT_.out (by kernel_rfl)) (fun _ _ _ h=>h) (Or.inl ⟨by rfl,?_⟩) ?_ ?_
           rotate_left
           ·intro w'
            go_simp
            with_reducible rfl
           rotate_left
           ·simp only [Act.put,List.setIfInBounds_toArray,List.set_cons_zero,List.set_cons_succ,i64_w,i32_w]
            rfl
           refine take_ (i:=6) (N:=some 42) (v:=?_) (a':=?_) #[true,true,true,true,true,true,true,false,false,false,false] rfl rfl (take_ofW HT_.out HW_.out (by kernel_rfl)) (fun _ _ _ h=>h) (Or.inl ⟨by rfl,?_⟩) hHeld ?_ ?_
           rotate_left
           ·rintro w' ⟨s0,s1,s2,s3,s4,s5,s6,s7,s8,s9,s10,s11,s12,s13,s14⟩
            go_simp
            with_reducible rfl
           rotate_left
           ·simp only [Act.put,List.setIfInBounds_toArray,List.set_cons_zero,List.set_cons_succ,i64_w,i32_w]
            rfl
           refine one_ (i:=7) (N:=some 43) #[true,true,true,true,true,true,true,true,false,false,false] rfl rfl (one_of HT_.out (by kernel_rfl)) (by decide) (fun K hK=>?_)
           refine value_ (w1:=?_) (v:=?_) (by rfl) rfl ?_ ?_
           rotate_left 2
           ·go_simp
            constructor
            ·rfl
            ·rfl
           refine hK.out _ _ ⟨(blk_cell (blk_alloc BK533.out _) 0).trans rfl,(blk_cell (blk_alloc BK533.out _) 1).trans rfl,(blk_cell (blk_alloc BK533.out _) 2).trans rfl,(blk_cell (blk_alloc BK533.out _) 3).trans rfl,(blk_cell (blk_alloc BK533.out _) 4).trans rfl,(blk_cell (blk_alloc BK533.out _) 5).trans rfl,(blk_cell (blk_alloc BK533.out _) 6).trans rfl,(blk_cell (blk_alloc BK517.out _) 0).trans rfl,(blk_cell (blk_alloc BK517.out _) 1).trans rfl,(blk_cell (blk_alloc BK517.out _) 2).trans rfl,(blk_cell (blk_alloc BK517.out _) 3).trans rfl,(blk_cell (blk_alloc BK517.out _) 4).trans rfl,(blk_cell (blk_alloc BK517.out _) 5).trans rfl,(blk_cell (blk_alloc BK517.out _) 6).trans rfl,(World.cell?_alloc_lt _ _ _ (World.block_lt_of_cell? _ _ (((HB.out.cell (World.block_lt_of_cell? w _ hw538_0)).trans hw538_0)))).trans (((HB.out.cell (World.block_lt_of_cell? w _ hw538_0)).trans hw538_0))⟩ (fun hHeld=>?_)
           clear hK K
           refine norm_ (a':=?_) ?_ ?_
           rotate_left
           ·show Act.put _ (some 43) _=_
            simp only [Act.put,List.setIfInBounds_toArray,List.set_cons_zero,List.set_cons_succ,i64_w,i32_w]
            rfl
           refine one_ (i:=8) (N:=some 44) #[true,true,true,true,true,true,true,true,true,false,false] rfl rfl (one_of HT_.out (by kernel_rfl)) (by decide) (fun K hK=>?_)
           refine Kd.R_append_step Kd.string (w0:=w) w.heap.size (by rfl) (.tmp 37) (.tmp 43) 22 9 (.string ⟨#[]⟩) 16 rfl Try.underlying22 info9 rfl (by decide) (by omega) u534005 x534005_1 (rdOf ByteArray.empty l0_5 x22_1) [.string (rdOf ByteArray.empty l0_5 x22_1)] (fun k_=>some k_≠(.slice Ao32 y535.length co32:Value).ownBlock) (fun _=>False) rfl rfl ?aP (fun _ hk=>hk.elim) ?aF ?aO ?aB ?aS ?aL ?_
           (case aP=>exact rfl)
           (case aB=>exact (by repeat (first|(with_reducible first|exact HB.out|apply below_alloc|apply pw_below_drewN|apply below_drew1|refine below_set ?_ GE517.out|refine below_set ?_ GE518.out|refine below_set ?_ GE533.out)|exact HB.out)))
           (case aF=>exact (fun k_ hk=>Kd.fresh' (Kd.R_lt (by (with_reducible repeat (first|apply Kd.R_alloc|apply Kd.R_drewN|apply Kd.R_drew));exact HO537.out)) k_ hk))
           (case aO=>exact (by (with_reducible repeat (first|apply Kd.R_alloc|apply Kd.R_drewN|apply Kd.R_drew));exact HO_534005.out))
           (case aS=>exact (below_size (by repeat (first|(with_reducible first|exact HB.out|apply below_alloc|apply pw_below_drewN|apply below_drew1|refine below_set ?_ GE517.out|refine below_set ?_ GE518.out|refine below_set ?_ GE533.out)|exact HB.out))))
           (case aL=>have:=LMc27.out;omega)
           intro v540 w36 ho hb hg hat
           rw [← Ny539.out] at ho
           have n0_:=Aside0.mk (Kd.R_over' (by (with_reducible repeat (first|apply Kd.R_alloc|apply Kd.R_drewN|apply Kd.R_drew));exact HO_534006.out) (Kd.R_typed (by (with_reducible repeat (first|apply Kd.R_alloc|apply Kd.R_drewN|apply Kd.R_drew));exact HO_534005.out)) (by decide) hg)
           have n1_:=Aside0.mk (blk_grown (g:=gb517) (o:=.cells #[.int .i64 a0_0,.int .i64 a0_1,.int .i64 a0_2,.string a0_3,.slice (some ad534) l0_4.length c0_4,.slice (some ad538) l0_5.length c0_5,.slice A0_6 l0_6.length c0_6] 25 (0,0)) (by (with_reducible repeat (first|refine blk_drewN ?_ _|refine blk_drew ?_|refine blk_alloc ?_ _));exact BK517.out) hg (Kd.R_ne HO_534005.out BK517.out (by decide)))
           have n2_:=Aside0.mk (blk_grown (g:=gb518) (o:=.cells #[.int .i64 0,.int .i64 0,.int .i64 0,.string (⟨#[]⟩:ByteArray),.slice none 0 0,.slice none 0 0,.slice none 0 0] 25 (0,0)) (by (with_reducible repeat (first|refine blk_drewN ?_ _|refine blk_drew ?_|refine blk_alloc ?_ _));exact BK518.out) hg (Kd.R_ne HO_534005.out BK518.out (by decide)))
           have n3_:=Aside0.mk (blk_grown (g:=gb533) (o:=.cells #[.int .i64 t520,.int .i64 t521,.int .i64 t522,.string t523,.slice Ao32 y535.length co32,u534005,.slice Ao19 t530.length co19] 25 (0,0)) (by (with_reducible repeat (first|refine blk_drewN ?_ _|refine blk_drew ?_|refine blk_alloc ?_ _));exact BK533.out) hg (Kd.R_ne HO_534005.out BK533.out (by decide)))
           have n4_:=Aside0.mk (Kd.R_after (ok:=(fun _=>True)) (by (with_reducible repeat (first|apply Kd.R_alloc|apply Kd.R_drewN|apply Kd.R_drew));exact Kd.R_mono HO537.out (fun _ hk=>⟨trivial,hk⟩)) hg hat)
           have n5_:=Aside0.mk (hb)
           have n6_:=Aside0.mk (ho)
           clear HO_534006
           clear BK517
           clear BK518
           clear BK533
           clear HO537
           clear HB
           clear HO_534005
           have HO_534006:=n0_
           have BK517:=n1_
           have BK518:=n2_
           have BK533:=n3_
           have HO537:=n4_
           have HB:=n5_
           have HO541:=n6_
           clear n0_ n1_ n2_ n3_ n4_ n5_ n6_
           clear ho hb hg hat
           obtain ⟨Ao37,co37,eo37⟩:=Kd.R_slice HO541.out
           (first|subst eo37|(injection eo37 with f1_ f2_ f3_;have f4_:=f1_.symm;have f5_:=f3_.symm;clear f1_ f2_ f3_;subst f4_;subst f5_))
           refine hK.out _ _ ⟨(blk_cell BK533.out 0).trans rfl,(blk_cell BK533.out 1).trans rfl,(blk_cell BK533.out 2).trans rfl,(blk_cell BK533.out 3).trans rfl,(blk_cell BK533.out 4).trans rfl,(blk_cell BK533.out 5).trans rfl,(blk_cell BK533.out 6).trans rfl,(blk_cell BK517.out 0).trans rfl,(blk_cell BK517.out 1).trans rfl,(blk_cell BK517.out 2).trans rfl,(blk_cell BK517.out 3).trans rfl,(blk_cell BK517.out 4).trans rfl,(blk_cell BK517.out 5).trans rfl,(blk_cell BK517.out 6).trans rfl,((HB.out.cell (World.block_lt_of_cell? w _ hw538_0)).trans hw538_0)⟩ (fun hHeld=>?_)
           clear hK K
           refine norm_ (a':=?_) ?_ ?_
           rotate_left
           ·show Act.put _ (some 44) _=_
            simp only [Act.put,List.setIfInBounds_toArray,List.set_cons_zero,List.set_cons_succ,i64_w,i32_w]
            rfl
           refine pure_ (i:=9) (N:=some 45) (v:=?_) (a':=?_) #[true,true,true,true,true,true,true,true,true,true,false] rfl rfl (any_of HT_.out (by kernel_rfl)) (fun _ _ _ h=>h) (Or.inl ⟨by rfl,?_⟩) ?_ ?_
           rotate_left
           ·intro w'
            go_simp
            with_reducible rfl
           rotate_left
           ·simp only [Act.put,List.setIfInBounds_toArray,List.set_cons_zero,List.set_cons_succ,i64_w,i32_w]
            rfl
           refine last_ (i:=10) (N:=none) #[true,true,true,true,true,true,true,true,true,true,true] rfl rfl (one_of HT_.out (by kernel_rfl)) (by decide) (fun K hK=>?_)
           have hs38:w36.cell? ⟨gb533,5,none⟩=some (u534005):=(blk_cell BK533.out 5).trans rfl
           have hfs38:=blk_frozen BK533.out 5
           have hns38_0:=NB517_533.out
           have hns38_1:=NB518_533.out
           have hms38_0:=NB533_517.out
           have hms38_1:=NB533_518.out
           refine skip_ (w1:=?_) (by rfl) rfl ?_ ?_
           rotate_left
           ·go_simp
            rfl
           refine hK.out _ _ ?_
           clear hK K
           refine done_ (done_of HT_.out (by kernel_rfl)) ?_
           try go_wp2
           go_roundg k1
           case measure=>have:=HK1.out;omega
           case rel=>exact ⟨(wrap64 (x22_1+1)),(y535),(y539),(.slice Ao32 y535.length co32),(.slice Ao37 y539.length co37),(by first|rfl|(simp;done)|(simp [*];done)),H',⟨by have:=HK1.out;omega⟩,⟨by (with_reducible repeat (first|apply Kd.R_alloc|apply Kd.R_drewN|apply Kd.R_drew));exact Kd.R_mono (Kd.R_far (p:=⟨gb533,5,none⟩) (Kd.R_types HO537.out BK533.out (by decide)) (fun _ hk=>hk.2) (.slice Ao37 y539.length co37)) (fun _ hk=>hk.1.2)⟩,⟨by (with_reducible repeat (first|apply Kd.R_alloc|apply Kd.R_drewN|apply Kd.R_drew));exact Kd.R_mono (Kd.R_far (p:=⟨gb533,5,none⟩) (Kd.R_types HO541.out BK533.out (by decide)) (fun _ hk=>hk.2) (.slice Ao37 y539.length co37)) (fun _ hk=>hk.1)⟩,⟨by (with_reducible repeat (first|apply Kd.R_alloc|apply Kd.R_drewN|apply Kd.R_drew));exact Kd.R_mono (Kd.R_far (p:=⟨gb533,5,none⟩) (Kd.R_types HO_534006.out BK533.out (by decide)) (fun _ hk=>hk.2) (.slice Ao37 y539.length co37)) (fun _ hk=>trivial)⟩,⟨by (with_reducible repeat (first|refine blk_drewN ?_ _|refine blk_drew ?_|refine blk_alloc ?_ _));refine blk_far ?_ NB517_533.out _;(with_reducible repeat (first|refine blk_drewN ?_ _|refine blk_drew ?_|refine blk_alloc ?_ _));exact BK517.out⟩,⟨by (with_reducible repeat (first|refine blk_drewN ?_ _|refine blk_drew ?_|refine blk_alloc ?_ _));refine blk_far ?_ NB518_533.out _;(with_reducible repeat (first|refine blk_drewN ?_ _|refine blk_drew ?_|refine blk_alloc ?_ _));exact BK518.out⟩,⟨by (with_reducible repeat (first|refine blk_drewN ?_ _|refine blk_drew ?_|refine blk_alloc ?_ _));refine blk_put (cs:=#[.int .i64 t520,.int .i64 t521,.int .i64 t522,.string t523,.slice Ao32 y535.length co32,u534005,.slice Ao19 t530.length co19]) ?_ 5 _ rfl;(with_reducible repeat (first|refine blk_drewN ?_ _|refine blk_drew ?_|refine blk_alloc ?_ _));exact BK533.out⟩,⟨by repeat (first|(with_reducible first|exact HB.out|apply below_alloc|apply pw_below_drewN|apply below_drew1|refine below_set ?_ GE517.out|refine below_set ?_ GE518.out|refine below_set ?_ GE533.out)|exact HB.out)⟩⟩
          ·rw [if_neg c27] at H
           exact absurd H (by simp)
         ·rw [if_neg c26] at H
          exact absurd H (by simp)
        ·rw [if_neg c25] at H
         exact absurd H (by simp)
      ·rw [if_neg c23] at H
       exact absurd H (by simp)
     ·rw [if_neg c22] at H
      exact absurd H (by simp)
    ·rw [if_neg c21] at H
     have c21b0:decide (x22_1 < (l0_4.length:Int))=false:=decide_eq_false c21
     clear c21
     simp only [Option.some.injEq,Prod.mk.injEq] at H
     obtain ⟨rfl,rfl,rfl,rfl,rfl,rfl,rfl,rfl⟩:=H
     have hnb39:=NB533_517.out
     have hnc39:=NB517_533.out
     have hnb40:=NB533_518.out
     have hnc40:=NB518_533.out
     have hcz41_0:wr.cell? ⟨gb533,0,none⟩=some (.int .i64 t520):=(blk_cell BK533.out 0).trans rfl
     have hcz41_1:wr.cell? ⟨gb533,1,none⟩=some (.int .i64 t521):=(blk_cell BK533.out 1).trans rfl
     have hcz41_2:wr.cell? ⟨gb533,2,none⟩=some (.int .i64 t522):=(blk_cell BK533.out 2).trans rfl
     have hcz41_3:wr.cell? ⟨gb533,3,none⟩=some (.string t523):=(blk_cell BK533.out 3).trans rfl
     have hcz41_4:wr.cell? ⟨gb533,4,none⟩=some (u534004):=(blk_cell BK533.out 4).trans rfl
     have hcz41_5:wr.cell? ⟨gb533,5,none⟩=some (u534005):=(blk_cell BK533.out 5).trans rfl
     have hcz41_6:wr.cell? ⟨gb533,6,none⟩=some (.slice Ao19 t530.length co19):=(blk_cell BK533.out 6).trans rfl
     have hfz41_0:=blk_frozen BK533.out 0
     have hfz41_1:=blk_frozen BK533.out 1
     have hfz41_2:=blk_frozen BK533.out 2
     have hfz41_3:=blk_frozen BK533.out 3
     have hfz41_4:=blk_frozen BK533.out 4
     have hfz41_5:=blk_frozen BK533.out 5
     have hfz41_6:=blk_frozen BK533.out 6
     have hnb42:=NB518_517.out
     have hnc42:=NB517_518.out
     have hcz43_0:wr.cell? ⟨gb518,0,none⟩=some (.int .i64 0):=(blk_cell BK518.out 0).trans rfl
     have hcz43_1:wr.cell? ⟨gb518,1,none⟩=some (.int .i64 0):=(blk_cell BK518.out 1).trans rfl
     have hcz43_2:wr.cell? ⟨gb518,2,none⟩=some (.int .i64 0):=(blk_cell BK518.out 2).trans rfl
     have hcz43_3:wr.cell? ⟨gb518,3,none⟩=some (.string (⟨#[]⟩:ByteArray)):=(blk_cell BK518.out 3).trans rfl
     have hcz43_4:wr.cell? ⟨gb518,4,none⟩=some (.slice none 0 0):=(blk_cell BK518.out 4).trans rfl
     have hcz43_5:wr.cell? ⟨gb518,5,none⟩=some (.slice none 0 0):=(blk_cell BK518.out 5).trans rfl
     have hcz43_6:wr.cell? ⟨gb518,6,none⟩=some (.slice none 0 0):=(blk_cell BK518.out 6).trans rfl
     have hfz43_0:=blk_frozen BK518.out 0
     have hfz43_1:=blk_frozen BK518.out 1
     have hfz43_2:=blk_frozen BK518.out 2
     have hfz43_3:=blk_frozen BK518.out 3
     have hfz43_4:=blk_frozen BK518.out 4
     have hfz43_5:=blk_frozen BK518.out 5
     have hfz43_6:=blk_frozen BK518.out 6
     obtain ⟨Ao44,co44,eo44⟩:=Kd.R_slice HO_534004.out
     subst eo44
     obtain ⟨Ao45,co45,eo45⟩:=Kd.R_slice HO_534005.out
     subst eo45
     go_wp2
     refine bodyPost_ret (results_ct rfl _ _ gb518 25 #[.int .i64 t520,.int .i64 t521,.int .i64 t522,.string t523,.slice Ao44 x534004_1.length co44,.slice Ao45 x534005_1.length co45,.slice Ao19 t530.length co19] (0,0) _ rfl (by (with_reducible repeat (first|refine blk_drewN ?_ _|refine blk_drew ?_|refine blk_alloc ?_ _));refine blk_put (cs:=#[.int .i64 t520,.int .i64 t521,.int .i64 t522,.string t523,.slice Ao44 x534004_1.length co44,.slice Ao45 x534005_1.length co45,.slice none 0 0]) ?_ 6 _ rfl;(with_reducible repeat (first|refine blk_drewN ?_ _|refine blk_drew ?_|refine blk_alloc ?_ _));refine blk_put (cs:=#[.int .i64 t520,.int .i64 t521,.int .i64 t522,.string t523,.slice Ao44 x534004_1.length co44,.slice none 0 0,.slice none 0 0]) ?_ 5 _ rfl;(with_reducible repeat (first|refine blk_drewN ?_ _|refine blk_drew ?_|refine blk_alloc ?_ _));refine blk_put (cs:=#[.int .i64 t520,.int .i64 t521,.int .i64 t522,.string t523,.slice none 0 0,.slice none 0 0,.slice none 0 0]) ?_ 4 _ rfl;(with_reducible repeat (first|refine blk_drewN ?_ _|refine blk_drew ?_|refine blk_alloc ?_ _));refine blk_put (cs:=#[.int .i64 t520,.int .i64 t521,.int .i64 t522,.string (⟨#[]⟩:ByteArray),.slice none 0 0,.slice none 0 0,.slice none 0 0]) ?_ 3 _ rfl;(with_reducible repeat (first|refine blk_drewN ?_ _|refine blk_drew ?_|refine blk_alloc ?_ _));refine blk_put (cs:=#[.int .i64 t520,.int .i64 t521,.int .i64 0,.string (⟨#[]⟩:ByteArray),.slice none 0 0,.slice none 0 0,.slice none 0 0]) ?_ 2 _ rfl;(with_reducible repeat (first|refine blk_drewN ?_ _|refine blk_drew ?_|refine blk_alloc ?_ _));refine blk_put (cs:=#[.int .i64 t520,.int .i64 0,.int .i64 0,.string (⟨#[]⟩:ByteArray),.slice none 0 0,.slice none 0 0,.slice none 0 0]) ?_ 1 _ rfl;(with_reducible repeat (first|refine blk_drewN ?_ _|refine blk_drew ?_|refine blk_alloc ?_ _));refine blk_put (cs:=#[.int .i64 0,.int .i64 0,.int .i64 0,.string (⟨#[]⟩:ByteArray),.slice none 0 0,.slice none 0 0,.slice none 0 0]) ?_ 0 _ rfl;(with_reducible repeat (first|refine blk_drewN ?_ _|refine blk_drew ?_|refine blk_alloc ?_ _));exact BK518.out) Try.underlying25 rfl (by kernel_rfl)) rfl ?_
     exact ⟨_,_,_,by first|rfl|(simp [errW_none,errW_some] <;> rfl)|(simp [*,errW_none,errW_some] <;> rfl),by (with_reducible repeat (first|apply Kd.R_alloc|apply Kd.R_drewN|apply Kd.R_drew));exact Kd.R_mono (Kd.R_far (p:=⟨gb518,6,none⟩) (Kd.R_far (p:=⟨gb518,5,none⟩) (Kd.R_far (p:=⟨gb518,4,none⟩) (Kd.R_far (p:=⟨gb518,3,none⟩) (Kd.R_far (p:=⟨gb518,2,none⟩) (Kd.R_far (p:=⟨gb518,1,none⟩) (Kd.R_far (p:=⟨gb518,0,none⟩) (Kd.R_types HO_534004.out BK518.out (by decide)) (fun _ hk=>hk.2) (.int .i64 t520)) (fun _ hk=>hk.2) (.int .i64 t521)) (fun _ hk=>hk.2) (.int .i64 t522)) (fun _ hk=>hk.2) (.string t523)) (fun _ hk=>hk.2) (.slice Ao44 x534004_1.length co44)) (fun _ hk=>hk.2) (.slice Ao45 x534005_1.length co45)) (fun _ hk=>hk.2) (.slice Ao19 t530.length co19)) (fun _ hk=>hk.1),by (with_reducible repeat (first|apply Kd.R_alloc|apply Kd.R_drewN|apply Kd.R_drew));exact Kd.R_mono (Kd.R_far (p:=⟨gb518,6,none⟩) (Kd.R_far (p:=⟨gb518,5,none⟩) (Kd.R_far (p:=⟨gb518,4,none⟩) (Kd.R_far (p:=⟨gb518,3,none⟩) (Kd.R_far (p:=⟨gb518,2,none⟩) (Kd.R_far (p:=⟨gb518,1,none⟩) (Kd.R_far (p:=⟨gb518,0,none⟩) (Kd.R_types HO_534005.out BK518.out (by decide)) (fun _ hk=>hk.2) (.int .i64 t520)) (fun _ hk=>hk.2) (.int .i64 t521)) (fun _ hk=>hk.2) (.int .i64 t522)) (fun _ hk=>hk.2) (.string t523)) (fun _ hk=>hk.2) (.slice Ao44 x534004_1.length co44)) (fun _ hk=>hk.2) (.slice Ao45 x534005_1.length co45)) (fun _ hk=>hk.2) (.slice Ao19 t530.length co19)) (fun _ hk=>hk.1),by (with_reducible repeat (first|apply Kd.R_alloc|apply Kd.R_drewN|apply Kd.R_drew));exact Kd.R_mono (Kd.R_far (p:=⟨gb518,6,none⟩) (Kd.R_far (p:=⟨gb518,5,none⟩) (Kd.R_far (p:=⟨gb518,4,none⟩) (Kd.R_far (p:=⟨gb518,3,none⟩) (Kd.R_far (p:=⟨gb518,2,none⟩) (Kd.R_far (p:=⟨gb518,1,none⟩) (Kd.R_far (p:=⟨gb518,0,none⟩) (Kd.R_types HO_534006.out BK518.out (by decide)) (fun _ hk=>hk.2) (.int .i64 t520)) (fun _ hk=>hk.2) (.int .i64 t521)) (fun _ hk=>hk.2) (.int .i64 t522)) (fun _ hk=>hk.2) (.string t523)) (fun _ hk=>hk.2) (.slice Ao44 x534004_1.length co44)) (fun _ hk=>hk.2) (.slice Ao45 x534005_1.length co45)) (fun _ hk=>hk.2) (.slice Ao19 t530.length co19)) (fun _ hk=>trivial),by repeat (first|(with_reducible first|exact HB.out|apply below_alloc|apply pw_below_drewN|apply below_drew1|refine below_set ?_ GE517.out|refine below_set ?_ GE518.out|refine below_set ?_ GE533.out)|exact HB.out)⟩
 ·rw [if_neg c4] at H
  have c4b0:(t519==0)=false:=beq_eq_false_iff_ne.mpr c4
  have c4b1:(t519 != 0)=true:=bne_iff_ne.mpr c4
  simp only [Option.some.injEq,Prod.mk.injEq] at H
  obtain ⟨rfl,rfl,rfl,rfl,rfl,rfl,rfl,rfl⟩:=H
  go_enter Try.func31,Try.ntmps31
  go_wp2_with (first|((with_reducible refine gate_dst (N:=2) rfl ?_);refine box_event ?hg (N:=2) ?hd (cs:=#[.int .i64 a0_0,.int .i64 a0_1,.int .i64 a0_2,.string a0_3,.slice A0_4 l0_4.length c0_4,.slice A0_5 l0_5.length c0_5,.slice A0_6 l0_6.length c0_6]) (t:=25) ?hr ?_;(case hd=>rfl);(case hg=>rfl);(case hr=>first|(go_simp;done)|(go_simp;rfl));intro gb517 hg w46 hbox hb;have n0_:=Aside0.mk (below_step (by repeat (first|(with_reducible first|exact HB.out|apply below_alloc|apply pw_below_drewN|apply below_drew1)|exact HB.out)) hb);have n1_:=Aside0.mk (hbox);have n2_:=Aside0.mk ((by rw [hg];exact (below_size (by repeat (first|(with_reducible first|exact HB.out|apply below_alloc|apply pw_below_drewN|apply below_drew1)|exact HB.out))):w.heap.size≤gb517));have n3_:=Aside0.mk ((by rw [hg];exact (below_size (by repeat (first|(with_reducible first|exact HB.out|apply below_alloc|apply pw_below_drewN|apply below_drew1)|exact HB.out))):w.heap.size≤gb517));clear HB;have HB:=n0_;have BK517:=n1_;have GW517:=n2_;have GE517:=n3_;clear n0_ n1_ n2_ n3_;clear hb hbox hg)|((with_reducible refine gate_dst (N:=4) rfl ?_);refine box_event ?hg (N:=4) ?hd (cs:=#[.int .i64 0,.int .i64 0,.int .i64 0,.string (⟨#[]⟩:ByteArray),.slice none 0 0,.slice none 0 0,.slice none 0 0]) (t:=25) ?hr ?_;(case hd=>rfl);(case hg=>rfl);(case hr=>first|(go_simp;done)|(go_simp;rfl));intro gb518 hg w47 hbox hb;have n0_:=Aside0.mk (blk_below (g:=gb517) (o:=.cells #[.int .i64 a0_0,.int .i64 a0_1,.int .i64 a0_2,.string a0_3,.slice A0_4 l0_4.length c0_4,.slice A0_5 l0_5.length c0_5,.slice A0_6 l0_6.length c0_6] 25 (0,0)) (by (with_reducible repeat (first|refine blk_drewN ?_ _|refine blk_drew ?_|refine blk_alloc ?_ _));exact BK517.out) hb);have n1_:=Aside0.mk (below_step (by repeat (first|(with_reducible first|exact HB.out|apply below_alloc|apply pw_below_drewN|apply below_drew1|refine below_set ?_ GE517.out)|exact HB.out)) hb);have n2_:=Aside0.mk (hbox);have n3_:=Aside0.mk ((by rw [hg];exact (below_size (by repeat (first|(with_reducible first|exact HB.out|apply below_alloc|apply pw_below_drewN|apply below_drew1|refine below_set ?_ GE517.out)|exact HB.out))):w.heap.size≤gb518));have n4_:=Aside0.mk ((by rw [hg];exact (below_size (by repeat (first|(with_reducible first|exact HB.out|apply below_alloc|apply pw_below_drewN|apply below_drew1|refine below_set ?_ GE517.out)|exact HB.out))):w.heap.size≤gb518));have n5_:=Aside0.mk ((by rw [hg];exact Nat.ne_of_lt (blk_lt (g:=gb517) (o:=.cells #[.int .i64 a0_0,.int .i64 a0_1,.int .i64 a0_2,.string a0_3,.slice A0_4 l0_4.length c0_4,.slice A0_5 l0_5.length c0_5,.slice A0_6 l0_6.length c0_6] 25 (0,0)) (by (with_reducible repeat (first|refine blk_drewN ?_ _|refine blk_drew ?_|refine blk_alloc ?_ _));exact BK517.out)):gb517≠gb518));have n6_:=Aside0.mk ((by rw [hg];exact Nat.ne_of_gt (blk_lt (g:=gb517) (o:=.cells #[.int .i64 a0_0,.int .i64 a0_1,.int .i64 a0_2,.string a0_3,.slice A0_4 l0_4.length c0_4,.slice A0_5 l0_5.length c0_5,.slice A0_6 l0_6.length c0_6] 25 (0,0)) (by (with_reducible repeat (first|refine blk_drewN ?_ _|refine blk_drew ?_|refine blk_alloc ?_ _));exact BK517.out)):gb518≠gb517));clear BK517;clear HB;have BK517:=n0_;have HB:=n1_;have BK518:=n2_;have GW518:=n3_;have GE518:=n4_;have NB517_518:=n5_;have NB518_517:=n6_;clear n0_ n1_ n2_ n3_ n4_ n5_ n6_;clear hb hbox hg;have hnb48:=NB517_518.out;have hnc48:=NB518_517.out;have hcz49_0:w47.cell? ⟨gb517,0,none⟩=some (.int .i64 a0_0):=(blk_cell BK517.out 0).trans rfl;have hcz49_1:w47.cell? ⟨gb517,1,none⟩=some (.int .i64 a0_1):=(blk_cell BK517.out 1).trans rfl;have hcz49_2:w47.cell? ⟨gb517,2,none⟩=some (.int .i64 a0_2):=(blk_cell BK517.out 2).trans rfl;have hcz49_3:w47.cell? ⟨gb517,3,none⟩=some (.string a0_3):=(blk_cell BK517.out 3).trans rfl;have hcz49_4:w47.cell? ⟨gb517,4,none⟩=some (.slice A0_4 l0_4.length c0_4):=(blk_cell BK517.out 4).trans rfl;have hcz49_5:w47.cell? ⟨gb517,5,none⟩=some (.slice A0_5 l0_5.length c0_5):=(blk_cell BK517.out 5).trans rfl;have hcz49_6:w47.cell? ⟨gb517,6,none⟩=some (.slice A0_6 l0_6.length c0_6):=(blk_cell BK517.out 6).trans rfl;have hfz49_0:=blk_frozen BK517.out 0;have hfz49_1:=blk_frozen BK517.out 1;have hfz49_2:=blk_frozen BK517.out 2;have hfz49_3:=blk_frozen BK517.out 3;have hfz49_4:=blk_frozen BK517.out 4;have hfz49_5:=blk_frozen BK517.out 5;have hfz49_6:=blk_frozen BK517.out 6)|((with_reducible refine gate_callee (f:=46) rfl ?_);refine goesL_ (some 12) rfl rfl Try.func46 (by kernel_rfl) rfl #[.agg #[.int .i64 a0_0,.int .i64 a0_1,.int .i64 a0_2,.string a0_3,.slice A0_4 l0_4.length c0_4,.slice A0_5 l0_5.length c0_5,.slice A0_6 l0_6.length c0_6],.string a1,.string (⟨#[]⟩:ByteArray),.int .i64 1,.int .i64 0] rfl (by (try simp only [List.map_toArray,List.map_cons,List.map_nil]);first|done|rfl|(simp only [List.length_drop,List.length_take];rfl)) ?_;(with_reducible refine (latticeref07_asked.calls k a0_0 a0_1 a0_2 a0_3 _ _ l0_4 _ _ l0_5 _ _ l0_6 a1 (⟨#[]⟩:ByteArray) 1 0 t519 _ ?side1 ?side2 ?side3 ?side4 ?side5 ?side6 A3.out).mono ?_);(case side1=>repeat (first|exact (Kd.C_below HR0_4.out HB.out)|(with_reducible refine Kd.C_alloc ?_ _)|(with_reducible refine Kd.C_drewN ?_ _)|(with_reducible refine Kd.C_drew ?_)));(case side2=>exact HC0_4.out);(case side3=>repeat (first|exact (Kd.C_below HR0_5.out HB.out)|(with_reducible refine Kd.C_alloc ?_ _)|(with_reducible refine Kd.C_drewN ?_ _)|(with_reducible refine Kd.C_drew ?_)));(case side4=>exact HC0_5.out);(case side5=>repeat (first|exact (Kd.C_below HR0_6.out HB.out)|(with_reducible refine Kd.C_alloc ?_ _)|(with_reducible refine Kd.C_drewN ?_ _)|(with_reducible refine Kd.C_drew ?_)));(case side6=>exact HC0_6.out);rintro e w50 ⟨rfl,hb⟩;refine ⟨_,rfl,?_⟩;have n0_:=Aside0.mk (blk_below (g:=gb517) (o:=.cells #[.int .i64 a0_0,.int .i64 a0_1,.int .i64 a0_2,.string a0_3,.slice A0_4 l0_4.length c0_4,.slice A0_5 l0_5.length c0_5,.slice A0_6 l0_6.length c0_6] 25 (0,0)) (by (with_reducible repeat (first|refine blk_drewN ?_ _|refine blk_drew ?_|refine blk_alloc ?_ _));exact BK517.out) hb);have n1_:=Aside0.mk (blk_below (g:=gb518) (o:=.cells #[.int .i64 0,.int .i64 0,.int .i64 0,.string (⟨#[]⟩:ByteArray),.slice none 0 0,.slice none 0 0,.slice none 0 0] 25 (0,0)) (by (with_reducible repeat (first|refine blk_drewN ?_ _|refine blk_drew ?_|refine blk_alloc ?_ _));exact BK518.out) hb);have n2_:=Aside0.mk (below_step (by repeat (first|(with_reducible first|exact HB.out|apply below_alloc|apply pw_below_drewN|apply below_drew1|refine below_set ?_ GE517.out|refine below_set ?_ GE518.out)|exact HB.out)) hb);clear BK517;clear BK518;clear HB;have BK517:=n0_;have BK518:=n1_;have HB:=n2_;clear n0_ n1_ n2_;(try clear hb);(try clear hb2);(try clear hk);(try clear hi);have hcz51_0:w50.cell? ⟨gb518,0,none⟩=some (.int .i64 0):=(blk_cell BK518.out 0).trans rfl;have hcz51_1:w50.cell? ⟨gb518,1,none⟩=some (.int .i64 0):=(blk_cell BK518.out 1).trans rfl;have hcz51_2:w50.cell? ⟨gb518,2,none⟩=some (.int .i64 0):=(blk_cell BK518.out 2).trans rfl;have hcz51_3:w50.cell? ⟨gb518,3,none⟩=some (.string (⟨#[]⟩:ByteArray)):=(blk_cell BK518.out 3).trans rfl;have hcz51_4:w50.cell? ⟨gb518,4,none⟩=some (.slice none 0 0):=(blk_cell BK518.out 4).trans rfl;have hcz51_5:w50.cell? ⟨gb518,5,none⟩=some (.slice none 0 0):=(blk_cell BK518.out 5).trans rfl;have hcz51_6:w50.cell? ⟨gb518,6,none⟩=some (.slice none 0 0):=(blk_cell BK518.out 6).trans rfl;have hfz51_0:=blk_frozen BK518.out 0;have hfz51_1:=blk_frozen BK518.out 1;have hfz51_2:=blk_frozen BK518.out 2;have hfz51_3:=blk_frozen BK518.out 3;have hfz51_4:=blk_frozen BK518.out 4;have hfz51_5:=blk_frozen BK518.out 5;have hfz51_6:=blk_frozen BK518.out 6))
  refine bodyPost_ret (results_ct rfl _ _ gb518 25 #[.int .i64 0,.int .i64 0,.int .i64 0,.string (⟨#[]⟩:ByteArray),.slice none 0 0,.slice none 0 0,.slice none 0 0] (0,0) _ rfl (by (with_reducible repeat (first|refine blk_drewN ?_ _|refine blk_drew ?_|refine blk_alloc ?_ _));refine blk_put (cs:=#[.int .i64 0,.int .i64 0,.int .i64 0,.string (⟨#[]⟩:ByteArray),.slice none 0 0,.slice none 0 0,.slice none 0 0]) ?_ 6 _ rfl;(with_reducible repeat (first|refine blk_drewN ?_ _|refine blk_drew ?_|refine blk_alloc ?_ _));refine blk_put (cs:=#[.int .i64 0,.int .i64 0,.int .i64 0,.string (⟨#[]⟩:ByteArray),.slice none 0 0,.slice none 0 0,.slice none 0 0]) ?_ 5 _ rfl;(with_reducible repeat (first|refine blk_drewN ?_ _|refine blk_drew ?_|refine blk_alloc ?_ _));refine blk_put (cs:=#[.int .i64 0,.int .i64 0,.int .i64 0,.string (⟨#[]⟩:ByteArray),.slice none 0 0,.slice none 0 0,.slice none 0 0]) ?_ 4 _ rfl;(with_reducible repeat (first|refine blk_drewN ?_ _|refine blk_drew ?_|refine blk_alloc ?_ _));refine blk_put (cs:=#[.int .i64 0,.int .i64 0,.int .i64 0,.string (⟨#[]⟩:ByteArray),.slice none 0 0,.slice none 0 0,.slice none 0 0]) ?_ 3 _ rfl;(with_reducible repeat (first|refine blk_drewN ?_ _|refine blk_drew ?_|refine blk_alloc ?_ _));refine blk_put (cs:=#[.int .i64 0,.int .i64 0,.int .i64 0,.string (⟨#[]⟩:ByteArray),.slice none 0 0,.slice none 0 0,.slice none 0 0]) ?_ 2 _ rfl;(with_reducible repeat (first|refine blk_drewN ?_ _|refine blk_drew ?_|refine blk_alloc ?_ _));refine blk_put (cs:=#[.int .i64 0,.int .i64 0,.int .i64 0,.string (⟨#[]⟩:ByteArray),.slice none 0 0,.slice none 0 0,.slice none 0 0]) ?_ 1 _ rfl;(with_reducible repeat (first|refine blk_drewN ?_ _|refine blk_drew ?_|refine blk_alloc ?_ _));refine blk_put (cs:=#[.int .i64 0,.int .i64 0,.int .i64 0,.string (⟨#[]⟩:ByteArray),.slice none 0 0,.slice none 0 0,.slice none 0 0]) ?_ 0 _ rfl;(with_reducible repeat (first|refine blk_drewN ?_ _|refine blk_drew ?_|refine blk_alloc ?_ _));exact BK518.out) Try.underlying25 rfl (by kernel_rfl)) rfl ?_
  exact ⟨_,_,_,by first|rfl|(simp [errW_none,errW_some] <;> rfl)|(simp [*,errW_none,errW_some] <;> rfl),by first|exact Kd.R_nil _ _ _ _ _|exact Kd.N_nil _ _ _ _ _|exact Kd.V_nil _ _ _ _ _|exact Kd.Q_nil _ _ _ _ _|exact Kd.S_nil _ _ _ _ _,by first|exact Kd.R_nil _ _ _ _ _|exact Kd.N_nil _ _ _ _ _|exact Kd.V_nil _ _ _ _ _|exact Kd.Q_nil _ _ _ _ _|exact Kd.S_nil _ _ _ _ _,by first|exact Kd.R_nil _ _ _ _ _|exact Kd.N_nil _ _ _ _ _|exact Kd.V_nil _ _ _ _ _|exact Kd.Q_nil _ _ _ _ _|exact Kd.S_nil _ _ _ _ _,by repeat (first|(with_reducible first|exact HB.out|apply below_alloc|apply pw_below_drewN|apply below_drew1|refine below_set ?_ GE517.out|refine below_set ?_ GE518.out)|exact HB.out)⟩
end Go.Proofs.Ytcocmpblmkdmjaa.Pr
