-- A part of the text Prx22, thinned by a program of this session.
import Derived.Test.YtcocmpblmkdmjaaTNodePostsPrx0
import Derived.Test.YtcocmpblmkdmjaaTNodePostsPrx4
import Derived.Test.YtcocmpblmkdmjaaTNodePostsPrx6
import Derived.Test.YtcocmpblmkdmjaaTNodePostsPrx10
import Derived.Test.YtcocmpblmkdmjaaTNodePostsPrx11
namespace Go.Proofs.Ytcocmpblmkdmjaa.Pr
open Go.RowKit Go.Proofs.YtcocmpblmkdmjaaW.PrintWords Go.Proofs.YtcocmpblmkdmjaaW.PrintLast Go.Proofs.YtcocmpblmkdmjaaW.PrintMore
attribute [local go_sem] max2_int min2_int max_two min_two max_three min_three max_four min_four
set_option linter.unusedVariables false
set_option linter.unusedSimpArgs false
def latticeref07_Post.l0:Nat→ByteArray→Int→Bool→List ByteArray→Int→Int→Int→Int→Int→ByteArray→List ByteArray→List ByteArray→List Int→Int→Int→Int→ByteArray→List ByteArray→List ByteArray→List Int→Option (Int×Int×Int×ByteArray×List ByteArray×List ByteArray×List Int×Int)
 | 0,_,_,_,_,_,_,_,_,_,_,_,_,_,_,_,_,_,_,_,_=>none
 | k+1,x1,x2,x10,x33,x34,x35,x372000,x372001,x372002,x372003,x372004,x372005,x372006,x388000,x388001,x388002,x388003,x388004,x388005,x388006=>if x35 < x34 then (if 0≤x35 then (if x35 < (x33.length:Int) then (if (rdOf ByteArray.empty x33 x35).toList=x1.toList then (if 0≤(wrap64 (x35+1)) then (if (wrap64 (x35+1)) < (x372006.length:Int) then (if (rd x372006 (wrap64 (x35+1)))=x2 then (if x388004.length < 8796093022208 then (if x388006.length < 17592186044416 then (latticeref07_Post.l0 k x1 x2 true x33 x34 (wrap64 (x35+1)) x372000 x372001 x372002 x372003 x372004 x372005 x372006 x388000 x388001 x388002 x388003 (x388004++[rdOf ByteArray.empty x33 x35]) x388005 (x388006++[rd x372006 (wrap64 (x35+1))])) else (none)) else (none)) else (some (0,0,0,(⟨#[]⟩:ByteArray),([]:List ByteArray),([]:List ByteArray),([]:List Int),4))) else (none)) else (none)) else (if x10=true then (if x388004.length < 8796093022208 then (if 0≤(wrap64 (x35+1)) then (if (wrap64 (x35+1)) < (x372006.length:Int) then (if x388006.length < 17592186044416 then (latticeref07_Post.l0 k x1 x2 x10 x33 x34 (wrap64 (x35+1)) x372000 x372001 x372002 x372003 x372004 x372005 x372006 x388000 x388001 x388002 x388003 (x388004++[rdOf ByteArray.empty x33 x35]) x388005 (x388006++[rd x372006 (wrap64 (x35+1))])) else (none)) else (none)) else (none)) else (none)) else ((latticeref05_Compare.f k (rdOf ByteArray.empty x33 x35) x1).bind fun t408=>(if t408 > 0 then (if x388004.length < 8796093022208 then ((some (x388004++[x1]:List ByteArray)).bind fun y409=>(if x388006.length < 17592186044416 then ((some (x388006++[x2]:List Int)).bind fun y412=>(if y409.length < 8796093022208 then (if 0≤(wrap64 (x35+1)) then (if (wrap64 (x35+1)) < (x372006.length:Int) then (if y412.length < 17592186044416 then (latticeref07_Post.l0 k x1 x2 true x33 x34 (wrap64 (x35+1)) x372000 x372001 x372002 x372003 x372004 x372005 x372006 x388000 x388001 x388002 x388003 (y409++[rdOf ByteArray.empty x33 x35]) x388005 (y412++[rd x372006 (wrap64 (x35+1))])) else (none)) else (none)) else (none)) else (none))) else (none))) else (none)) else (if x388004.length < 8796093022208 then (if 0≤(wrap64 (x35+1)) then (if (wrap64 (x35+1)) < (x372006.length:Int) then (if x388006.length < 17592186044416 then (latticeref07_Post.l0 k x1 x2 x10 x33 x34 (wrap64 (x35+1)) x372000 x372001 x372002 x372003 x372004 x372005 x372006 x388000 x388001 x388002 x388003 (x388004++[rdOf ByteArray.empty x33 x35]) x388005 (x388006++[rd x372006 (wrap64 (x35+1))])) else (none)) else (none)) else (none)) else (none)))))) else (none)) else (none)) else (if x10=true then ((latticeref06_Right.f k x388000 x388001 x388002 x388003 x388004 x388005 x388006).bind fun t429=>(if t429=true then (some (x388000,x388001,x388002,x388003,x388004,x388005,x388006,0)) else (some (0,0,0,(⟨#[]⟩:ByteArray),([]:List ByteArray),([]:List ByteArray),([]:List Int),5)))) else (if x388004.length < 8796093022208 then ((some (x388004++[x1]:List ByteArray)).bind fun y430=>(if x388006.length < 17592186044416 then ((some (x388006++[x2]:List Int)).bind fun y433=>((latticeref06_Right.f k x388000 x388001 x388002 x388003 y430 x388005 y433).bind fun t436=>(if t436=true then (some (x388000,x388001,x388002,x388003,y430,x388005,y433,0)) else (some (0,0,0,(⟨#[]⟩:ByteArray),([]:List ByteArray),([]:List ByteArray),([]:List Int),5))))) else (none))) else (none)))
def latticeref07_Post.f (k:Nat) (a0_0:Int) (a0_1:Int) (a0_2:Int) (a0_3:ByteArray) (l0_4:List ByteArray) (l0_5:List ByteArray) (l0_6:List Int) (a1:ByteArray) (a2:Int):Option (Int×Int×Int×ByteArray×List ByteArray×List ByteArray×List Int×Int):=(latticeref07_asked.f k a0_0 a0_1 a0_2 a0_3 l0_4 l0_5 l0_6 a1 (⟨#[]⟩:ByteArray) a2 1).bind fun t373=>(if t373=0 then ((latticeref07_bare.f a0_0 a0_1 a0_2 a0_3 l0_4 l0_5 l0_6).bind fun bt374=>(if 0 < (l0_6.length:Int) then (if bt374.2.2.2.2.2.2.length < 17592186044416 then (latticeref07_Post.l0 k a1 a2 false l0_4 (l0_4.length:Int) 0 a0_0 a0_1 a0_2 a0_3 l0_4 l0_5 l0_6 bt374.1 bt374.2.1 bt374.2.2.1 bt374.2.2.2.1 bt374.2.2.2.2.1 bt374.2.2.2.2.2.1 (bt374.2.2.2.2.2.2++[rd l0_6 0])) else (none)) else (none))) else (some (0,0,0,(⟨#[]⟩:ByteArray),([]:List ByteArray),([]:List ByteArray),([]:List Int),t373)))
def latticeref07_Post.T5:Bool×List (List Nat×List Nat):=(true,[([],[]),([0],[0]),([],[]),([2],[2]),([3],[3]),([4],[4]),([5],[5]),([1,6],[1,6]),([0,1,2,3,4,5,6,7],[]),([8,7,7,0,1,2,3,4,5,6,7],[7,8])])
def latticeref07_Post.B5:List Nat:=[0,1,0,4,12,28,60,127,255,511]
theorem latticeref07_Post.tab5:rtab .any (opsOf Try.f27 5)=latticeref07_Post.T5:=by kernel_rfl
theorem latticeref07_Post.bits5:waitsOk latticeref07_Post.T5.2 latticeref07_Post.B5=true:=by kernel_rfl
def latticeref07_Post.T19:Bool×List (List Nat×List Nat):=(true,[([],[]),([0],[0]),([],[]),([2],[2]),([],[]),([4],[4]),([3,5],[3,5]),([6],[6]),([7],[7]),([1,8],[1,8]),([0,1,2,3,4,5,6,7,8,9],[]),([10,9,9,0,1,2,3,4,5,6,7,8,9],[9,10])])
def latticeref07_Post.B19:List Nat:=[0,1,0,4,0,16,60,124,252,511,1023,2047]
theorem latticeref07_Post.tab19:rtab .any (opsOf Try.f27 19)=latticeref07_Post.T19:=by kernel_rfl
theorem latticeref07_Post.bits19:waitsOk latticeref07_Post.T19.2 latticeref07_Post.B19=true:=by kernel_rfl
set_option maxHeartbeats 8000000 in
set_option maxRecDepth 100000 in
theorem latticeref07_Post.calls (k:Nat) (a0_0:Int) (a0_1:Int) (a0_2:Int) (a0_3:ByteArray) (A0_4:Option Addr) (c0_4:Nat) (l0_4:List ByteArray) (A0_5:Option Addr) (c0_5:Nat) (l0_5:List ByteArray) (A0_6:Option Addr) (c0_6:Nat) (l0_6:List Int) (a1:ByteArray) (a2:Int) (r1:Int) (r2:Int) (r3:Int) (r4:ByteArray) (r5:List ByteArray) (r6:List ByteArray) (r7:List Int) (r8:Int) (w:World) (hr0_4:Kd.C Kd.string w A0_4 l0_4.length l0_4) (hc0_4:l0_4.length≤c0_4) (hr0_5:Kd.C Kd.string w A0_5 l0_5.length l0_5) (hc0_5:l0_5.length≤c0_5) (hr0_6:Kd.C (Kd.int .i64) w A0_6 l0_6.length l0_6) (hc0_6:l0_6.length≤c0_6) (h:latticeref07_Post.f k a0_0 a0_1 a0_2 a0_3 l0_4 l0_5 l0_6 a1 a2=some (r1,r2,r3,r4,r5,r6,r7,r8)) :
  Calls Try.prog 27 #[.agg #[.int .i64 a0_0,.int .i64 a0_1,.int .i64 a0_2,.string a0_3,.slice A0_4 l0_4.length c0_4,.slice A0_5 l0_5.length c0_5,.slice A0_6 l0_6.length c0_6],.string a1,.int .i64 a2] w fun e w'=>∃ v4_ v5_ v6_:Value,e=.returned (.tuple #[.agg #[.int .i64 r1,.int .i64 r2,.int .i64 r3,.string r4,v4_,v5_,v6_],.int .i64 r8])∧Kd.R Kd.string 9 w' w.heap.size (fun k_=>some k_≠(v5_:Value).ownBlock) v4_ r5∧Kd.R Kd.string 9 w' w.heap.size (fun k_=>some k_≠(v4_:Value).ownBlock) v5_ r6∧Kd.R (Kd.int .i64) 3 w' w.heap.size (fun _=>True) v6_ r7∧Below w.heap.size w w':=by
 have hu25:=Try.underlying25
 have HR0_4:=Aside0.mk hr0_4
 have HC0_4:=Aside0.mk hc0_4
 clear hr0_4 hc0_4
 have HR0_5:=Aside0.mk hr0_5
 have HC0_5:=Aside0.mk hc0_5
 clear hr0_5 hc0_5
 have HR0_6:=Aside0.mk hr0_6
 have HC0_6:=Aside0.mk hc0_6
 clear hr0_6 hc0_6
 have HB:=Aside0.mk (Below.refl w.heap.size w)
 have H:((latticeref07_asked.f k a0_0 a0_1 a0_2 a0_3 l0_4 l0_5 l0_6 a1 (⟨#[]⟩:ByteArray) a2 1).bind fun t373=>(if t373=0 then ((latticeref07_bare.f a0_0 a0_1 a0_2 a0_3 l0_4 l0_5 l0_6).bind fun bt374=>(if 0 < (l0_6.length:Int) then (if bt374.2.2.2.2.2.2.length < 17592186044416 then (latticeref07_Post.l0 k a1 a2 false l0_4 (l0_4.length:Int) 0 a0_0 a0_1 a0_2 a0_3 l0_4 l0_5 l0_6 bt374.1 bt374.2.1 bt374.2.2.1 bt374.2.2.2.1 bt374.2.2.2.2.1 bt374.2.2.2.2.2.1 (bt374.2.2.2.2.2.2++[rd l0_6 0])) else (none)) else (none))) else (some (0,0,0,(⟨#[]⟩:ByteArray),([]:List ByteArray),([]:List ByteArray),([]:List Int),t373))))=some (r1,r2,r3,r4,r5,r6,r7,r8):=h
 clear h
 replace H:=Option.bind_eq_some_iff.mp H
 obtain ⟨t373,A40,H⟩:=H
 try dsimp only at H
 have A4:=Aside0.mk A40
 clear A40
 by_cases c5:t373=0
 ·rw [if_pos c5] at H
  have c5b0:(t373==0)=true:=beq_iff_eq.mpr c5
  have c5b1:(t373 != 0)=false:=bne_eq_false_iff_eq.mpr c5
  clear c5
  replace H:=Option.bind_eq_some_iff.mp H
  obtain ⟨⟨t374,t375,t376,t377,t378,t381,t384⟩,A60,H⟩:=H
  try dsimp only at H
  have A6:=Aside0.mk A60
  clear A60
  by_cases c7:0 < (l0_6.length:Int)
  ·rw [if_pos c7] at H
   have c7b0:decide (0 < (l0_6.length:Int))=true:=decide_eq_true c7
   have c7b1:decide (0 < l0_6.length)=true:=decide_eq_true (by omega)
   clear c7
   by_cases c8:t384.length < 17592186044416
   ·rw [if_pos c8] at H
    have LMc8:=Aside0.mk c8
    clear c8
    obtain ⟨y389,hy389⟩:∃ y_:List Int,y_=(t384++[rd l0_6 0]):=⟨_,rfl⟩
    replace H:(latticeref07_Post.l0 k a1 a2 false l0_4 (l0_4.length:Int) 0 a0_0 a0_1 a0_2 a0_3 l0_4 l0_5 l0_6 t374 t375 t376 t377 t378 t381 y389)=some (r1,r2,r3,r4,r5,r6,r7,r8):=by first|(rw [hy389];with_reducible exact H)|(have H2_:=(Option.bind_some _ _).symm.trans H;rw [hy389];with_reducible exact H2_)|(have H2_:=(Option.bind_some _ _).symm.trans H;with_reducible exact H2_)|with_reducible exact H|(rw [hy389];exact H)|exact H
    have Ny389:=Aside0.mk hy389
    clear hy389
    have H':=Aside0.mk H
    clear H
    go_enter Try.func27,Try.ntmps27
    try go_wp2_with (first|((with_reducible refine gate_dst (N:=3) rfl ?_);refine box_event ?hg (N:=3) ?hd (cs:=#[.int .i64 a0_0,.int .i64 a0_1,.int .i64 a0_2,.string a0_3,.slice A0_4 l0_4.length c0_4,.slice A0_5 l0_5.length c0_5,.slice A0_6 l0_6.length c0_6]) (t:=25) ?hr ?_;(case hd=>rfl);(case hg=>rfl);(case hr=>first|(go_simp;done)|(go_simp;rfl));intro gb371 hg w9 hbox hb;have n0_:=Aside0.mk (below_step (by repeat (first|(with_reducible first|exact HB.out|apply below_alloc|apply pw_below_drewN|apply below_drew1)|exact HB.out)) hb);have n1_:=Aside0.mk (hbox);have n2_:=Aside0.mk ((by rw [hg];exact (below_size (by repeat (first|(with_reducible first|exact HB.out|apply below_alloc|apply pw_below_drewN|apply below_drew1)|exact HB.out))):w.heap.size≤gb371));have n3_:=Aside0.mk ((by rw [hg];exact (below_size (by repeat (first|(with_reducible first|exact HB.out|apply below_alloc|apply pw_below_drewN|apply below_drew1)|exact HB.out))):w.heap.size≤gb371));clear HB;have HB:=n0_;have BK371:=n1_;have GW371:=n2_;have GE371:=n3_;clear n0_ n1_ n2_ n3_;clear hb hbox hg)|((with_reducible refine gate_dst (N:=6) rfl ?_);refine box_event ?hg (N:=6) ?hd (cs:=#[.int .i64 0,.int .i64 0,.int .i64 0,.string (⟨#[]⟩:ByteArray),.slice none 0 0,.slice none 0 0,.slice none 0 0]) (t:=25) ?hr ?_;(case hd=>rfl);(case hg=>rfl);(case hr=>first|(go_simp;done)|(go_simp;rfl));intro gb372 hg w10 hbox hb;have n0_:=Aside0.mk (blk_below (g:=gb371) (o:=.cells #[.int .i64 a0_0,.int .i64 a0_1,.int .i64 a0_2,.string a0_3,.slice A0_4 l0_4.length c0_4,.slice A0_5 l0_5.length c0_5,.slice A0_6 l0_6.length c0_6] 25 (0,0)) (by (with_reducible repeat (first|refine blk_drewN ?_ _|refine blk_drew ?_|refine blk_alloc ?_ _));exact BK371.out) hb);have n1_:=Aside0.mk (below_step (by repeat (first|(with_reducible first|exact HB.out|apply below_alloc|apply pw_below_drewN|apply below_drew1|refine below_set ?_ GE371.out)|exact HB.out)) hb);have n2_:=Aside0.mk (hbox);have n3_:=Aside0.mk ((by rw [hg];exact (below_size (by repeat (first|(with_reducible first|exact HB.out|apply below_alloc|apply pw_below_drewN|apply below_drew1|refine below_set ?_ GE371.out)|exact HB.out))):w.heap.size≤gb372));have n4_:=Aside0.mk ((by rw [hg];exact (below_size (by repeat (first|(with_reducible first|exact HB.out|apply below_alloc|apply pw_below_drewN|apply below_drew1|refine below_set ?_ GE371.out)|exact HB.out))):w.heap.size≤gb372));have n5_:=Aside0.mk ((by rw [hg];exact Nat.ne_of_lt (blk_lt (g:=gb371) (o:=.cells #[.int .i64 a0_0,.int .i64 a0_1,.int .i64 a0_2,.string a0_3,.slice A0_4 l0_4.length c0_4,.slice A0_5 l0_5.length c0_5,.slice A0_6 l0_6.length c0_6] 25 (0,0)) (by (with_reducible repeat (first|refine blk_drewN ?_ _|refine blk_drew ?_|refine blk_alloc ?_ _));exact BK371.out)):gb371≠gb372));have n6_:=Aside0.mk ((by rw [hg];exact Nat.ne_of_gt (blk_lt (g:=gb371) (o:=.cells #[.int .i64 a0_0,.int .i64 a0_1,.int .i64 a0_2,.string a0_3,.slice A0_4 l0_4.length c0_4,.slice A0_5 l0_5.length c0_5,.slice A0_6 l0_6.length c0_6] 25 (0,0)) (by (with_reducible repeat (first|refine blk_drewN ?_ _|refine blk_drew ?_|refine blk_alloc ?_ _));exact BK371.out)):gb372≠gb371));clear BK371;clear HB;have BK371:=n0_;have HB:=n1_;have BK372:=n2_;have GW372:=n3_;have GE372:=n4_;have NB371_372:=n5_;have NB372_371:=n6_;clear n0_ n1_ n2_ n3_ n4_ n5_ n6_;clear hb hbox hg;have hnb11:=NB371_372.out;have hnc11:=NB372_371.out;have hcz12_0:w10.cell? ⟨gb371,0,none⟩=some (.int .i64 a0_0):=(blk_cell BK371.out 0).trans rfl;have hcz12_1:w10.cell? ⟨gb371,1,none⟩=some (.int .i64 a0_1):=(blk_cell BK371.out 1).trans rfl;have hcz12_2:w10.cell? ⟨gb371,2,none⟩=some (.int .i64 a0_2):=(blk_cell BK371.out 2).trans rfl;have hcz12_3:w10.cell? ⟨gb371,3,none⟩=some (.string a0_3):=(blk_cell BK371.out 3).trans rfl;have hcz12_4:w10.cell? ⟨gb371,4,none⟩=some (.slice A0_4 l0_4.length c0_4):=(blk_cell BK371.out 4).trans rfl;have hcz12_5:w10.cell? ⟨gb371,5,none⟩=some (.slice A0_5 l0_5.length c0_5):=(blk_cell BK371.out 5).trans rfl;have hcz12_6:w10.cell? ⟨gb371,6,none⟩=some (.slice A0_6 l0_6.length c0_6):=(blk_cell BK371.out 6).trans rfl;have hfz12_0:=blk_frozen BK371.out 0;have hfz12_1:=blk_frozen BK371.out 1;have hfz12_2:=blk_frozen BK371.out 2;have hfz12_3:=blk_frozen BK371.out 3;have hfz12_4:=blk_frozen BK371.out 4;have hfz12_5:=blk_frozen BK371.out 5;have hfz12_6:=blk_frozen BK371.out 6)|((with_reducible refine gate_callee (f:=46) rfl ?_);refine goesL_ (some 16) rfl rfl Try.func46 (by kernel_rfl) rfl #[.agg #[.int .i64 a0_0,.int .i64 a0_1,.int .i64 a0_2,.string a0_3,.slice A0_4 l0_4.length c0_4,.slice A0_5 l0_5.length c0_5,.slice A0_6 l0_6.length c0_6],.string a1,.string (⟨#[]⟩:ByteArray),.int .i64 a2,.int .i64 1] rfl (by (try simp only [List.map_toArray,List.map_cons,List.map_nil]);first|done|rfl|(simp only [List.length_drop,List.length_take];rfl)) ?_;(with_reducible refine (latticeref07_asked.calls k a0_0 a0_1 a0_2 a0_3 _ _ l0_4 _ _ l0_5 _ _ l0_6 a1 (⟨#[]⟩:ByteArray) a2 1 t373 _ ?side1 ?side2 ?side3 ?side4 ?side5 ?side6 A4.out).mono ?_);(case side1=>repeat (first|exact (Kd.C_below HR0_4.out HB.out)|(with_reducible refine Kd.C_alloc ?_ _)|(with_reducible refine Kd.C_drewN ?_ _)|(with_reducible refine Kd.C_drew ?_)));(case side2=>exact HC0_4.out);(case side3=>repeat (first|exact (Kd.C_below HR0_5.out HB.out)|(with_reducible refine Kd.C_alloc ?_ _)|(with_reducible refine Kd.C_drewN ?_ _)|(with_reducible refine Kd.C_drew ?_)));(case side4=>exact HC0_5.out);(case side5=>repeat (first|exact (Kd.C_below HR0_6.out HB.out)|(with_reducible refine Kd.C_alloc ?_ _)|(with_reducible refine Kd.C_drewN ?_ _)|(with_reducible refine Kd.C_drew ?_)));(case side6=>exact HC0_6.out);rintro e w13 ⟨rfl,hb⟩;refine ⟨_,rfl,?_⟩;have n0_:=Aside0.mk (blk_below (g:=gb371) (o:=.cells #[.int .i64 a0_0,.int .i64 a0_1,.int .i64 a0_2,.string a0_3,.slice A0_4 l0_4.length c0_4,.slice A0_5 l0_5.length c0_5,.slice A0_6 l0_6.length c0_6] 25 (0,0)) (by (with_reducible repeat (first|refine blk_drewN ?_ _|refine blk_drew ?_|refine blk_alloc ?_ _));exact BK371.out) hb);have n1_:=Aside0.mk (blk_below (g:=gb372) (o:=.cells #[.int .i64 0,.int .i64 0,.int .i64 0,.string (⟨#[]⟩:ByteArray),.slice none 0 0,.slice none 0 0,.slice none 0 0] 25 (0,0)) (by (with_reducible repeat (first|refine blk_drewN ?_ _|refine blk_drew ?_|refine blk_alloc ?_ _));exact BK372.out) hb);have n2_:=Aside0.mk (below_step (by repeat (first|(with_reducible first|exact HB.out|apply below_alloc|apply pw_below_drewN|apply below_drew1|refine below_set ?_ GE371.out|refine below_set ?_ GE372.out)|exact HB.out)) hb);clear BK371;clear BK372;clear HB;have BK371:=n0_;have BK372:=n1_;have HB:=n2_;clear n0_ n1_ n2_;(try clear hb);(try clear hb2);(try clear hk);(try clear hi);have hcz14_0:w13.cell? ⟨gb371,0,none⟩=some (.int .i64 a0_0):=(blk_cell BK371.out 0).trans rfl;have hcz14_1:w13.cell? ⟨gb371,1,none⟩=some (.int .i64 a0_1):=(blk_cell BK371.out 1).trans rfl;have hcz14_2:w13.cell? ⟨gb371,2,none⟩=some (.int .i64 a0_2):=(blk_cell BK371.out 2).trans rfl;have hcz14_3:w13.cell? ⟨gb371,3,none⟩=some (.string a0_3):=(blk_cell BK371.out 3).trans rfl;have hcz14_4:w13.cell? ⟨gb371,4,none⟩=some (.slice A0_4 l0_4.length c0_4):=(blk_cell BK371.out 4).trans rfl;have hcz14_5:w13.cell? ⟨gb371,5,none⟩=some (.slice A0_5 l0_5.length c0_5):=(blk_cell BK371.out 5).trans rfl;have hcz14_6:w13.cell? ⟨gb371,6,none⟩=some (.slice A0_6 l0_6.length c0_6):=(blk_cell BK371.out 6).trans rfl;have hfz14_0:=blk_frozen BK371.out 0;have hfz14_1:=blk_frozen BK371.out 1;have hfz14_2:=blk_frozen BK371.out 2;have hfz14_3:=blk_frozen BK371.out 3;have hfz14_4:=blk_frozen BK371.out 4;have hfz14_5:=blk_frozen BK371.out 5;have hfz14_6:=blk_frozen BK371.out 6)|((with_reducible refine gate_callee (f:=40) rfl ?_);refine goesL_ (some 22) rfl rfl Try.func40 (by kernel_rfl) rfl #[.agg #[.int .i64 a0_0,.int .i64 a0_1,.int .i64 a0_2,.string a0_3,.slice A0_4 l0_4.length c0_4,.slice A0_5 l0_5.length c0_5,.slice A0_6 l0_6.length c0_6]] rfl (by (try simp only [List.map_toArray,List.map_cons,List.map_nil]);first|done|rfl|(simp only [List.length_drop,List.length_take];rfl)) ?_;(with_reducible refine (latticeref07_bare.calls a0_0 a0_1 a0_2 a0_3 _ _ l0_4 _ _ l0_5 _ _ l0_6 t374 t375 t376 t377 t378 t381 t384 _ ?side1 ?side2 ?side3 ?side4 ?side5 ?side6 A6.out).mono ?_);(case side1=>repeat (first|exact (Kd.C_below HR0_4.out HB.out)|(with_reducible refine Kd.C_alloc ?_ _)|(with_reducible refine Kd.C_drewN ?_ _)|(with_reducible refine Kd.C_drew ?_)));(case side2=>exact HC0_4.out);(case side3=>repeat (first|exact (Kd.C_below HR0_5.out HB.out)|(with_reducible refine Kd.C_alloc ?_ _)|(with_reducible refine Kd.C_drewN ?_ _)|(with_reducible refine Kd.C_drew ?_)));(case side4=>exact HC0_5.out);(case side5=>repeat (first|exact (Kd.C_below HR0_6.out HB.out)|(with_reducible refine Kd.C_alloc ?_ _)|(with_reducible refine Kd.C_drewN ?_ _)|(with_reducible refine Kd.C_drew ?_)));(case side6=>exact HC0_6.out);rintro e w15 ⟨v379,v382,v385,rfl,ho0,ho1,ho2,hb⟩;refine ⟨_,rfl,?_⟩;have n0_:=Aside0.mk (Kd.R_lower ho0 (below_size (by repeat (first|(with_reducible first|exact HB.out|apply below_alloc|apply pw_below_drewN|apply below_drew1|refine below_set ?_ GE371.out|refine below_set ?_ GE372.out)|exact HB.out))));have n1_:=Aside0.mk (Kd.R_lower ho1 (below_size (by repeat (first|(with_reducible first|exact HB.out|apply below_alloc|apply pw_below_drewN|apply below_drew1|refine below_set ?_ GE371.out|refine below_set ?_ GE372.out)|exact HB.out))));have n2_:=Aside0.mk (Kd.R_lower ho2 (below_size (by repeat (first|(with_reducible first|exact HB.out|apply below_alloc|apply pw_below_drewN|apply below_drew1|refine below_set ?_ GE371.out|refine below_set ?_ GE372.out)|exact HB.out))));have n3_:=Aside0.mk (blk_below (g:=gb371) (o:=.cells #[.int .i64 a0_0,.int .i64 a0_1,.int .i64 a0_2,.string a0_3,.slice A0_4 l0_4.length c0_4,.slice A0_5 l0_5.length c0_5,.slice A0_6 l0_6.length c0_6] 25 (0,0)) (by (with_reducible repeat (first|refine blk_drewN ?_ _|refine blk_drew ?_|refine blk_alloc ?_ _));exact BK371.out) hb);have n4_:=Aside0.mk (blk_below (g:=gb372) (o:=.cells #[.int .i64 0,.int .i64 0,.int .i64 0,.string (⟨#[]⟩:ByteArray),.slice none 0 0,.slice none 0 0,.slice none 0 0] 25 (0,0)) (by (with_reducible repeat (first|refine blk_drewN ?_ _|refine blk_drew ?_|refine blk_alloc ?_ _));exact BK372.out) hb);have n5_:=Aside0.mk (below_step (by repeat (first|(with_reducible first|exact HB.out|apply below_alloc|apply pw_below_drewN|apply below_drew1|refine below_set ?_ GE371.out|refine below_set ?_ GE372.out)|exact HB.out)) hb);clear BK371;clear BK372;clear HB;have HO380:=n0_;have HO383:=n1_;have HO386:=n2_;have BK371:=n3_;have BK372:=n4_;have HB:=n5_;clear n0_ n1_ n2_ n3_ n4_ n5_;(try clear hb);(try clear hb2);(try clear hk);(try clear hi);(try clear ho0);(try clear ho1);(try clear ho2))|((with_reducible refine gate_dst (N:=9) rfl ?_);refine box_event ?hg (N:=9) ?hd (cs:=#[.int .i64 0,.int .i64 0,.int .i64 0,.string (⟨#[]⟩:ByteArray),.slice none 0 0,.slice none 0 0,.slice none 0 0]) (t:=25) ?hr ?_;(case hd=>rfl);(case hg=>rfl);(case hr=>first|(go_simp;done)|(go_simp;rfl));intro gb387 hg w16 hbox hb;have n0_:=Aside0.mk (Kd.R_below (by (with_reducible repeat (first|apply Kd.R_alloc|apply Kd.R_drewN|apply Kd.R_drew));exact HO380.out) hb);have n1_:=Aside0.mk (Kd.R_below (by (with_reducible repeat (first|apply Kd.R_alloc|apply Kd.R_drewN|apply Kd.R_drew));exact HO383.out) hb);have n2_:=Aside0.mk (Kd.R_below (by (with_reducible repeat (first|apply Kd.R_alloc|apply Kd.R_drewN|apply Kd.R_drew));exact HO386.out) hb);have n3_:=Aside0.mk (blk_below (g:=gb371) (o:=.cells #[.int .i64 a0_0,.int .i64 a0_1,.int .i64 a0_2,.string a0_3,.slice A0_4 l0_4.length c0_4,.slice A0_5 l0_5.length c0_5,.slice A0_6 l0_6.length c0_6] 25 (0,0)) (by (with_reducible repeat (first|refine blk_drewN ?_ _|refine blk_drew ?_|refine blk_alloc ?_ _));exact BK371.out) hb);have n4_:=Aside0.mk (blk_below (g:=gb372) (o:=.cells #[.int .i64 0,.int .i64 0,.int .i64 0,.string (⟨#[]⟩:ByteArray),.slice none 0 0,.slice none 0 0,.slice none 0 0] 25 (0,0)) (by (with_reducible repeat (first|refine blk_drewN ?_ _|refine blk_drew ?_|refine blk_alloc ?_ _));exact BK372.out) hb);have n5_:=Aside0.mk (below_step (by repeat (first|(with_reducible first|exact HB.out|apply below_alloc|apply pw_below_drewN|apply below_drew1|refine below_set ?_ GE371.out|refine below_set ?_ GE372.out)|exact HB.out)) hb);have n6_:=Aside0.mk (hbox);have n7_:=Aside0.mk ((by rw [hg];exact (below_size (by repeat (first|(with_reducible first|exact HB.out|apply below_alloc|apply pw_below_drewN|apply below_drew1|refine below_set ?_ GE371.out|refine below_set ?_ GE372.out)|exact HB.out))):w.heap.size≤gb387));have n8_:=Aside0.mk ((by rw [hg];exact (below_size (by repeat (first|(with_reducible first|exact HB.out|apply below_alloc|apply pw_below_drewN|apply below_drew1|refine below_set ?_ GE371.out|refine below_set ?_ GE372.out)|exact HB.out))):w.heap.size≤gb387));have n9_:=Aside0.mk ((by rw [hg];exact Nat.ne_of_lt (blk_lt (g:=gb371) (o:=.cells #[.int .i64 a0_0,.int .i64 a0_1,.int .i64 a0_2,.string a0_3,.slice A0_4 l0_4.length c0_4,.slice A0_5 l0_5.length c0_5,.slice A0_6 l0_6.length c0_6] 25 (0,0)) (by (with_reducible repeat (first|refine blk_drewN ?_ _|refine blk_drew ?_|refine blk_alloc ?_ _));exact BK371.out)):gb371≠gb387));have n10_:=Aside0.mk ((by rw [hg];exact Nat.ne_of_gt (blk_lt (g:=gb371) (o:=.cells #[.int .i64 a0_0,.int .i64 a0_1,.int .i64 a0_2,.string a0_3,.slice A0_4 l0_4.length c0_4,.slice A0_5 l0_5.length c0_5,.slice A0_6 l0_6.length c0_6] 25 (0,0)) (by (with_reducible repeat (first|refine blk_drewN ?_ _|refine blk_drew ?_|refine blk_alloc ?_ _));exact BK371.out)):gb387≠gb371));have n11_:=Aside0.mk ((by rw [hg];exact Nat.ne_of_lt (blk_lt (g:=gb372) (o:=.cells #[.int .i64 0,.int .i64 0,.int .i64 0,.string (⟨#[]⟩:ByteArray),.slice none 0 0,.slice none 0 0,.slice none 0 0] 25 (0,0)) (by (with_reducible repeat (first|refine blk_drewN ?_ _|refine blk_drew ?_|refine blk_alloc ?_ _));exact BK372.out)):gb372≠gb387));have n12_:=Aside0.mk ((by rw [hg];exact Nat.ne_of_gt (blk_lt (g:=gb372) (o:=.cells #[.int .i64 0,.int .i64 0,.int .i64 0,.string (⟨#[]⟩:ByteArray),.slice none 0 0,.slice none 0 0,.slice none 0 0] 25 (0,0)) (by (with_reducible repeat (first|refine blk_drewN ?_ _|refine blk_drew ?_|refine blk_alloc ?_ _));exact BK372.out)):gb387≠gb372));clear HO380;clear HO383;clear HO386;clear BK371;clear BK372;clear HB;have HO380:=n0_;have HO383:=n1_;have HO386:=n2_;have BK371:=n3_;have BK372:=n4_;have HB:=n5_;have BK387:=n6_;have GW387:=n7_;have GE387:=n8_;have NB371_387:=n9_;have NB387_371:=n10_;have NB372_387:=n11_;have NB387_372:=n12_;clear n0_ n1_ n2_ n3_ n4_ n5_ n6_ n7_ n8_ n9_ n10_ n11_ n12_;clear hb hbox hg;have hnb17:=NB387_371.out;have hnc17:=NB371_387.out;have hnb18:=NB387_372.out;have hnc18:=NB372_387.out;have hcz19_0:w16.cell? ⟨gb387,0,none⟩=some (.int .i64 0):=(blk_cell BK387.out 0).trans rfl;have hcz19_1:w16.cell? ⟨gb387,1,none⟩=some (.int .i64 0):=(blk_cell BK387.out 1).trans rfl;have hcz19_2:w16.cell? ⟨gb387,2,none⟩=some (.int .i64 0):=(blk_cell BK387.out 2).trans rfl;have hcz19_3:w16.cell? ⟨gb387,3,none⟩=some (.string (⟨#[]⟩:ByteArray)):=(blk_cell BK387.out 3).trans rfl;have hcz19_4:w16.cell? ⟨gb387,4,none⟩=some (.slice none 0 0):=(blk_cell BK387.out 4).trans rfl;have hcz19_5:w16.cell? ⟨gb387,5,none⟩=some (.slice none 0 0):=(blk_cell BK387.out 5).trans rfl;have hcz19_6:w16.cell? ⟨gb387,6,none⟩=some (.slice none 0 0):=(blk_cell BK387.out 6).trans rfl;have hfz19_0:=blk_frozen BK387.out 0;have hfz19_1:=blk_frozen BK387.out 1;have hfz19_2:=blk_frozen BK387.out 2;have hfz19_3:=blk_frozen BK387.out 3;have hfz19_4:=blk_frozen BK387.out 4;have hfz19_5:=blk_frozen BK387.out 5;have hfz19_6:=blk_frozen BK387.out 6;obtain ⟨Ao20,co20,eo20⟩:=Kd.R_slice HO380.out;subst eo20;obtain ⟨Ao21,co21,eo21⟩:=Kd.R_slice HO383.out;subst eo21;obtain ⟨Ao22,co22,eo22⟩:=Kd.R_slice HO386.out;subst eo22))
    have n0_:Aside0 (Kd.R Kd.string 9 (((((((w16.setCell ⟨gb387,0,none⟩ (.int .i64 t374)).setCell ⟨gb387,1,none⟩ (.int .i64 t375)).setCell ⟨gb387,2,none⟩ (.int .i64 t376)).setCell ⟨gb387,3,none⟩ (.string t377)).setCell ⟨gb387,4,none⟩ (.slice Ao20 t378.length co20)).setCell ⟨gb387,5,none⟩ (.slice Ao21 t381.length co21)).setCell ⟨gb387,6,none⟩ (.slice Ao22 t384.length co22)) w.heap.size (fun k_=>some k_≠(.slice Ao21 t381.length co21:Value).ownBlock) (.slice Ao20 t378.length co20) t378):=⟨by (with_reducible repeat (first|apply Kd.R_alloc|apply Kd.R_drewN|apply Kd.R_drew));exact Kd.R_mono (Kd.R_far (p:=⟨gb387,6,none⟩) (Kd.R_far (p:=⟨gb387,5,none⟩) (Kd.R_far (p:=⟨gb387,4,none⟩) (Kd.R_far (p:=⟨gb387,3,none⟩) (Kd.R_far (p:=⟨gb387,2,none⟩) (Kd.R_far (p:=⟨gb387,1,none⟩) (Kd.R_far (p:=⟨gb387,0,none⟩) (Kd.R_types HO380.out BK387.out (by decide)) (fun _ hk=>hk.2) (.int .i64 t374)) (fun _ hk=>hk.2) (.int .i64 t375)) (fun _ hk=>hk.2) (.int .i64 t376)) (fun _ hk=>hk.2) (.string t377)) (fun _ hk=>hk.2) (.slice Ao20 t378.length co20)) (fun _ hk=>hk.2) (.slice Ao21 t381.length co21)) (fun _ hk=>hk.2) (.slice Ao22 t384.length co22)) (fun _ hk=>hk.1)⟩
    have n1_:Aside0 (Kd.R Kd.string 9 (((((((w16.setCell ⟨gb387,0,none⟩ (.int .i64 t374)).setCell ⟨gb387,1,none⟩ (.int .i64 t375)).setCell ⟨gb387,2,none⟩ (.int .i64 t376)).setCell ⟨gb387,3,none⟩ (.string t377)).setCell ⟨gb387,4,none⟩ (.slice Ao20 t378.length co20)).setCell ⟨gb387,5,none⟩ (.slice Ao21 t381.length co21)).setCell ⟨gb387,6,none⟩ (.slice Ao22 t384.length co22)) w.heap.size (fun k_=>some k_≠(.slice Ao20 t378.length co20:Value).ownBlock) (.slice Ao21 t381.length co21) t381):=⟨by (with_reducible repeat (first|apply Kd.R_alloc|apply Kd.R_drewN|apply Kd.R_drew));exact Kd.R_mono (Kd.R_far (p:=⟨gb387,6,none⟩) (Kd.R_far (p:=⟨gb387,5,none⟩) (Kd.R_far (p:=⟨gb387,4,none⟩) (Kd.R_far (p:=⟨gb387,3,none⟩) (Kd.R_far (p:=⟨gb387,2,none⟩) (Kd.R_far (p:=⟨gb387,1,none⟩) (Kd.R_far (p:=⟨gb387,0,none⟩) (Kd.R_types HO383.out BK387.out (by decide)) (fun _ hk=>hk.2) (.int .i64 t374)) (fun _ hk=>hk.2) (.int .i64 t375)) (fun _ hk=>hk.2) (.int .i64 t376)) (fun _ hk=>hk.2) (.string t377)) (fun _ hk=>hk.2) (.slice Ao20 t378.length co20)) (fun _ hk=>hk.2) (.slice Ao21 t381.length co21)) (fun _ hk=>hk.2) (.slice Ao22 t384.length co22)) (fun _ hk=>hk.1)⟩
    have n2_:Aside0 (Kd.R (Kd.int .i64) 3 (((((((w16.setCell ⟨gb387,0,none⟩ (.int .i64 t374)).setCell ⟨gb387,1,none⟩ (.int .i64 t375)).setCell ⟨gb387,2,none⟩ (.int .i64 t376)).setCell ⟨gb387,3,none⟩ (.string t377)).setCell ⟨gb387,4,none⟩ (.slice Ao20 t378.length co20)).setCell ⟨gb387,5,none⟩ (.slice Ao21 t381.length co21)).setCell ⟨gb387,6,none⟩ (.slice Ao22 t384.length co22)) w.heap.size (fun _=>True) (.slice Ao22 t384.length co22) t384):=⟨by (with_reducible repeat (first|apply Kd.R_alloc|apply Kd.R_drewN|apply Kd.R_drew));exact Kd.R_mono (Kd.R_far (p:=⟨gb387,6,none⟩) (Kd.R_far (p:=⟨gb387,5,none⟩) (Kd.R_far (p:=⟨gb387,4,none⟩) (Kd.R_far (p:=⟨gb387,3,none⟩) (Kd.R_far (p:=⟨gb387,2,none⟩) (Kd.R_far (p:=⟨gb387,1,none⟩) (Kd.R_far (p:=⟨gb387,0,none⟩) (Kd.R_types HO386.out BK387.out (by decide)) (fun _ hk=>hk.2) (.int .i64 t374)) (fun _ hk=>hk.2) (.int .i64 t375)) (fun _ hk=>hk.2) (.int .i64 t376)) (fun _ hk=>hk.2) (.string t377)) (fun _ hk=>hk.2) (.slice Ao20 t378.length co20)) (fun _ hk=>hk.2) (.slice Ao21 t381.length co21)) (fun _ hk=>hk.2) (.slice Ao22 t384.length co22)) (fun _ hk=>trivial)⟩
    have n3_:Aside0 ((((((((w16.setCell ⟨gb387,0,none⟩ (.int .i64 t374)).setCell ⟨gb387,1,none⟩ (.int .i64 t375)).setCell ⟨gb387,2,none⟩ (.int .i64 t376)).setCell ⟨gb387,3,none⟩ (.string t377)).setCell ⟨gb387,4,none⟩ (.slice Ao20 t378.length co20)).setCell ⟨gb387,5,none⟩ (.slice Ao21 t381.length co21)).setCell ⟨gb387,6,none⟩ (.slice Ao22 t384.length co22)).heap[gb371]?=some (.cells #[.int .i64 a0_0,.int .i64 a0_1,.int .i64 a0_2,.string a0_3,.slice A0_4 l0_4.length c0_4,.slice A0_5 l0_5.length c0_5,.slice A0_6 l0_6.length c0_6] 25 (0,0))):=⟨by (with_reducible repeat (first|refine blk_drewN ?_ _|refine blk_drew ?_|refine blk_alloc ?_ _));refine blk_far ?_ NB371_387.out _;(with_reducible repeat (first|refine blk_drewN ?_ _|refine blk_drew ?_|refine blk_alloc ?_ _));refine blk_far ?_ NB371_387.out _;(with_reducible repeat (first|refine blk_drewN ?_ _|refine blk_drew ?_|refine blk_alloc ?_ _));refine blk_far ?_ NB371_387.out _;(with_reducible repeat (first|refine blk_drewN ?_ _|refine blk_drew ?_|refine blk_alloc ?_ _));refine blk_far ?_ NB371_387.out _;(with_reducible repeat (first|refine blk_drewN ?_ _|refine blk_drew ?_|refine blk_alloc ?_ _));refine blk_far ?_ NB371_387.out _;(with_reducible repeat (first|refine blk_drewN ?_ _|refine blk_drew ?_|refine blk_alloc ?_ _));refine blk_far ?_ NB371_387.out _;(with_reducible repeat (first|refine blk_drewN ?_ _|refine blk_drew ?_|refine blk_alloc ?_ _));refine blk_far ?_ NB371_387.out _;(with_reducible repeat (first|refine blk_drewN ?_ _|refine blk_drew ?_|refine blk_alloc ?_ _));exact BK371.out⟩
    have n4_:Aside0 ((((((((w16.setCell ⟨gb387,0,none⟩ (.int .i64 t374)).setCell ⟨gb387,1,none⟩ (.int .i64 t375)).setCell ⟨gb387,2,none⟩ (.int .i64 t376)).setCell ⟨gb387,3,none⟩ (.string t377)).setCell ⟨gb387,4,none⟩ (.slice Ao20 t378.length co20)).setCell ⟨gb387,5,none⟩ (.slice Ao21 t381.length co21)).setCell ⟨gb387,6,none⟩ (.slice Ao22 t384.length co22)).heap[gb372]?=some (.cells #[.int .i64 0,.int .i64 0,.int .i64 0,.string (⟨#[]⟩:ByteArray),.slice none 0 0,.slice none 0 0,.slice none 0 0] 25 (0,0))):=⟨by (with_reducible repeat (first|refine blk_drewN ?_ _|refine blk_drew ?_|refine blk_alloc ?_ _));refine blk_far ?_ NB372_387.out _;(with_reducible repeat (first|refine blk_drewN ?_ _|refine blk_drew ?_|refine blk_alloc ?_ _));refine blk_far ?_ NB372_387.out _;(with_reducible repeat (first|refine blk_drewN ?_ _|refine blk_drew ?_|refine blk_alloc ?_ _));refine blk_far ?_ NB372_387.out _;(with_reducible repeat (first|refine blk_drewN ?_ _|refine blk_drew ?_|refine blk_alloc ?_ _));refine blk_far ?_ NB372_387.out _;(with_reducible repeat (first|refine blk_drewN ?_ _|refine blk_drew ?_|refine blk_alloc ?_ _));refine blk_far ?_ NB372_387.out _;(with_reducible repeat (first|refine blk_drewN ?_ _|refine blk_drew ?_|refine blk_alloc ?_ _));refine blk_far ?_ NB372_387.out _;(with_reducible repeat (first|refine blk_drewN ?_ _|refine blk_drew ?_|refine blk_alloc ?_ _));refine blk_far ?_ NB372_387.out _;(with_reducible repeat (first|refine blk_drewN ?_ _|refine blk_drew ?_|refine blk_alloc ?_ _));exact BK372.out⟩
    have n5_:Aside0 ((((((((w16.setCell ⟨gb387,0,none⟩ (.int .i64 t374)).setCell ⟨gb387,1,none⟩ (.int .i64 t375)).setCell ⟨gb387,2,none⟩ (.int .i64 t376)).setCell ⟨gb387,3,none⟩ (.string t377)).setCell ⟨gb387,4,none⟩ (.slice Ao20 t378.length co20)).setCell ⟨gb387,5,none⟩ (.slice Ao21 t381.length co21)).setCell ⟨gb387,6,none⟩ (.slice Ao22 t384.length co22)).heap[gb387]?=some (.cells #[.int .i64 t374,.int .i64 t375,.int .i64 t376,.string t377,.slice Ao20 t378.length co20,.slice Ao21 t381.length co21,.slice Ao22 t384.length co22] 25 (0,0))):=⟨by (with_reducible repeat (first|refine blk_drewN ?_ _|refine blk_drew ?_|refine blk_alloc ?_ _));refine blk_put (cs:=#[.int .i64 t374,.int .i64 t375,.int .i64 t376,.string t377,.slice Ao20 t378.length co20,.slice Ao21 t381.length co21,.slice none 0 0]) ?_ 6 _ rfl;(with_reducible repeat (first|refine blk_drewN ?_ _|refine blk_drew ?_|refine blk_alloc ?_ _));refine blk_put (cs:=#[.int .i64 t374,.int .i64 t375,.int .i64 t376,.string t377,.slice Ao20 t378.length co20,.slice none 0 0,.slice none 0 0]) ?_ 5 _ rfl;(with_reducible repeat (first|refine blk_drewN ?_ _|refine blk_drew ?_|refine blk_alloc ?_ _));refine blk_put (cs:=#[.int .i64 t374,.int .i64 t375,.int .i64 t376,.string t377,.slice none 0 0,.slice none 0 0,.slice none 0 0]) ?_ 4 _ rfl;(with_reducible repeat (first|refine blk_drewN ?_ _|refine blk_drew ?_|refine blk_alloc ?_ _));refine blk_put (cs:=#[.int .i64 t374,.int .i64 t375,.int .i64 t376,.string (⟨#[]⟩:ByteArray),.slice none 0 0,.slice none 0 0,.slice none 0 0]) ?_ 3 _ rfl;(with_reducible repeat (first|refine blk_drewN ?_ _|refine blk_drew ?_|refine blk_alloc ?_ _));refine blk_put (cs:=#[.int .i64 t374,.int .i64 t375,.int .i64 0,.string (⟨#[]⟩:ByteArray),.slice none 0 0,.slice none 0 0,.slice none 0 0]) ?_ 2 _ rfl;(with_reducible repeat (first|refine blk_drewN ?_ _|refine blk_drew ?_|refine blk_alloc ?_ _));refine blk_put (cs:=#[.int .i64 t374,.int .i64 0,.int .i64 0,.string (⟨#[]⟩:ByteArray),.slice none 0 0,.slice none 0 0,.slice none 0 0]) ?_ 1 _ rfl;(with_reducible repeat (first|refine blk_drewN ?_ _|refine blk_drew ?_|refine blk_alloc ?_ _));refine blk_put (cs:=#[.int .i64 0,.int .i64 0,.int .i64 0,.string (⟨#[]⟩:ByteArray),.slice none 0 0,.slice none 0 0,.slice none 0 0]) ?_ 0 _ rfl;(with_reducible repeat (first|refine blk_drewN ?_ _|refine blk_drew ?_|refine blk_alloc ?_ _));exact BK387.out⟩
    have n6_:Aside0 (Below w.heap.size w (((((((w16.setCell ⟨gb387,0,none⟩ (.int .i64 t374)).setCell ⟨gb387,1,none⟩ (.int .i64 t375)).setCell ⟨gb387,2,none⟩ (.int .i64 t376)).setCell ⟨gb387,3,none⟩ (.string t377)).setCell ⟨gb387,4,none⟩ (.slice Ao20 t378.length co20)).setCell ⟨gb387,5,none⟩ (.slice Ao21 t381.length co21)).setCell ⟨gb387,6,none⟩ (.slice Ao22 t384.length co22))):=⟨by repeat (first|(with_reducible first|exact HB.out|apply below_alloc|apply pw_below_drewN|apply below_drew1|refine below_set ?_ GE371.out|refine below_set ?_ GE372.out|refine below_set ?_ GE387.out)|exact HB.out)⟩
    (try clear HO380)
    (try clear HO383)
    (try clear HO386)
    (try clear BK371)
    (try clear BK372)
    (try clear BK387)
    (try clear HB)
    generalize (((((((w16.setCell ⟨gb387,0,none⟩ (.int .i64 t374)).setCell ⟨gb387,1,none⟩ (.int .i64 t375)).setCell ⟨gb387,2,none⟩ (.int .i64 t376)).setCell ⟨gb387,3,none⟩ (.string t377)).setCell ⟨gb387,4,none⟩ (.slice Ao20 t378.length co20)).setCell ⟨gb387,5,none⟩ (.slice Ao21 t381.length co21)).setCell ⟨gb387,6,none⟩ (.slice Ao22 t384.length co22))=w23 at n0_ n1_ n2_ n3_ n4_ n5_ n6_ ⊢
    have HO380:=n0_
    have HO383:=n1_
    have HO386:=n2_
    have BK371:=n3_
    have BK372:=n4_
    have BK387:=n5_
    have HB:=n6_
    clear n0_ n1_ n2_ n3_ n4_ n5_ n6_
    have n0_:=Aside0.mk (Kd.R_drew HO380.out)
    have n1_:=Aside0.mk (Kd.R_drew HO383.out)
    have n2_:=Aside0.mk (Kd.R_drew HO386.out)
    have n3_:=Aside0.mk (blk_drew BK371.out)
    have n4_:=Aside0.mk (blk_drew BK372.out)
    have n5_:=Aside0.mk (blk_drew BK387.out)
    have n6_:=Aside0.mk (below_drew1 HB.out)
    clear HO380
    clear HO383
    clear HO386
    clear BK371
    clear BK372
    clear BK387
    clear HB
    have HO380:=n0_
    have HO383:=n1_
    have HO386:=n2_
    have BK371:=n3_
    have BK372:=n4_
    have BK387:=n5_
    have HB:=n6_
    clear n0_ n1_ n2_ n3_ n4_ n5_ n6_
    have p388:0≤(0:Int):=(by omega)
    have q388:0 < (l0_6.length:Int):=of_decide_eq_true (by first|(with_reducible assumption)|assumption)
    obtain ⟨ad388,e388,hx388_0⟩:=Kd.at_int HR0_6.out 0 p388 q388
    have hw388_0:=hx388_0
    (try rw [show ((0:Int)).toNat=0 from rfl] at hw388_0)
    (try rw [show 0*1=0 from rfl] at hw388_0)
    (try rw [Addr.add_zero'] at hw388_0)
    cases e388
    have qi388:(0 < l0_6.length)=True:=eq_true (by omega)
    (try rw [show ((0:Int)).toNat=0 from rfl] at hx388_0)
    (try rw [Addr.add_zero'] at hx388_0)
    replace hx388_0:=(HB.out.cell (World.block_lt_of_cell? w _ hx388_0)).trans hx388_0
    replace p388:=eq_true p388
    replace q388:=eq_true q388
    refine start_ (n:=10) (S:=fun w'=>w'.cell? ⟨gb387,0,none⟩=some (.int .i64 t374)∧w'.cell? ⟨gb387,1,none⟩=some (.int .i64 t375)∧w'.cell? ⟨gb387,2,none⟩=some (.int .i64 t376)∧w'.cell? ⟨gb387,3,none⟩=some (.string t377)∧w'.cell? ⟨gb387,4,none⟩=some (.slice Ao20 t378.length co20)∧w'.cell? ⟨gb387,5,none⟩=some (.slice Ao21 t381.length co21)∧w'.cell? ⟨gb387,6,none⟩=some (.slice Ao22 t384.length co22)∧w'.cell? ⟨gb371,0,none⟩=some (.int .i64 a0_0)∧w'.cell? ⟨gb371,1,none⟩=some (.int .i64 a0_1)∧w'.cell? ⟨gb371,2,none⟩=some (.int .i64 a0_2)∧w'.cell? ⟨gb371,3,none⟩=some (.string a0_3)∧w'.cell? ⟨gb371,4,none⟩=some (.slice A0_4 l0_4.length c0_4)∧w'.cell? ⟨gb371,5,none⟩=some (.slice A0_5 l0_5.length c0_5)∧w'.cell? ⟨gb371,6,none⟩=some (.slice (some ad388) l0_6.length c0_6)∧w'.cell? ad388=some (.int .i64 (rd l0_6 0))) (ds:=[9]) #[false,false,false,false,false,false,false,false,false,false] (by kernel_rfl) rfl rfl ⟨(blk_cell BK387.out 0).trans rfl,(blk_cell BK387.out 1).trans rfl,(blk_cell BK387.out 2).trans rfl,(blk_cell BK387.out 3).trans rfl,(blk_cell BK387.out 4).trans rfl,(blk_cell BK387.out 5).trans rfl,(blk_cell BK387.out 6).trans rfl,(blk_cell BK371.out 0).trans rfl,(blk_cell BK371.out 1).trans rfl,(blk_cell BK371.out 2).trans rfl,(blk_cell BK371.out 3).trans rfl,(blk_cell BK371.out 4).trans rfl,(blk_cell BK371.out 5).trans rfl,(blk_cell BK371.out 6).trans rfl,((HB.out.cell (World.block_lt_of_cell? w _ hw388_0)).trans hw388_0)⟩ (fun hHeld=>?_);refine with_tabW latticeref07_Post.tab5 latticeref07_Post.bits5 (fun HT_ HW_=>?_)
    generalize w23.drew=w24 at HO380 HO383 HO386 BK371 BK372 BK387 HB hx388_0 hHeld ⊢
    refine pure_ (i:=0) (N:=some 23) (v:=?_) (a':=?_) #[true,false,false,false,false,false,false,false,false,false] rfl rfl (any_of HT_.out (by kernel_rfl)) (fun _ _ _ h=>h) (Or.inl ⟨by rfl,?_⟩) ?_ ?_
    rotate_left
    ·intro w'
     go_simp
     with_reducible rfl
    rotate_left
    ·simp only [Act.put,List.setIfInBounds_toArray,List.set_cons_zero,List.set_cons_succ,i64_w,i32_w]
     rfl
    refine pure_ (i:=2) (N:=some 25) (v:=?_) (a':=?_) #[true,false,true,false,false,false,false,false,false,false] rfl rfl (any_of HT_.out (by kernel_rfl)) (fun _ _ _ h=>h) (Or.inl ⟨by rfl,?_⟩) ?_ ?_
    rotate_left
    ·intro w'
     go_simp
     with_reducible rfl
    rotate_left
    ·simp only [Act.put,List.setIfInBounds_toArray,List.set_cons_zero,List.set_cons_succ,i64_w,i32_w]
     rfl
    refine take_ (i:=1) (N:=some 24) (v:=?_) (a':=?_) #[true,true,true,false,false,false,false,false,false,false] rfl rfl (take_ofW HT_.out HW_.out (by kernel_rfl)) (fun _ _ _ h=>h) (Or.inl ⟨by rfl,?_⟩) hHeld ?_ ?_
    rotate_left
    ·rintro w' ⟨s0,s1,s2,s3,s4,s5,s6,s7,s8,s9,s10,s11,s12,s13,s14⟩
     go_simp
     with_reducible rfl
    rotate_left
    ·simp only [Act.put,List.setIfInBounds_toArray,List.set_cons_zero,List.set_cons_succ,i64_w,i32_w]
     rfl
    refine take_ (i:=3) (N:=some 26) (v:=?_) (a':=?_) #[true,true,true,true,false,false,false,false,false,false] rfl rfl (take_ofW HT_.out HW_.out (by kernel_rfl)) (fun _ _ _ h=>h) (Or.inl ⟨by rfl,?_⟩) hHeld ?_ ?_
    rotate_left
    ·rintro w' ⟨s0,s1,s2,s3,s4,s5,s6,s7,s8,s9,s10,s11,s12,s13,s14⟩
     go_simp
     with_reducible rfl
    rotate_left
    ·simp only [Act.put,List.setIfInBounds_toArray,List.set_cons_zero,List.set_cons_succ,i64_w,i32_w]
     rfl
    refine pure_ (i:=4) (N:=some 27) (v:=?_) (a':=?_) #[true,true,true,true,true,false,false,false,false,false] rfl rfl (any_of HT_.out (by kernel_rfl)) (fun _ _ _ h=>h) (Or.inl ⟨by rfl,?_⟩) ?_ ?_
    rotate_left
    ·intro w'
     go_simp
     with_reducible rfl
    rotate_left
    ·simp only [Act.put,List.setIfInBounds_toArray,List.set_cons_zero,List.set_cons_succ,i64_w,i32_w]
     rfl
    refine take_ (i:=5) (N:=some 28) (v:=?_) (a':=?_) #[true,true,true,true,true,true,false,false,false,false] rfl rfl (take_ofW HT_.out HW_.out (by kernel_rfl)) (fun _ _ _ h=>h) (Or.inl ⟨by rfl,?_⟩) hHeld ?_ ?_
    rotate_left
    ·rintro w' ⟨s0,s1,s2,s3,s4,s5,s6,s7,s8,s9,s10,s11,s12,s13,s14⟩
     go_simp
     with_reducible rfl
    rotate_left
    ·simp only [Act.put,List.setIfInBounds_toArray,List.set_cons_zero,List.set_cons_succ,i64_w,i32_w]
     rfl
    refine one_ (i:=6) (N:=some 29) #[true,true,true,true,true,true,true,false,false,false] rfl rfl (one_of HT_.out (by kernel_rfl)) (by decide) (fun K hK=>?_)
    refine value_ (w1:=?_) (v:=?_) (by rfl) rfl ?_ ?_
    rotate_left 2
    ·go_simp
     constructor
     ·rfl
     ·rfl
    refine hK.out _ _ ⟨(blk_cell (blk_alloc BK387.out _) 0).trans rfl,(blk_cell (blk_alloc BK387.out _) 1).trans rfl,(blk_cell (blk_alloc BK387.out _) 2).trans rfl,(blk_cell (blk_alloc BK387.out _) 3).trans rfl,(blk_cell (blk_alloc BK387.out _) 4).trans rfl,(blk_cell (blk_alloc BK387.out _) 5).trans rfl,(blk_cell (blk_alloc BK387.out _) 6).trans rfl,(blk_cell (blk_alloc BK371.out _) 0).trans rfl,(blk_cell (blk_alloc BK371.out _) 1).trans rfl,(blk_cell (blk_alloc BK371.out _) 2).trans rfl,(blk_cell (blk_alloc BK371.out _) 3).trans rfl,(blk_cell (blk_alloc BK371.out _) 4).trans rfl,(blk_cell (blk_alloc BK371.out _) 5).trans rfl,(blk_cell (blk_alloc BK371.out _) 6).trans rfl,(World.cell?_alloc_lt _ _ _ (World.block_lt_of_cell? _ _ (((HB.out.cell (World.block_lt_of_cell? w _ hw388_0)).trans hw388_0)))).trans (((HB.out.cell (World.block_lt_of_cell? w _ hw388_0)).trans hw388_0))⟩ (fun hHeld=>?_)
    clear hK K
    refine norm_ (a':=?_) ?_ ?_
    rotate_left
    ·show Act.put _ (some 29) _=_
     simp only [Act.put,List.setIfInBounds_toArray,List.set_cons_zero,List.set_cons_succ,i64_w,i32_w]
     rfl
    refine one_ (i:=7) (N:=some 30) #[true,true,true,true,true,true,true,true,false,false] rfl rfl (one_of HT_.out (by kernel_rfl)) (by decide) (fun K hK=>?_)
    refine Kd.R_append_step (Kd.int .i64) (w0:=w) w.heap.size (by rfl) (.tmp 24) (.tmp 29) 23 3 (.int .i64 0) 8 rfl Try.underlying23 info3 rfl (by decide) (by omega) (.slice Ao22 t384.length co22) t384 (rd l0_6 0) [.int .i64 (rd l0_6 0)] (fun _=>True) (fun _=>False) rfl rfl ?aP (fun _ hk=>hk.elim) ?aF ?aO ?aB ?aS ?aL ?_
    (case aP=>exact rfl)
    (case aB=>exact (by repeat (first|(with_reducible first|exact HB.out|apply below_alloc|apply pw_below_drewN|apply below_drew1|refine below_set ?_ GE371.out|refine below_set ?_ GE372.out|refine below_set ?_ GE387.out)|exact HB.out)))
    (case aF=>exact (fun _ _=>trivial))
    (case aO=>exact (by (with_reducible repeat (first|apply Kd.R_alloc|apply Kd.R_drewN|apply Kd.R_drew));exact HO386.out))
    (case aS=>exact (below_size (by repeat (first|(with_reducible first|exact HB.out|apply below_alloc|apply pw_below_drewN|apply below_drew1|refine below_set ?_ GE371.out|refine below_set ?_ GE372.out|refine below_set ?_ GE387.out)|exact HB.out))))
    (case aL=>have:=LMc8.out;omega)
    intro v390 w25 ho hb hg hat
    rw [← Ny389.out] at ho
    have n0_:=Aside0.mk (blk_grown (g:=gb371) (o:=.cells #[.int .i64 a0_0,.int .i64 a0_1,.int .i64 a0_2,.string a0_3,.slice A0_4 l0_4.length c0_4,.slice A0_5 l0_5.length c0_5,.slice (some ad388) l0_6.length c0_6] 25 (0,0)) (by (with_reducible repeat (first|refine blk_drewN ?_ _|refine blk_drew ?_|refine blk_alloc ?_ _));exact BK371.out) hg (Kd.R_ne HO386.out BK371.out (by decide)))
    have n1_:=Aside0.mk (blk_grown (g:=gb372) (o:=.cells #[.int .i64 0,.int .i64 0,.int .i64 0,.string (⟨#[]⟩:ByteArray),.slice none 0 0,.slice none 0 0,.slice none 0 0] 25 (0,0)) (by (with_reducible repeat (first|refine blk_drewN ?_ _|refine blk_drew ?_|refine blk_alloc ?_ _));exact BK372.out) hg (Kd.R_ne HO386.out BK372.out (by decide)))
    have n2_:=Aside0.mk (Kd.R_over' (by (with_reducible repeat (first|apply Kd.R_alloc|apply Kd.R_drewN|apply Kd.R_drew));exact HO380.out) (Kd.R_typed (by (with_reducible repeat (first|apply Kd.R_alloc|apply Kd.R_drewN|apply Kd.R_drew));exact HO386.out)) (by decide) hg)
    have n3_:=Aside0.mk (Kd.R_over' (by (with_reducible repeat (first|apply Kd.R_alloc|apply Kd.R_drewN|apply Kd.R_drew));exact HO383.out) (Kd.R_typed (by (with_reducible repeat (first|apply Kd.R_alloc|apply Kd.R_drewN|apply Kd.R_drew));exact HO386.out)) (by decide) hg)
    have n4_:=Aside0.mk (blk_grown (g:=gb387) (o:=.cells #[.int .i64 t374,.int .i64 t375,.int .i64 t376,.string t377,.slice Ao20 t378.length co20,.slice Ao21 t381.length co21,.slice Ao22 t384.length co22] 25 (0,0)) (by (with_reducible repeat (first|refine blk_drewN ?_ _|refine blk_drew ?_|refine blk_alloc ?_ _));exact BK387.out) hg (Kd.R_ne HO386.out BK387.out (by decide)))
    have n5_:=Aside0.mk (hb)
    have n6_:=Aside0.mk (ho)
    clear BK371
    clear BK372
    clear HO380
    clear HO383
    clear BK387
    clear HB
    clear HO386
    have BK371:=n0_
    have BK372:=n1_
    have HO380:=n2_
    have HO383:=n3_
    have BK387:=n4_
    have HB:=n5_
    have HO391:=n6_
    clear n0_ n1_ n2_ n3_ n4_ n5_ n6_
    clear ho hb hg hat
    obtain ⟨Ao26,co26,eo26⟩:=Kd.R_slice HO391.out
    (first|subst eo26|(injection eo26 with f1_ f2_ f3_;have f4_:=f1_.symm;have f5_:=f3_.symm;clear f1_ f2_ f3_;subst f4_;subst f5_))
    refine hK.out _ _ ⟨(blk_cell BK387.out 0).trans rfl,(blk_cell BK387.out 1).trans rfl,(blk_cell BK387.out 2).trans rfl,(blk_cell BK387.out 3).trans rfl,(blk_cell BK387.out 4).trans rfl,(blk_cell BK387.out 5).trans rfl,(blk_cell BK387.out 6).trans rfl,(blk_cell BK371.out 0).trans rfl,(blk_cell BK371.out 1).trans rfl,(blk_cell BK371.out 2).trans rfl,(blk_cell BK371.out 3).trans rfl,(blk_cell BK371.out 4).trans rfl,(blk_cell BK371.out 5).trans rfl,(blk_cell BK371.out 6).trans rfl,((HB.out.cell (World.block_lt_of_cell? w _ hw388_0)).trans hw388_0)⟩ (fun hHeld=>?_)
    clear hK K
    refine norm_ (a':=?_) ?_ ?_
    rotate_left
    ·show Act.put _ (some 30) _=_
     simp only [Act.put,List.setIfInBounds_toArray,List.set_cons_zero,List.set_cons_succ,i64_w,i32_w]
     rfl
    refine pure_ (i:=8) (N:=some 31) (v:=?_) (a':=?_) #[true,true,true,true,true,true,true,true,true,false] rfl rfl (any_of HT_.out (by kernel_rfl)) (fun _ _ _ h=>h) (Or.inl ⟨by rfl,?_⟩) ?_ ?_
    rotate_left
    ·intro w'
     go_simp
     with_reducible rfl
    rotate_left
    ·simp only [Act.put,List.setIfInBounds_toArray,List.set_cons_zero,List.set_cons_succ,i64_w,i32_w]
     rfl
    refine last_ (i:=9) (N:=none) #[true,true,true,true,true,true,true,true,true,true] rfl rfl (one_of HT_.out (by kernel_rfl)) (by decide) (fun K hK=>?_)
    have hs27:w25.cell? ⟨gb387,6,none⟩=some (.slice Ao22 t384.length co22):=(blk_cell BK387.out 6).trans rfl
    have hfs27:=blk_frozen BK387.out 6
    have hns27_0:=NB371_387.out
    have hns27_1:=NB372_387.out
    have hms27_0:=NB387_371.out
    have hms27_1:=NB387_372.out
    refine skip_ (w1:=?_) (by rfl) rfl ?_ ?_
    rotate_left
    ·go_simp
     rfl
    refine hK.out _ _ ?_
    clear hK K
    refine done_ (done_of HT_.out (by kernel_rfl)) ?_
    have hcz28_0:w25.cell? ⟨gb371,0,none⟩=some (.int .i64 a0_0):=(blk_cell BK371.out 0).trans rfl
    have hcz28_1:w25.cell? ⟨gb371,1,none⟩=some (.int .i64 a0_1):=(blk_cell BK371.out 1).trans rfl
    have hcz28_2:w25.cell? ⟨gb371,2,none⟩=some (.int .i64 a0_2):=(blk_cell BK371.out 2).trans rfl
    have hcz28_3:w25.cell? ⟨gb371,3,none⟩=some (.string a0_3):=(blk_cell BK371.out 3).trans rfl
    have hcz28_4:w25.cell? ⟨gb371,4,none⟩=some (.slice A0_4 l0_4.length c0_4):=(blk_cell BK371.out 4).trans rfl
    have hcz28_5:w25.cell? ⟨gb371,5,none⟩=some (.slice A0_5 l0_5.length c0_5):=(blk_cell BK371.out 5).trans rfl
    have hcz28_6:w25.cell? ⟨gb371,6,none⟩=some (.slice (some ad388) l0_6.length c0_6):=(blk_cell BK371.out 6).trans rfl
    have hfz28_0:=blk_frozen BK371.out 0
    have hfz28_1:=blk_frozen BK371.out 1
    have hfz28_2:=blk_frozen BK371.out 2
    have hfz28_3:=blk_frozen BK371.out 3
    have hfz28_4:=blk_frozen BK371.out 4
    have hfz28_5:=blk_frozen BK371.out 5
    have hfz28_6:=blk_frozen BK371.out 6
    try go_wp2
    go_loopg [10,35] k (fun kq v10 v35 w'=>∃ (x10_1:Bool) (x35_1:Int) (x373000_1:Int) (x373001_1:Int) (x373002_1:Int) (x373003_1:ByteArray) (x388004_1:List ByteArray) (x388006_1:List Int) (u388004:Value) (u388006:Value),v10=.bool x10_1∧v35=.int .i64 x35_1∧Aside0 (latticeref07_Post.l0 kq a1 a2 x10_1 l0_4 (l0_4.length:Int) x35_1 a0_0 a0_1 a0_2 a0_3 l0_4 l0_5 l0_6 t374 t375 t376 t377 x388004_1 t381 x388006_1=some (r1,r2,r3,r4,r5,r6,r7,r8))∧Aside0 (kq≤k)∧Aside0 (Kd.R Kd.string 9 w' w.heap.size (fun k_=>some k_≠((.slice Ao21 t381.length co21):Value).ownBlock) u388004 x388004_1)∧Aside0 (Kd.R Kd.string 9 w' w.heap.size (fun k_=>some k_≠(u388004:Value).ownBlock) (.slice Ao21 t381.length co21) t381)∧Aside0 (Kd.R (Kd.int .i64) 3 w' w.heap.size (fun _=>True) u388006 x388006_1)∧Aside0 (w'.heap[gb371]?=some (.cells #[.int .i64 a0_0,.int .i64 a0_1,.int .i64 a0_2,.string a0_3,(.slice A0_4 l0_4.length c0_4),(.slice A0_5 l0_5.length c0_5),(.slice (some ad388) l0_6.length c0_6)] 25 (0,0)))∧Aside0 (w'.heap[gb372]?=some (.cells #[.int .i64 x373000_1,.int .i64 x373001_1,.int .i64 x373002_1,.string x373003_1,(.slice none 0 0),(.slice none 0 0),(.slice none 0 0)] 25 (0,0)))∧Aside0 (w'.heap[gb387]?=some (.cells #[.int .i64 t374,.int .i64 t375,.int .i64 t376,.string t377,u388004,(.slice Ao21 t381.length co21),u388006] 25 (0,0)))∧Aside0 (Below w.heap.size w w'))
    case atStart=>exact ⟨(false),(0),(0),(0),(0),((⟨#[]⟩:ByteArray)),(t378),(y389),(.slice Ao20 t378.length co20),(.slice Ao26 y389.length co26),(by first|rfl|(simp;done)|(simp [*];done)),(by first|rfl|(simp;done)|(simp [*];done)),H',⟨Nat.le_refl _⟩,⟨by (with_reducible repeat (first|apply Kd.R_alloc|apply Kd.R_drewN|apply Kd.R_drew));exact Kd.R_mono (Kd.R_far (p:=⟨gb387,6,none⟩) (Kd.R_types HO380.out BK387.out (by decide)) (fun _ hk=>hk.2) (.slice Ao26 y389.length co26)) (fun _ hk=>hk.1)⟩,⟨by (with_reducible repeat (first|apply Kd.R_alloc|apply Kd.R_drewN|apply Kd.R_drew));exact Kd.R_mono (Kd.R_far (p:=⟨gb387,6,none⟩) (Kd.R_types HO383.out BK387.out (by decide)) (fun _ hk=>hk.2) (.slice Ao26 y389.length co26)) (fun _ hk=>hk.1)⟩,⟨by (with_reducible repeat (first|apply Kd.R_alloc|apply Kd.R_drewN|apply Kd.R_drew));exact Kd.R_mono (Kd.R_far (p:=⟨gb387,6,none⟩) (Kd.R_types HO391.out BK387.out (by decide)) (fun _ hk=>hk.2) (.slice Ao26 y389.length co26)) (fun _ hk=>trivial)⟩,⟨by (with_reducible repeat (first|refine blk_drewN ?_ _|refine blk_drew ?_|refine blk_alloc ?_ _));refine blk_far ?_ NB371_387.out _;(with_reducible repeat (first|refine blk_drewN ?_ _|refine blk_drew ?_|refine blk_alloc ?_ _));exact BK371.out⟩,⟨by (with_reducible repeat (first|refine blk_drewN ?_ _|refine blk_drew ?_|refine blk_alloc ?_ _));refine blk_far ?_ NB372_387.out _;(with_reducible repeat (first|refine blk_drewN ?_ _|refine blk_drew ?_|refine blk_alloc ?_ _));exact BK372.out⟩,⟨by (with_reducible repeat (first|refine blk_drewN ?_ _|refine blk_drew ?_|refine blk_alloc ?_ _));refine blk_put (cs:=#[.int .i64 t374,.int .i64 t375,.int .i64 t376,.string t377,.slice Ao20 t378.length co20,.slice Ao21 t381.length co21,.slice Ao22 t384.length co22]) ?_ 6 _ rfl;(with_reducible repeat (first|refine blk_drewN ?_ _|refine blk_drew ?_|refine blk_alloc ?_ _));exact BK387.out⟩,⟨by repeat (first|(with_reducible first|exact HB.out|apply below_alloc|apply pw_below_drewN|apply below_drew1|refine below_set ?_ GE371.out|refine below_set ?_ GE372.out|refine below_set ?_ GE387.out)|exact HB.out)⟩⟩
    case round =>
     clear H'
     try clear c1
     try clear c2
     try clear p2
     try clear p3
     try clear q3
     try clear hx3
     try clear qi3
     try clear c4
     try clear c5
     try clear c5b0
     try clear c5b1
     try clear c7
     try clear c7b0
     try clear c7b1
     try clear c8
     try clear c11
     try clear c17
     try clear c18
     try clear c27
     try clear hcz12_0
     try clear hcz12_1
     try clear hcz12_2
     try clear hcz12_3
     try clear hcz12_4
     try clear hcz12_5
     try clear hcz12_6
     try clear hcz14_0
     try clear hcz14_1
     try clear hcz14_2
     try clear hcz14_3
     try clear hcz14_4
     try clear hcz14_5
     try clear hcz14_6
     try clear hcz19_0
     try clear hcz19_1
     try clear hcz19_2
     try clear hcz19_3
     try clear hcz19_4
     try clear hcz19_5
     try clear hcz19_6
     try clear hcz28_0
     try clear hcz28_1
     try clear hcz28_2
     try clear hcz28_3
     try clear hcz28_4
     try clear hcz28_5
     try clear hcz28_6
     try clear hfz12_0
     try clear hfz12_1
     try clear hfz12_2
     try clear hfz12_3
     try clear hfz12_4
     try clear hfz12_5
     try clear hfz12_6
     try clear hfz14_0
     try clear hfz14_1
     try clear hfz14_2
     try clear hfz14_3
     try clear hfz14_4
     try clear hfz14_5
     try clear hfz14_6
     try clear hfz19_0
     try clear hfz19_1
     try clear hfz19_2
     try clear hfz19_3
     try clear hfz19_4
     try clear hfz19_5
     try clear hfz19_6
     try clear hfz28_0
     try clear hfz28_1
     try clear hfz28_2
     try clear hfz28_3
     try clear hfz28_4
     try clear hfz28_5
     try clear hfz28_6
     try clear hx388_0
     try clear p388
     try clear q388
     obtain ⟨x10_1,x35_1,x373000_1,x373001_1,x373002_1,x373003_1,x388004_1,x388006_1,u388004,u388006,rfl,rfl,HA,HK1,HO_388004,HO_388005,HO_388006,BK371,BK372,BK387,HB⟩:=hrel
     cases gk with
     | zero=>exact absurd HA.out (by simp [latticeref07_Post.l0])
     | succ k1 =>
      have H:=HA.out
      clear HA
      simp only [latticeref07_Post.l0] at H
      by_cases c29:x35_1 < (l0_4.length:Int)
      ·rw [if_pos c29] at H
       have c29b0:decide (x35_1 < (l0_4.length:Int))=true:=decide_eq_true c29
       clear c29
       by_cases c30:0≤x35_1
       ·rw [if_pos c30] at H
        have c30b0:decide (0≤x35_1)=true:=decide_eq_true c30
        clear c30
        by_cases c31:x35_1 < (l0_4.length:Int)
        ·rw [if_pos c31] at H
         have c31b0:decide (x35_1 < (l0_4.length:Int))=true:=decide_eq_true c31
         clear c31
         by_cases c32:(rdOf ByteArray.empty l0_4 x35_1).toList=a1.toList
         ·rw [if_pos c32] at H
          have c32b0:((rdOf ByteArray.empty l0_4 x35_1).toList==a1.toList)=true:=beq_iff_eq.mpr c32
          have c32b1:((rdOf ByteArray.empty l0_4 x35_1).toList != a1.toList)=false:=bne_eq_false_iff_eq.mpr c32
          clear c32
          obtain ⟨ji33,hji33⟩:∃ j_:Int,(wrap64 (x35_1+1))=j_:=⟨_,rfl⟩
          replace H:(if 0≤(ji33) then (if (ji33) < (l0_6.length:Int) then (if (rd l0_6 (ji33))=a2 then (if x388004_1.length < 8796093022208 then (if x388006_1.length < 17592186044416 then (latticeref07_Post.l0 k1 a1 a2 true l0_4 (l0_4.length:Int) ji33 a0_0 a0_1 a0_2 a0_3 l0_4 l0_5 l0_6 t374 t375 t376 t377 (x388004_1++[rdOf ByteArray.empty l0_4 x35_1]) t381 (x388006_1++[rd l0_6 (ji33)])) else (none)) else (none)) else (some (0,0,0,(⟨#[]⟩:ByteArray),([]:List ByteArray),([]:List ByteArray),([]:List Int),4))) else (none)) else (none))=some (r1,r2,r3,r4,r5,r6,r7,r8):=by first|(rw [hji33] at H;exact H)|(simp only [hji33] at H ⊢;exact H)
          have hji33w:(IntKind.i64.wrap (x35_1+1))=ji33:=(i64_w _).trans hji33
          by_cases c34:0≤(ji33)
          ·rw [if_pos c34] at H
           have c34b0:decide (0≤(ji33))=true:=decide_eq_true c34
           clear c34
           by_cases c35:(ji33) < (l0_6.length:Int)
           ·rw [if_pos c35] at H
            have c35b0:decide ((ji33) < (l0_6.length:Int))=true:=decide_eq_true c35
            clear c35
            by_cases c36:(rd l0_6 (ji33))=a2
            ·rw [if_pos c36] at H
             have c36b0:((rd l0_6 (ji33))==a2)=true:=beq_iff_eq.mpr c36
             have c36b1:((rd l0_6 (ji33)) != a2)=false:=bne_eq_false_iff_eq.mpr c36
             clear c36
             by_cases c37:x388004_1.length < 8796093022208
             ·rw [if_pos c37] at H
              have LMc37:=Aside0.mk c37
              clear c37
              obtain ⟨y394,hy394⟩:∃ y_:List ByteArray,y_=(x388004_1++[rdOf ByteArray.empty l0_4 x35_1]):=⟨_,rfl⟩
              replace H:(if x388006_1.length < 17592186044416 then (latticeref07_Post.l0 k1 a1 a2 true l0_4 (l0_4.length:Int) ji33 a0_0 a0_1 a0_2 a0_3 l0_4 l0_5 l0_6 t374 t375 t376 t377 y394 t381 (x388006_1++[rd l0_6 (ji33)])) else (none))=some (r1,r2,r3,r4,r5,r6,r7,r8):=by first|(rw [hy394];with_reducible exact H)|(have H2_:=(Option.bind_some _ _).symm.trans H;rw [hy394];with_reducible exact H2_)|(have H2_:=(Option.bind_some _ _).symm.trans H;with_reducible exact H2_)|with_reducible exact H|(rw [hy394];exact H)|exact H
              have Ny394:=Aside0.mk hy394
              clear hy394
              by_cases c38:x388006_1.length < 17592186044416
              ·rw [if_pos c38] at H
               have LMc38:=Aside0.mk c38
               clear c38
               obtain ⟨y398,hy398⟩:∃ y_:List Int,y_=(x388006_1++[rd l0_6 (ji33)]):=⟨_,rfl⟩
               replace H:(latticeref07_Post.l0 k1 a1 a2 true l0_4 (l0_4.length:Int) ji33 a0_0 a0_1 a0_2 a0_3 l0_4 l0_5 l0_6 t374 t375 t376 t377 y394 t381 y398)=some (r1,r2,r3,r4,r5,r6,r7,r8):=by first|(rw [hy398];with_reducible exact H)|(have H2_:=(Option.bind_some _ _).symm.trans H;rw [hy398];with_reducible exact H2_)|(have H2_:=(Option.bind_some _ _).symm.trans H;with_reducible exact H2_)|with_reducible exact H|(rw [hy398];exact H)|exact H
               have Ny398:=Aside0.mk hy398
               clear hy398
               have H':=Aside0.mk H
               clear H
               have p392:0≤(x35_1:Int):=of_decide_eq_true (by first|(with_reducible assumption)|assumption)
               have q392:x35_1 < (l0_4.length:Int):=of_decide_eq_true (by first|(with_reducible assumption)|assumption)
               obtain ⟨ad392,e392,hx392_0⟩:=Kd.at_string HR0_4.out x35_1 p392 q392
               cases e392
               replace hx392_0:=(HB.out.cell (World.block_lt_of_cell? w _ hx392_0)).trans hx392_0
               replace p392:=eq_true p392
               replace q392:=eq_true q392
               have hnb39:=NB371_372.out
               have hnc39:=NB372_371.out
               have hnb40:=NB371_387.out
               have hnc40:=NB387_371.out
               have hcz41_0:wr.cell? ⟨gb371,0,none⟩=some (.int .i64 a0_0):=(blk_cell BK371.out 0).trans rfl
               have hcz41_1:wr.cell? ⟨gb371,1,none⟩=some (.int .i64 a0_1):=(blk_cell BK371.out 1).trans rfl
               have hcz41_2:wr.cell? ⟨gb371,2,none⟩=some (.int .i64 a0_2):=(blk_cell BK371.out 2).trans rfl
               have hcz41_3:wr.cell? ⟨gb371,3,none⟩=some (.string a0_3):=(blk_cell BK371.out 3).trans rfl
               have hcz41_4:wr.cell? ⟨gb371,4,none⟩=some (.slice (some ad392) l0_4.length c0_4):=(blk_cell BK371.out 4).trans rfl
               have hcz41_5:wr.cell? ⟨gb371,5,none⟩=some (.slice A0_5 l0_5.length c0_5):=(blk_cell BK371.out 5).trans rfl
               have hcz41_6:wr.cell? ⟨gb371,6,none⟩=some (.slice (some ad388) l0_6.length c0_6):=(blk_cell BK371.out 6).trans rfl
               have hfz41_0:=blk_frozen BK371.out 0
               have hfz41_1:=blk_frozen BK371.out 1
               have hfz41_2:=blk_frozen BK371.out 2
               have hfz41_3:=blk_frozen BK371.out 3
               have hfz41_4:=blk_frozen BK371.out 4
               have hfz41_5:=blk_frozen BK371.out 5
               have hfz41_6:=blk_frozen BK371.out 6
               have p393:0≤((ji33):Int):=of_decide_eq_true (by first|(with_reducible assumption)|assumption)
               have q393:(ji33) < (l0_6.length:Int):=of_decide_eq_true (by first|(with_reducible assumption)|assumption)
               obtain ⟨ad393,e393,hx393_0⟩:=Kd.at_int HR0_6.out (ji33) p393 q393
               obtain rfl:ad388=ad393:=(by injection e393)
               replace hx393_0:=(HB.out.cell (World.block_lt_of_cell? w _ hx393_0)).trans hx393_0
               replace p393:=eq_true p393
               replace q393:=eq_true q393
               have hnb42:=NB387_372.out
               have hnc42:=NB372_387.out
               have hcz43_0:wr.cell? ⟨gb387,0,none⟩=some (.int .i64 t374):=(blk_cell BK387.out 0).trans rfl
               have hcz43_1:wr.cell? ⟨gb387,1,none⟩=some (.int .i64 t375):=(blk_cell BK387.out 1).trans rfl
               have hcz43_2:wr.cell? ⟨gb387,2,none⟩=some (.int .i64 t376):=(blk_cell BK387.out 2).trans rfl
               have hcz43_3:wr.cell? ⟨gb387,3,none⟩=some (.string t377):=(blk_cell BK387.out 3).trans rfl
               have hcz43_4:wr.cell? ⟨gb387,4,none⟩=some (u388004):=(blk_cell BK387.out 4).trans rfl
               have hcz43_5:wr.cell? ⟨gb387,5,none⟩=some (.slice Ao21 t381.length co21):=(blk_cell BK387.out 5).trans rfl
               have hcz43_6:wr.cell? ⟨gb387,6,none⟩=some (u388006):=(blk_cell BK387.out 6).trans rfl
               have hfz43_0:=blk_frozen BK387.out 0
               have hfz43_1:=blk_frozen BK387.out 1
               have hfz43_2:=blk_frozen BK387.out 2
               have hfz43_3:=blk_frozen BK387.out 3
               have hfz43_4:=blk_frozen BK387.out 4
               have hfz43_5:=blk_frozen BK387.out 5
               have hfz43_6:=blk_frozen BK387.out 6
               try go_wp2_with (first|((with_reducible refine gate_builtin (b:=.append) (xs:=#[.tmp 73,.tmp 75]) rfl ?_);at_builtin;refine Kd.R_append Kd.string (w0:=w) w.heap.size rfl (.tmp 73) (.tmp 75) 22 9 (.string ⟨#[]⟩) 16 rfl Try.underlying22 info9 rfl (by decide) (by omega) u388004 x388004_1 (rdOf ByteArray.empty l0_4 x35_1) [.string (rdOf ByteArray.empty l0_4 x35_1)] (fun k_=>some k_≠(.slice Ao21 t381.length co21:Value).ownBlock) (fun _=>False) rfl rfl ?aP (fun _ hk=>hk.elim) ?aF ?aO ?aB ?aS ?aL ?_;(case aP=>exact rfl);(case aB=>exact (by repeat (first|(with_reducible first|exact HB.out|apply below_alloc|apply pw_below_drewN|apply below_drew1|refine below_set ?_ GE371.out|refine below_set ?_ GE372.out|refine below_set ?_ GE387.out)|exact HB.out)));(case aF=>exact (fun k_ hk=>Kd.fresh' (Kd.R_lt (by (with_reducible repeat (first|apply Kd.R_alloc|apply Kd.R_drewN|apply Kd.R_drew));exact HO_388005.out)) k_ hk));(case aO=>exact (by (with_reducible repeat (first|apply Kd.R_alloc|apply Kd.R_drewN|apply Kd.R_drew));exact HO_388004.out));(case aS=>exact (below_size (by repeat (first|(with_reducible first|exact HB.out|apply below_alloc|apply pw_below_drewN|apply below_drew1|refine below_set ?_ GE371.out|refine below_set ?_ GE372.out|refine below_set ?_ GE387.out)|exact HB.out))));(case aL=>have:=LMc37.out;omega);intro v395 w44 ho hb hg hat;rw [← Ny394.out] at ho;have n0_:=Aside0.mk (Kd.R_after (ok:=(fun _=>True)) (by (with_reducible repeat (first|apply Kd.R_alloc|apply Kd.R_drewN|apply Kd.R_drew));exact Kd.R_mono HO_388005.out (fun _ hk=>⟨trivial,hk⟩)) hg hat);have n1_:=Aside0.mk (Kd.R_over' (by (with_reducible repeat (first|apply Kd.R_alloc|apply Kd.R_drewN|apply Kd.R_drew));exact HO_388006.out) (Kd.R_typed (by (with_reducible repeat (first|apply Kd.R_alloc|apply Kd.R_drewN|apply Kd.R_drew));exact HO_388004.out)) (by decide) hg);have n2_:=Aside0.mk (blk_grown (g:=gb371) (o:=.cells #[.int .i64 a0_0,.int .i64 a0_1,.int .i64 a0_2,.string a0_3,.slice (some ad392) l0_4.length c0_4,.slice A0_5 l0_5.length c0_5,.slice (some ad388) l0_6.length c0_6] 25 (0,0)) (by (with_reducible repeat (first|refine blk_drewN ?_ _|refine blk_drew ?_|refine blk_alloc ?_ _));exact BK371.out) hg (Kd.R_ne HO_388004.out BK371.out (by decide)));have n3_:=Aside0.mk (blk_grown (g:=gb372) (o:=.cells #[.int .i64 x373000_1,.int .i64 x373001_1,.int .i64 x373002_1,.string x373003_1,.slice none 0 0,.slice none 0 0,.slice none 0 0] 25 (0,0)) (by (with_reducible repeat (first|refine blk_drewN ?_ _|refine blk_drew ?_|refine blk_alloc ?_ _));exact BK372.out) hg (Kd.R_ne HO_388004.out BK372.out (by decide)));have n4_:=Aside0.mk (blk_grown (g:=gb387) (o:=.cells #[.int .i64 t374,.int .i64 t375,.int .i64 t376,.string t377,u388004,.slice Ao21 t381.length co21,u388006] 25 (0,0)) (by (with_reducible repeat (first|refine blk_drewN ?_ _|refine blk_drew ?_|refine blk_alloc ?_ _));exact BK387.out) hg (Kd.R_ne HO_388004.out BK387.out (by decide)));have n5_:=Aside0.mk (hb);have n6_:=Aside0.mk (ho);clear HO_388005;clear HO_388006;clear BK371;clear BK372;clear BK387;clear HB;clear HO_388004;have HO_388005:=n0_;have HO_388006:=n1_;have BK371:=n2_;have BK372:=n3_;have BK387:=n4_;have HB:=n5_;have HO396:=n6_;clear n0_ n1_ n2_ n3_ n4_ n5_ n6_;clear ho hb hg hat;obtain ⟨Ao45,co45,eo45⟩:=Kd.R_slice HO396.out;subst eo45;have hcz46_0:w44.cell? ⟨gb387,0,none⟩=some (.int .i64 t374):=(blk_cell BK387.out 0).trans rfl;have hcz46_1:w44.cell? ⟨gb387,1,none⟩=some (.int .i64 t375):=(blk_cell BK387.out 1).trans rfl;have hcz46_2:w44.cell? ⟨gb387,2,none⟩=some (.int .i64 t376):=(blk_cell BK387.out 2).trans rfl;have hcz46_3:w44.cell? ⟨gb387,3,none⟩=some (.string t377):=(blk_cell BK387.out 3).trans rfl;have hcz46_4:w44.cell? ⟨gb387,4,none⟩=some (u388004):=(blk_cell BK387.out 4).trans rfl;have hcz46_5:w44.cell? ⟨gb387,5,none⟩=some (.slice Ao21 t381.length co21):=(blk_cell BK387.out 5).trans rfl;have hcz46_6:w44.cell? ⟨gb387,6,none⟩=some (u388006):=(blk_cell BK387.out 6).trans rfl;have hfz46_0:=blk_frozen BK387.out 0;have hfz46_1:=blk_frozen BK387.out 1;have hfz46_2:=blk_frozen BK387.out 2;have hfz46_3:=blk_frozen BK387.out 3;have hfz46_4:=blk_frozen BK387.out 4;have hfz46_5:=blk_frozen BK387.out 5;have hfz46_6:=blk_frozen BK387.out 6))
               have n0_:Aside0 (Kd.R Kd.string 9 (w44.setCell ⟨gb387,4,none⟩ (.slice Ao45 y394.length co45)) w.heap.size (fun k_=>some k_≠(.slice Ao45 y394.length co45:Value).ownBlock) (.slice Ao21 t381.length co21) t381):=⟨by (with_reducible repeat (first|apply Kd.R_alloc|apply Kd.R_drewN|apply Kd.R_drew));exact Kd.R_mono (Kd.R_far (p:=⟨gb387,4,none⟩) (Kd.R_types HO_388005.out BK387.out (by decide)) (fun _ hk=>hk.2) (.slice Ao45 y394.length co45)) (fun _ hk=>hk.1.2)⟩
               have n1_:Aside0 (Kd.R (Kd.int .i64) 3 (w44.setCell ⟨gb387,4,none⟩ (.slice Ao45 y394.length co45)) w.heap.size (fun _=>True) u388006 x388006_1):=⟨by (with_reducible repeat (first|apply Kd.R_alloc|apply Kd.R_drewN|apply Kd.R_drew));exact Kd.R_mono (Kd.R_far (p:=⟨gb387,4,none⟩) (Kd.R_types HO_388006.out BK387.out (by decide)) (fun _ hk=>hk.2) (.slice Ao45 y394.length co45)) (fun _ hk=>trivial)⟩
               have n2_:Aside0 (Kd.R Kd.string 9 (w44.setCell ⟨gb387,4,none⟩ (.slice Ao45 y394.length co45)) w.heap.size (fun k_=>some k_≠(.slice Ao21 t381.length co21:Value).ownBlock) (.slice Ao45 y394.length co45) y394):=⟨by (with_reducible repeat (first|apply Kd.R_alloc|apply Kd.R_drewN|apply Kd.R_drew));exact Kd.R_mono (Kd.R_far (p:=⟨gb387,4,none⟩) (Kd.R_types HO396.out BK387.out (by decide)) (fun _ hk=>hk.2) (.slice Ao45 y394.length co45)) (fun _ hk=>hk.1)⟩
               have n3_:Aside0 ((w44.setCell ⟨gb387,4,none⟩ (.slice Ao45 y394.length co45)).heap[gb371]?=some (.cells #[.int .i64 a0_0,.int .i64 a0_1,.int .i64 a0_2,.string a0_3,.slice (some ad392) l0_4.length c0_4,.slice A0_5 l0_5.length c0_5,.slice (some ad388) l0_6.length c0_6] 25 (0,0))):=⟨by (with_reducible repeat (first|refine blk_drewN ?_ _|refine blk_drew ?_|refine blk_alloc ?_ _));refine blk_far ?_ NB371_387.out _;(with_reducible repeat (first|refine blk_drewN ?_ _|refine blk_drew ?_|refine blk_alloc ?_ _));exact BK371.out⟩
               have n4_:Aside0 ((w44.setCell ⟨gb387,4,none⟩ (.slice Ao45 y394.length co45)).heap[gb372]?=some (.cells #[.int .i64 x373000_1,.int .i64 x373001_1,.int .i64 x373002_1,.string x373003_1,.slice none 0 0,.slice none 0 0,.slice none 0 0] 25 (0,0))):=⟨by (with_reducible repeat (first|refine blk_drewN ?_ _|refine blk_drew ?_|refine blk_alloc ?_ _));refine blk_far ?_ NB372_387.out _;(with_reducible repeat (first|refine blk_drewN ?_ _|refine blk_drew ?_|refine blk_alloc ?_ _));exact BK372.out⟩
               have n5_:Aside0 ((w44.setCell ⟨gb387,4,none⟩ (.slice Ao45 y394.length co45)).heap[gb387]?=some (.cells #[.int .i64 t374,.int .i64 t375,.int .i64 t376,.string t377,.slice Ao45 y394.length co45,.slice Ao21 t381.length co21,u388006] 25 (0,0))):=⟨by (with_reducible repeat (first|refine blk_drewN ?_ _|refine blk_drew ?_|refine blk_alloc ?_ _));refine blk_put (cs:=#[.int .i64 t374,.int .i64 t375,.int .i64 t376,.string t377,u388004,.slice Ao21 t381.length co21,u388006]) ?_ 4 _ rfl;(with_reducible repeat (first|refine blk_drewN ?_ _|refine blk_drew ?_|refine blk_alloc ?_ _));exact BK387.out⟩
               have n6_:Aside0 (Below w.heap.size w (w44.setCell ⟨gb387,4,none⟩ (.slice Ao45 y394.length co45))):=⟨by repeat (first|(with_reducible first|exact HB.out|apply below_alloc|apply pw_below_drewN|apply below_drew1|refine below_set ?_ GE371.out|refine below_set ?_ GE372.out|refine below_set ?_ GE387.out)|exact HB.out)⟩
               (try clear HO_388005)
               (try clear HO_388006)
               (try clear HO396)
               (try clear BK371)
               (try clear BK372)
               (try clear BK387)
               (try clear HB)
               generalize (w44.setCell ⟨gb387,4,none⟩ (.slice Ao45 y394.length co45))=w47 at n0_ n1_ n2_ n3_ n4_ n5_ n6_ ⊢
               have HO_388005:=n0_
               have HO_388006:=n1_
               have HO396:=n2_
               have BK371:=n3_
               have BK372:=n4_
               have BK387:=n5_
               have HB:=n6_
               clear n0_ n1_ n2_ n3_ n4_ n5_ n6_
               have n0_:=Aside0.mk (Kd.R_drew HO_388005.out)
               have n1_:=Aside0.mk (Kd.R_drew HO_388006.out)
               have n2_:=Aside0.mk (Kd.R_drew HO396.out)
               have n3_:=Aside0.mk (blk_drew BK371.out)
               have n4_:=Aside0.mk (blk_drew BK372.out)
               have n5_:=Aside0.mk (blk_drew BK387.out)
               have n6_:=Aside0.mk (below_drew1 HB.out)
               clear HO_388005
               clear HO_388006
               clear HO396
               clear BK371
               clear BK372
               clear BK387
               clear HB
               have HO_388005:=n0_
               have HO_388006:=n1_
               have HO396:=n2_
               have BK371:=n3_
               have BK372:=n4_
               have BK387:=n5_
               have HB:=n6_
               clear n0_ n1_ n2_ n3_ n4_ n5_ n6_
               have p397:0≤((ji33):Int):=of_decide_eq_true (by first|(with_reducible assumption)|assumption)
               have q397:(ji33) < (l0_6.length:Int):=of_decide_eq_true (by first|(with_reducible assumption)|assumption)
               obtain ⟨ad397,e397,hx397_0⟩:=Kd.at_int HR0_6.out (ji33) p397 q397
               have hw397_0:=hx397_0
               obtain rfl:ad388=ad397:=(by injection e397)
               replace hx397_0:=(HB.out.cell (World.block_lt_of_cell? w _ hx397_0)).trans hx397_0
               replace p397:=eq_true p397
               replace q397:=eq_true q397
               refine start_ (n:=12) (S:=fun w'=>w'.cell? ⟨gb387,0,none⟩=some (.int .i64 t374)∧w'.cell? ⟨gb387,1,none⟩=some (.int .i64 t375)∧w'.cell? ⟨gb387,2,none⟩=some (.int .i64 t376)∧w'.cell? ⟨gb387,3,none⟩=some (.string t377)∧w'.cell? ⟨gb387,4,none⟩=some (.slice Ao45 y394.length co45)∧w'.cell? ⟨gb387,5,none⟩=some (.slice Ao21 t381.length co21)∧w'.cell? ⟨gb387,6,none⟩=some (u388006)∧w'.cell? ⟨gb371,0,none⟩=some (.int .i64 a0_0)∧w'.cell? ⟨gb371,1,none⟩=some (.int .i64 a0_1)∧w'.cell? ⟨gb371,2,none⟩=some (.int .i64 a0_2)∧w'.cell? ⟨gb371,3,none⟩=some (.string a0_3)∧w'.cell? ⟨gb371,4,none⟩=some (.slice (some ad392) l0_4.length c0_4)∧w'.cell? ⟨gb371,5,none⟩=some (.slice A0_5 l0_5.length c0_5)∧w'.cell? ⟨gb371,6,none⟩=some (.slice (some ad388) l0_6.length c0_6)∧w'.cell? (ad388.add ((ji33)).toNat)=some (.int .i64 (rd l0_6 (ji33)))) (ds:=[11]) #[false,false,false,false,false,false,false,false,false,false,false,false] (by kernel_rfl) rfl rfl ⟨(blk_cell BK387.out 0).trans rfl,(blk_cell BK387.out 1).trans rfl,(blk_cell BK387.out 2).trans rfl,(blk_cell BK387.out 3).trans rfl,(blk_cell BK387.out 4).trans rfl,(blk_cell BK387.out 5).trans rfl,(blk_cell BK387.out 6).trans rfl,(blk_cell BK371.out 0).trans rfl,(blk_cell BK371.out 1).trans rfl,(blk_cell BK371.out 2).trans rfl,(blk_cell BK371.out 3).trans rfl,(blk_cell BK371.out 4).trans rfl,(blk_cell BK371.out 5).trans rfl,(blk_cell BK371.out 6).trans rfl,((HB.out.cell (World.block_lt_of_cell? w _ hw397_0)).trans hw397_0)⟩ (fun hHeld=>?_);refine with_tabW latticeref07_Post.tab19 latticeref07_Post.bits19 (fun HT_ HW_=>?_)
               generalize w47.drew=w48 at HO_388005 HO_388006 HO396 BK371 BK372 BK387 HB hx397_0 hHeld ⊢
               refine pure_ (i:=0) (N:=some 78) (v:=?_) (a':=?_) #[true,false,false,false,false,false,false,false,false,false,false,false] rfl rfl (any_of HT_.out (by kernel_rfl)) (fun _ _ _ h=>h) (Or.inl ⟨by rfl,?_⟩) ?_ ?_
               rotate_left
               ·intro w'
                go_simp
                with_reducible rfl
               rotate_left
               ·simp only [Act.put,List.setIfInBounds_toArray,List.set_cons_zero,List.set_cons_succ,i64_w,i32_w]
                rfl
               refine pure_ (i:=2) (N:=some 80) (v:=?_) (a':=?_) #[true,false,true,false,false,false,false,false,false,false,false,false] rfl rfl (any_of HT_.out (by kernel_rfl)) (fun _ _ _ h=>h) (Or.inl ⟨by rfl,?_⟩) ?_ ?_
               rotate_left
               ·intro w'
                go_simp
                with_reducible rfl
               rotate_left
               ·simp only [Act.put,List.setIfInBounds_toArray,List.set_cons_zero,List.set_cons_succ,i64_w,i32_w]
                rfl
               refine pure_ (i:=4) (N:=some 82) (v:=?_) (a':=?_) #[true,false,true,false,true,false,false,false,false,false,false,false] rfl rfl (any_of HT_.out (by kernel_rfl)) (fun _ _ _ h=>h) (Or.inl ⟨by rfl,?_⟩) ?_ ?_
               rotate_left
               ·intro w'
                go_simp
                with_reducible rfl
               rotate_left
               ·simp only [Act.put,List.setIfInBounds_toArray,List.set_cons_zero,List.set_cons_succ,i64_w,i32_w]
                rfl
               refine pure_ (i:=5) (N:=some 83) (v:=?_) (a':=?_) #[true,false,true,false,true,true,false,false,false,false,false,false] rfl rfl (any_of HT_.out (by kernel_rfl)) (fun _ _ _ h=>h) (Or.inl ⟨by rfl,?_⟩) ?_ ?_
               rotate_left
               ·intro w'
                go_simp
                with_reducible rfl
               rotate_left
               ·simp only [Act.put,List.setIfInBounds_toArray,List.set_cons_zero,List.set_cons_succ,i64_w,i32_w]
                rfl
               refine take_ (i:=1) (N:=some 79) (v:=?_) (a':=?_) #[true,true,true,false,true,true,false,false,false,false,false,false] rfl rfl (take_ofW HT_.out HW_.out (by kernel_rfl)) (fun _ _ _ h=>h) (Or.inl ⟨by rfl,?_⟩) hHeld ?_ ?_
               rotate_left
               ·rintro w' ⟨s0,s1,s2,s3,s4,s5,s6,s7,s8,s9,s10,s11,s12,s13,s14⟩
                go_simp
                with_reducible rfl
               rotate_left
               ·simp only [Act.put,List.setIfInBounds_toArray,List.set_cons_zero,List.set_cons_succ,i64_w,i32_w]
                rfl
               refine take_ (i:=3) (N:=some 81) (v:=?_) (a':=?_) #[true,true,true,true,true,true,false,false,false,false,false,false] rfl rfl (take_ofW HT_.out HW_.out (by kernel_rfl)) (fun _ _ _ h=>h) (Or.inl ⟨by rfl,?_⟩) hHeld ?_ ?_
               rotate_left
               ·rintro w' ⟨s0,s1,s2,s3,s4,s5,s6,s7,s8,s9,s10,s11,s12,s13,s14⟩
                go_simp
                with_reducible rfl
               rotate_left
               ·simp only [Act.put,List.setIfInBounds_toArray,List.set_cons_zero,List.set_cons_succ,i64_w,i32_w]
                rfl
               refine pure_ (i:=6) (N:=some 84) (v:=?_) (a':=?_) #[true,true,true,true,true,true,true,false,false,false,false,false] rfl rfl (any_of HT_.out (by kernel_rfl)) (fun _ _ _ h=>h) (Or.inl ⟨by rfl,?_⟩) ?_ ?_
               rotate_left
               ·intro w'
                go_simp
                with_reducible rfl
               rotate_left
               ·simp only [Act.put,List.setIfInBounds_toArray,List.set_cons_zero,List.set_cons_succ,i64_w,i32_w]
                rfl
               refine take_ (i:=7) (N:=some 85) (v:=?_) (a':=?_) #[true,true,true,true,true,true,true,true,false,false,false,false] rfl rfl (take_ofW HT_.out HW_.out (by kernel_rfl)) (fun _ _ _ h=>h) (Or.inl ⟨by rfl,?_⟩) hHeld ?_ ?_
               rotate_left
               ·rintro w' ⟨s0,s1,s2,s3,s4,s5,s6,s7,s8,s9,s10,s11,s12,s13,s14⟩
                go_simp
                with_reducible rfl
               rotate_left
               ·simp only [Act.put,List.setIfInBounds_toArray,List.set_cons_zero,List.set_cons_succ,i64_w,i32_w]
                rfl
               refine one_ (i:=8) (N:=some 86) #[true,true,true,true,true,true,true,true,true,false,false,false] rfl rfl (one_of HT_.out (by kernel_rfl)) (by decide) (fun K hK=>?_)
               refine value_ (w1:=?_) (v:=?_) (by rfl) rfl ?_ ?_
               rotate_left 2
               ·go_simp
                constructor
                ·rfl
                ·rfl
               refine hK.out _ _ ⟨(blk_cell (blk_alloc BK387.out _) 0).trans rfl,(blk_cell (blk_alloc BK387.out _) 1).trans rfl,(blk_cell (blk_alloc BK387.out _) 2).trans rfl,(blk_cell (blk_alloc BK387.out _) 3).trans rfl,(blk_cell (blk_alloc BK387.out _) 4).trans rfl,(blk_cell (blk_alloc BK387.out _) 5).trans rfl,(blk_cell (blk_alloc BK387.out _) 6).trans rfl,(blk_cell (blk_alloc BK371.out _) 0).trans rfl,(blk_cell (blk_alloc BK371.out _) 1).trans rfl,(blk_cell (blk_alloc BK371.out _) 2).trans rfl,(blk_cell (blk_alloc BK371.out _) 3).trans rfl,(blk_cell (blk_alloc BK371.out _) 4).trans rfl,(blk_cell (blk_alloc BK371.out _) 5).trans rfl,(blk_cell (blk_alloc BK371.out _) 6).trans rfl,(World.cell?_alloc_lt _ _ _ (World.block_lt_of_cell? _ _ (((HB.out.cell (World.block_lt_of_cell? w _ hw397_0)).trans hw397_0)))).trans (((HB.out.cell (World.block_lt_of_cell? w _ hw397_0)).trans hw397_0))⟩ (fun hHeld=>?_)
               clear hK K
               refine norm_ (a':=?_) ?_ ?_
               rotate_left
               ·show Act.put _ (some 86) _=_
                simp only [Act.put,List.setIfInBounds_toArray,List.set_cons_zero,List.set_cons_succ,i64_w,i32_w]
                rfl
               refine one_ (i:=9) (N:=some 87) #[true,true,true,true,true,true,true,true,true,true,false,false] rfl rfl (one_of HT_.out (by kernel_rfl)) (by decide) (fun K hK=>?_)
               refine Kd.R_append_step (Kd.int .i64) (w0:=w) w.heap.size (by rfl) (.tmp 79) (.tmp 86) 23 3 (.int .i64 0) 8 rfl Try.underlying23 info3 rfl (by decide) (by omega) u388006 x388006_1 (rd l0_6 (ji33)) [.int .i64 (rd l0_6 (ji33))] (fun _=>True) (fun _=>False) rfl rfl ?aP (fun _ hk=>hk.elim) ?aF ?aO ?aB ?aS ?aL ?_
               (case aP=>exact rfl)
               (case aB=>exact (by repeat (first|(with_reducible first|exact HB.out|apply below_alloc|apply pw_below_drewN|apply below_drew1|refine below_set ?_ GE371.out|refine below_set ?_ GE372.out|refine below_set ?_ GE387.out)|exact HB.out)))
               (case aF=>exact (fun _ _=>trivial))
               (case aO=>exact (by (with_reducible repeat (first|apply Kd.R_alloc|apply Kd.R_drewN|apply Kd.R_drew));exact HO_388006.out))
               (case aS=>exact (below_size (by repeat (first|(with_reducible first|exact HB.out|apply below_alloc|apply pw_below_drewN|apply below_drew1|refine below_set ?_ GE371.out|refine below_set ?_ GE372.out|refine below_set ?_ GE387.out)|exact HB.out))))
               (case aL=>have:=LMc38.out;omega)
               intro v399 w49 ho hb hg hat
               rw [← Ny398.out] at ho
               have n0_:=Aside0.mk (Kd.R_over' (by (with_reducible repeat (first|apply Kd.R_alloc|apply Kd.R_drewN|apply Kd.R_drew));exact HO_388005.out) (Kd.R_typed (by (with_reducible repeat (first|apply Kd.R_alloc|apply Kd.R_drewN|apply Kd.R_drew));exact HO_388006.out)) (by decide) hg)
               have n1_:=Aside0.mk (blk_grown (g:=gb371) (o:=.cells #[.int .i64 a0_0,.int .i64 a0_1,.int .i64 a0_2,.string a0_3,.slice (some ad392) l0_4.length c0_4,.slice A0_5 l0_5.length c0_5,.slice (some ad388) l0_6.length c0_6] 25 (0,0)) (by (with_reducible repeat (first|refine blk_drewN ?_ _|refine blk_drew ?_|refine blk_alloc ?_ _));exact BK371.out) hg (Kd.R_ne HO_388006.out BK371.out (by decide)))
               have n2_:=Aside0.mk (blk_grown (g:=gb372) (o:=.cells #[.int .i64 x373000_1,.int .i64 x373001_1,.int .i64 x373002_1,.string x373003_1,.slice none 0 0,.slice none 0 0,.slice none 0 0] 25 (0,0)) (by (with_reducible repeat (first|refine blk_drewN ?_ _|refine blk_drew ?_|refine blk_alloc ?_ _));exact BK372.out) hg (Kd.R_ne HO_388006.out BK372.out (by decide)))
               have n3_:=Aside0.mk (blk_grown (g:=gb387) (o:=.cells #[.int .i64 t374,.int .i64 t375,.int .i64 t376,.string t377,.slice Ao45 y394.length co45,.slice Ao21 t381.length co21,u388006] 25 (0,0)) (by (with_reducible repeat (first|refine blk_drewN ?_ _|refine blk_drew ?_|refine blk_alloc ?_ _));exact BK387.out) hg (Kd.R_ne HO_388006.out BK387.out (by decide)))
               have n4_:=Aside0.mk (Kd.R_over' (by (with_reducible repeat (first|apply Kd.R_alloc|apply Kd.R_drewN|apply Kd.R_drew));exact HO396.out) (Kd.R_typed (by (with_reducible repeat (first|apply Kd.R_alloc|apply Kd.R_drewN|apply Kd.R_drew));exact HO_388006.out)) (by decide) hg)
               have n5_:=Aside0.mk (hb)
               have n6_:=Aside0.mk (ho)
               clear HO_388005
               clear BK371
               clear BK372
               clear BK387
               clear HO396
               clear HB
               clear HO_388006
               have HO_388005:=n0_
               have BK371:=n1_
               have BK372:=n2_
               have BK387:=n3_
               have HO396:=n4_
               have HB:=n5_
               have HO400:=n6_
               clear n0_ n1_ n2_ n3_ n4_ n5_ n6_
               clear ho hb hg hat
               obtain ⟨Ao50,co50,eo50⟩:=Kd.R_slice HO400.out
               (first|subst eo50|(injection eo50 with f1_ f2_ f3_;have f4_:=f1_.symm;have f5_:=f3_.symm;clear f1_ f2_ f3_;subst f4_;subst f5_))
               refine hK.out _ _ ⟨(blk_cell BK387.out 0).trans rfl,(blk_cell BK387.out 1).trans rfl,(blk_cell BK387.out 2).trans rfl,(blk_cell BK387.out 3).trans rfl,(blk_cell BK387.out 4).trans rfl,(blk_cell BK387.out 5).trans rfl,(blk_cell BK387.out 6).trans rfl,(blk_cell BK371.out 0).trans rfl,(blk_cell BK371.out 1).trans rfl,(blk_cell BK371.out 2).trans rfl,(blk_cell BK371.out 3).trans rfl,(blk_cell BK371.out 4).trans rfl,(blk_cell BK371.out 5).trans rfl,(blk_cell BK371.out 6).trans rfl,((HB.out.cell (World.block_lt_of_cell? w _ hw397_0)).trans hw397_0)⟩ (fun hHeld=>?_)
               clear hK K
               refine norm_ (a':=?_) ?_ ?_
               rotate_left
               ·show Act.put _ (some 87) _=_
                simp only [Act.put,List.setIfInBounds_toArray,List.set_cons_zero,List.set_cons_succ,i64_w,i32_w]
                rfl
               refine pure_ (i:=10) (N:=some 88) (v:=?_) (a':=?_) #[true,true,true,true,true,true,true,true,true,true,true,false] rfl rfl (any_of HT_.out (by kernel_rfl)) (fun _ _ _ h=>h) (Or.inl ⟨by rfl,?_⟩) ?_ ?_
               rotate_left
               ·intro w'
                go_simp
                with_reducible rfl
               rotate_left
               ·simp only [Act.put,List.setIfInBounds_toArray,List.set_cons_zero,List.set_cons_succ,i64_w,i32_w]
                rfl
               refine last_ (i:=11) (N:=none) #[true,true,true,true,true,true,true,true,true,true,true,true] rfl rfl (one_of HT_.out (by kernel_rfl)) (by decide) (fun K hK=>?_)
               have hs51:w49.cell? ⟨gb387,6,none⟩=some (u388006):=(blk_cell BK387.out 6).trans rfl
               have hfs51:=blk_frozen BK387.out 6
               have hns51_0:=NB371_387.out
               have hns51_1:=NB372_387.out
               have hms51_0:=NB387_371.out
               have hms51_1:=NB387_372.out
               refine skip_ (w1:=?_) (by rfl) rfl ?_ ?_
               rotate_left
               ·go_simp
                rfl
               refine hK.out _ _ ?_
               clear hK K
               refine done_ (done_of HT_.out (by kernel_rfl)) ?_
               try go_wp2
               go_roundg k1
               case measure=>have:=HK1.out;omega
               case rel=>exact ⟨(true),(ji33),(x373000_1),(x373001_1),(x373002_1),(x373003_1),(y394),(y398),(.slice Ao45 y394.length co45),(.slice Ao50 y398.length co50),(by first|rfl|(simp;done)|(simp [*];done)),(by first|rfl|(simp;done)|(simp only [← hji33] <;> (first|rfl|simp))|(simp [*];done)),H',⟨by have:=HK1.out;omega⟩,⟨by (with_reducible repeat (first|apply Kd.R_alloc|apply Kd.R_drewN|apply Kd.R_drew));exact Kd.R_mono (Kd.R_far (p:=⟨gb387,6,none⟩) (Kd.R_types HO396.out BK387.out (by decide)) (fun _ hk=>hk.2) (.slice Ao50 y398.length co50)) (fun _ hk=>hk.1)⟩,⟨by (with_reducible repeat (first|apply Kd.R_alloc|apply Kd.R_drewN|apply Kd.R_drew));exact Kd.R_mono (Kd.R_far (p:=⟨gb387,6,none⟩) (Kd.R_types HO_388005.out BK387.out (by decide)) (fun _ hk=>hk.2) (.slice Ao50 y398.length co50)) (fun _ hk=>hk.1)⟩,⟨by (with_reducible repeat (first|apply Kd.R_alloc|apply Kd.R_drewN|apply Kd.R_drew));exact Kd.R_mono (Kd.R_far (p:=⟨gb387,6,none⟩) (Kd.R_types HO400.out BK387.out (by decide)) (fun _ hk=>hk.2) (.slice Ao50 y398.length co50)) (fun _ hk=>trivial)⟩,⟨by (with_reducible repeat (first|refine blk_drewN ?_ _|refine blk_drew ?_|refine blk_alloc ?_ _));refine blk_far ?_ NB371_387.out _;(with_reducible repeat (first|refine blk_drewN ?_ _|refine blk_drew ?_|refine blk_alloc ?_ _));exact BK371.out⟩,⟨by (with_reducible repeat (first|refine blk_drewN ?_ _|refine blk_drew ?_|refine blk_alloc ?_ _));refine blk_far ?_ NB372_387.out _;(with_reducible repeat (first|refine blk_drewN ?_ _|refine blk_drew ?_|refine blk_alloc ?_ _));exact BK372.out⟩,⟨by (with_reducible repeat (first|refine blk_drewN ?_ _|refine blk_drew ?_|refine blk_alloc ?_ _));refine blk_put (cs:=#[.int .i64 t374,.int .i64 t375,.int .i64 t376,.string t377,.slice Ao45 y394.length co45,.slice Ao21 t381.length co21,u388006]) ?_ 6 _ rfl;(with_reducible repeat (first|refine blk_drewN ?_ _|refine blk_drew ?_|refine blk_alloc ?_ _));exact BK387.out⟩,⟨by repeat (first|(with_reducible first|exact HB.out|apply below_alloc|apply pw_below_drewN|apply below_drew1|refine below_set ?_ GE371.out|refine below_set ?_ GE372.out|refine below_set ?_ GE387.out)|exact HB.out)⟩⟩
              ·rw [if_neg c38] at H
               exact absurd H (by simp)
             ·rw [if_neg c37] at H
              exact absurd H (by simp)
            ·rw [if_neg c36] at H
             have c36b0:((rd l0_6 (ji33))==a2)=false:=beq_eq_false_iff_ne.mpr c36
             have c36b1:((rd l0_6 (ji33)) != a2)=true:=bne_iff_ne.mpr c36
             simp only [Option.some.injEq,Prod.mk.injEq] at H
             obtain ⟨rfl,rfl,rfl,rfl,rfl,rfl,rfl,rfl⟩:=H
             have p392:0≤(x35_1:Int):=of_decide_eq_true (by first|(with_reducible assumption)|assumption)
             have q392:x35_1 < (l0_4.length:Int):=of_decide_eq_true (by first|(with_reducible assumption)|assumption)
             obtain ⟨ad392,e392,hx392_0⟩:=Kd.at_string HR0_4.out x35_1 p392 q392
             cases e392
             replace hx392_0:=(HB.out.cell (World.block_lt_of_cell? w _ hx392_0)).trans hx392_0
             replace p392:=eq_true p392
             replace q392:=eq_true q392
             have hnb52:=NB371_372.out
             have hnc52:=NB372_371.out
             have hnb53:=NB371_387.out
             have hnc53:=NB387_371.out
             have hcz54_0:wr.cell? ⟨gb371,0,none⟩=some (.int .i64 a0_0):=(blk_cell BK371.out 0).trans rfl
             have hcz54_1:wr.cell? ⟨gb371,1,none⟩=some (.int .i64 a0_1):=(blk_cell BK371.out 1).trans rfl
             have hcz54_2:wr.cell? ⟨gb371,2,none⟩=some (.int .i64 a0_2):=(blk_cell BK371.out 2).trans rfl
             have hcz54_3:wr.cell? ⟨gb371,3,none⟩=some (.string a0_3):=(blk_cell BK371.out 3).trans rfl
             have hcz54_4:wr.cell? ⟨gb371,4,none⟩=some (.slice (some ad392) l0_4.length c0_4):=(blk_cell BK371.out 4).trans rfl
             have hcz54_5:wr.cell? ⟨gb371,5,none⟩=some (.slice A0_5 l0_5.length c0_5):=(blk_cell BK371.out 5).trans rfl
             have hcz54_6:wr.cell? ⟨gb371,6,none⟩=some (.slice (some ad388) l0_6.length c0_6):=(blk_cell BK371.out 6).trans rfl
             have hfz54_0:=blk_frozen BK371.out 0
             have hfz54_1:=blk_frozen BK371.out 1
             have hfz54_2:=blk_frozen BK371.out 2
             have hfz54_3:=blk_frozen BK371.out 3
             have hfz54_4:=blk_frozen BK371.out 4
             have hfz54_5:=blk_frozen BK371.out 5
             have hfz54_6:=blk_frozen BK371.out 6
             have p393:0≤((ji33):Int):=of_decide_eq_true (by first|(with_reducible assumption)|assumption)
             have q393:(ji33) < (l0_6.length:Int):=of_decide_eq_true (by first|(with_reducible assumption)|assumption)
             obtain ⟨ad393,e393,hx393_0⟩:=Kd.at_int HR0_6.out (ji33) p393 q393
             obtain rfl:ad388=ad393:=(by injection e393)
             replace hx393_0:=(HB.out.cell (World.block_lt_of_cell? w _ hx393_0)).trans hx393_0
             replace p393:=eq_true p393
             replace q393:=eq_true q393
             have hnb55:=NB372_387.out
             have hnc55:=NB387_372.out
             have hcz56_0:wr.cell? ⟨gb372,0,none⟩=some (.int .i64 x373000_1):=(blk_cell BK372.out 0).trans rfl
             have hcz56_1:wr.cell? ⟨gb372,1,none⟩=some (.int .i64 x373001_1):=(blk_cell BK372.out 1).trans rfl
             have hcz56_2:wr.cell? ⟨gb372,2,none⟩=some (.int .i64 x373002_1):=(blk_cell BK372.out 2).trans rfl
             have hcz56_3:wr.cell? ⟨gb372,3,none⟩=some (.string x373003_1):=(blk_cell BK372.out 3).trans rfl
             have hcz56_4:wr.cell? ⟨gb372,4,none⟩=some (.slice none 0 0):=(blk_cell BK372.out 4).trans rfl
             have hcz56_5:wr.cell? ⟨gb372,5,none⟩=some (.slice none 0 0):=(blk_cell BK372.out 5).trans rfl
             have hcz56_6:wr.cell? ⟨gb372,6,none⟩=some (.slice none 0 0):=(blk_cell BK372.out 6).trans rfl
             have hfz56_0:=blk_frozen BK372.out 0
             have hfz56_1:=blk_frozen BK372.out 1
             have hfz56_2:=blk_frozen BK372.out 2
             have hfz56_3:=blk_frozen BK372.out 3
             have hfz56_4:=blk_frozen BK372.out 4
             have hfz56_5:=blk_frozen BK372.out 5
             have hfz56_6:=blk_frozen BK372.out 6
             go_wp2
             refine bodyPost_ret (results_ct rfl _ _ gb372 25 #[.int .i64 0,.int .i64 0,.int .i64 0,.string (⟨#[]⟩:ByteArray),.slice none 0 0,.slice none 0 0,.slice none 0 0] (0,0) _ rfl (by (with_reducible repeat (first|refine blk_drewN ?_ _|refine blk_drew ?_|refine blk_alloc ?_ _));refine blk_put (cs:=#[.int .i64 0,.int .i64 0,.int .i64 0,.string (⟨#[]⟩:ByteArray),.slice none 0 0,.slice none 0 0,.slice none 0 0]) ?_ 6 _ rfl;(with_reducible repeat (first|refine blk_drewN ?_ _|refine blk_drew ?_|refine blk_alloc ?_ _));refine blk_put (cs:=#[.int .i64 0,.int .i64 0,.int .i64 0,.string (⟨#[]⟩:ByteArray),.slice none 0 0,.slice none 0 0,.slice none 0 0]) ?_ 5 _ rfl;(with_reducible repeat (first|refine blk_drewN ?_ _|refine blk_drew ?_|refine blk_alloc ?_ _));refine blk_put (cs:=#[.int .i64 0,.int .i64 0,.int .i64 0,.string (⟨#[]⟩:ByteArray),.slice none 0 0,.slice none 0 0,.slice none 0 0]) ?_ 4 _ rfl;(with_reducible repeat (first|refine blk_drewN ?_ _|refine blk_drew ?_|refine blk_alloc ?_ _));refine blk_put (cs:=#[.int .i64 0,.int .i64 0,.int .i64 0,.string x373003_1,.slice none 0 0,.slice none 0 0,.slice none 0 0]) ?_ 3 _ rfl;(with_reducible repeat (first|refine blk_drewN ?_ _|refine blk_drew ?_|refine blk_alloc ?_ _));refine blk_put (cs:=#[.int .i64 0,.int .i64 0,.int .i64 x373002_1,.string x373003_1,.slice none 0 0,.slice none 0 0,.slice none 0 0]) ?_ 2 _ rfl;(with_reducible repeat (first|refine blk_drewN ?_ _|refine blk_drew ?_|refine blk_alloc ?_ _));refine blk_put (cs:=#[.int .i64 0,.int .i64 x373001_1,.int .i64 x373002_1,.string x373003_1,.slice none 0 0,.slice none 0 0,.slice none 0 0]) ?_ 1 _ rfl;(with_reducible repeat (first|refine blk_drewN ?_ _|refine blk_drew ?_|refine blk_alloc ?_ _));refine blk_put (cs:=#[.int .i64 x373000_1,.int .i64 x373001_1,.int .i64 x373002_1,.string x373003_1,.slice none 0 0,.slice none 0 0,.slice none 0 0]) ?_ 0 _ rfl;(with_reducible repeat (first|refine blk_drewN ?_ _|refine blk_drew ?_|refine blk_alloc ?_ _));exact BK372.out) Try.underlying25 rfl (by kernel_rfl)) rfl ?_
             exact ⟨_,_,_,by first|rfl|(simp [errW_none,errW_some] <;> rfl)|(simp only [← hji33];first|rfl|(simp [errW_none,errW_some] <;> rfl))|(simp [*,errW_none,errW_some] <;> rfl),by first|exact Kd.R_nil _ _ _ _ _|exact Kd.N_nil _ _ _ _ _|exact Kd.V_nil _ _ _ _ _|exact Kd.Q_nil _ _ _ _ _|exact Kd.S_nil _ _ _ _ _,by first|exact Kd.R_nil _ _ _ _ _|exact Kd.N_nil _ _ _ _ _|exact Kd.V_nil _ _ _ _ _|exact Kd.Q_nil _ _ _ _ _|exact Kd.S_nil _ _ _ _ _,by first|exact Kd.R_nil _ _ _ _ _|exact Kd.N_nil _ _ _ _ _|exact Kd.V_nil _ _ _ _ _|exact Kd.Q_nil _ _ _ _ _|exact Kd.S_nil _ _ _ _ _,by repeat (first|(with_reducible first|exact HB.out|apply below_alloc|apply pw_below_drewN|apply below_drew1|refine below_set ?_ GE371.out|refine below_set ?_ GE372.out|refine below_set ?_ GE387.out)|exact HB.out)⟩
           ·rw [if_neg c35] at H
            exact absurd H (by simp)
          ·rw [if_neg c34] at H
           exact absurd H (by simp)
         ·rw [if_neg c32] at H
          have c32b0:((rdOf ByteArray.empty l0_4 x35_1).toList==a1.toList)=false:=beq_eq_false_iff_ne.mpr c32
          have c32b1:((rdOf ByteArray.empty l0_4 x35_1).toList != a1.toList)=true:=bne_iff_ne.mpr c32
          by_cases c57:x10_1=true
          ·subst c57
           have H1:(if x388004_1.length < 8796093022208 then (if 0≤(wrap64 (x35_1+1)) then (if (wrap64 (x35_1+1)) < (l0_6.length:Int) then (if x388006_1.length < 17592186044416 then (latticeref07_Post.l0 k1 a1 a2 true l0_4 (l0_4.length:Int) (wrap64 (x35_1+1)) a0_0 a0_1 a0_2 a0_3 l0_4 l0_5 l0_6 t374 t375 t376 t377 (x388004_1++[rdOf ByteArray.empty l0_4 x35_1]) t381 (x388006_1++[rd l0_6 (wrap64 (x35_1+1))])) else (none)) else (none)) else (none)) else (none))=some (r1,r2,r3,r4,r5,r6,r7,r8):=by rw [if_pos rfl] at H;exact H
           clear H
           have H:=H1
           clear H1
           by_cases c58:x388004_1.length < 8796093022208
           ·rw [if_pos c58] at H
            have LMc58:=Aside0.mk c58
            clear c58
            obtain ⟨y401,hy401⟩:∃ y_:List ByteArray,y_=(x388004_1++[rdOf ByteArray.empty l0_4 x35_1]):=⟨_,rfl⟩
            replace H:(if 0≤(wrap64 (x35_1+1)) then (if (wrap64 (x35_1+1)) < (l0_6.length:Int) then (if x388006_1.length < 17592186044416 then (latticeref07_Post.l0 k1 a1 a2 true l0_4 (l0_4.length:Int) (wrap64 (x35_1+1)) a0_0 a0_1 a0_2 a0_3 l0_4 l0_5 l0_6 t374 t375 t376 t377 y401 t381 (x388006_1++[rd l0_6 (wrap64 (x35_1+1))])) else (none)) else (none)) else (none))=some (r1,r2,r3,r4,r5,r6,r7,r8):=by first|(rw [hy401];with_reducible exact H)|(have H2_:=(Option.bind_some _ _).symm.trans H;rw [hy401];with_reducible exact H2_)|(have H2_:=(Option.bind_some _ _).symm.trans H;with_reducible exact H2_)|with_reducible exact H|(rw [hy401];exact H)|exact H
            have Ny401:=Aside0.mk hy401
            clear hy401
            obtain ⟨ji59,hji59⟩:∃ j_:Int,(wrap64 (x35_1+1))=j_:=⟨_,rfl⟩
            replace H:(if 0≤(ji59) then (if (ji59) < (l0_6.length:Int) then (if x388006_1.length < 17592186044416 then (latticeref07_Post.l0 k1 a1 a2 true l0_4 (l0_4.length:Int) ji59 a0_0 a0_1 a0_2 a0_3 l0_4 l0_5 l0_6 t374 t375 t376 t377 y401 t381 (x388006_1++[rd l0_6 (ji59)])) else (none)) else (none)) else (none))=some (r1,r2,r3,r4,r5,r6,r7,r8):=by first|(rw [hji59] at H;exact H)|(simp only [hji59] at H ⊢;exact H)
            have hji59w:(IntKind.i64.wrap (x35_1+1))=ji59:=(i64_w _).trans hji59
            by_cases c60:0≤(ji59)
            ·rw [if_pos c60] at H
             have c60b0:decide (0≤(ji59))=true:=decide_eq_true c60
             clear c60
             by_cases c61:(ji59) < (l0_6.length:Int)
             ·rw [if_pos c61] at H
              have c61b0:decide ((ji59) < (l0_6.length:Int))=true:=decide_eq_true c61
              clear c61
              by_cases c62:x388006_1.length < 17592186044416
              ·rw [if_pos c62] at H
               have LMc62:=Aside0.mk c62
               clear c62
               obtain ⟨y405,hy405⟩:∃ y_:List Int,y_=(x388006_1++[rd l0_6 (ji59)]):=⟨_,rfl⟩
               replace H:(latticeref07_Post.l0 k1 a1 a2 true l0_4 (l0_4.length:Int) ji59 a0_0 a0_1 a0_2 a0_3 l0_4 l0_5 l0_6 t374 t375 t376 t377 y401 t381 y405)=some (r1,r2,r3,r4,r5,r6,r7,r8):=by first|(rw [hy405];with_reducible exact H)|(have H2_:=(Option.bind_some _ _).symm.trans H;rw [hy405];with_reducible exact H2_)|(have H2_:=(Option.bind_some _ _).symm.trans H;with_reducible exact H2_)|with_reducible exact H|(rw [hy405];exact H)|exact H
               have Ny405:=Aside0.mk hy405
               clear hy405
               have H':=Aside0.mk H
               clear H
               have p392:0≤(x35_1:Int):=of_decide_eq_true (by first|(with_reducible assumption)|assumption)
               have q392:x35_1 < (l0_4.length:Int):=of_decide_eq_true (by first|(with_reducible assumption)|assumption)
               obtain ⟨ad392,e392,hx392_0⟩:=Kd.at_string HR0_4.out x35_1 p392 q392
               cases e392
               replace hx392_0:=(HB.out.cell (World.block_lt_of_cell? w _ hx392_0)).trans hx392_0
               replace p392:=eq_true p392
               replace q392:=eq_true q392
               have hnb63:=NB387_371.out
               have hnc63:=NB371_387.out
               have hnb64:=NB387_372.out
               have hnc64:=NB372_387.out
               have hcz65_0:wr.cell? ⟨gb387,0,none⟩=some (.int .i64 t374):=(blk_cell BK387.out 0).trans rfl
               have hcz65_1:wr.cell? ⟨gb387,1,none⟩=some (.int .i64 t375):=(blk_cell BK387.out 1).trans rfl
               have hcz65_2:wr.cell? ⟨gb387,2,none⟩=some (.int .i64 t376):=(blk_cell BK387.out 2).trans rfl
               have hcz65_3:wr.cell? ⟨gb387,3,none⟩=some (.string t377):=(blk_cell BK387.out 3).trans rfl
               have hcz65_4:wr.cell? ⟨gb387,4,none⟩=some (u388004):=(blk_cell BK387.out 4).trans rfl
               have hcz65_5:wr.cell? ⟨gb387,5,none⟩=some (.slice Ao21 t381.length co21):=(blk_cell BK387.out 5).trans rfl
               have hcz65_6:wr.cell? ⟨gb387,6,none⟩=some (u388006):=(blk_cell BK387.out 6).trans rfl
               have hfz65_0:=blk_frozen BK387.out 0
               have hfz65_1:=blk_frozen BK387.out 1
               have hfz65_2:=blk_frozen BK387.out 2
               have hfz65_3:=blk_frozen BK387.out 3
               have hfz65_4:=blk_frozen BK387.out 4
               have hfz65_5:=blk_frozen BK387.out 5
               have hfz65_6:=blk_frozen BK387.out 6
               try go_wp2_with (first|((with_reducible refine gate_builtin (b:=.append) (xs:=#[.tmp 73,.tmp 75]) rfl ?_);at_builtin;refine Kd.R_append Kd.string (w0:=w) w.heap.size rfl (.tmp 73) (.tmp 75) 22 9 (.string ⟨#[]⟩) 16 rfl Try.underlying22 info9 rfl (by decide) (by omega) u388004 x388004_1 (rdOf ByteArray.empty l0_4 x35_1) [.string (rdOf ByteArray.empty l0_4 x35_1)] (fun k_=>some k_≠(.slice Ao21 t381.length co21:Value).ownBlock) (fun _=>False) rfl rfl ?aP (fun _ hk=>hk.elim) ?aF ?aO ?aB ?aS ?aL ?_;(case aP=>exact rfl);(case aB=>exact (by repeat (first|(with_reducible first|exact HB.out|apply below_alloc|apply pw_below_drewN|apply below_drew1|refine below_set ?_ GE371.out|refine below_set ?_ GE372.out|refine below_set ?_ GE387.out)|exact HB.out)));(case aF=>exact (fun k_ hk=>Kd.fresh' (Kd.R_lt (by (with_reducible repeat (first|apply Kd.R_alloc|apply Kd.R_drewN|apply Kd.R_drew));exact HO_388005.out)) k_ hk));(case aO=>exact (by (with_reducible repeat (first|apply Kd.R_alloc|apply Kd.R_drewN|apply Kd.R_drew));exact HO_388004.out));(case aS=>exact (below_size (by repeat (first|(with_reducible first|exact HB.out|apply below_alloc|apply pw_below_drewN|apply below_drew1|refine below_set ?_ GE371.out|refine below_set ?_ GE372.out|refine below_set ?_ GE387.out)|exact HB.out))));(case aL=>have:=LMc58.out;omega);intro v402 w66 ho hb hg hat;rw [← Ny401.out] at ho;have n0_:=Aside0.mk (Kd.R_after (ok:=(fun _=>True)) (by (with_reducible repeat (first|apply Kd.R_alloc|apply Kd.R_drewN|apply Kd.R_drew));exact Kd.R_mono HO_388005.out (fun _ hk=>⟨trivial,hk⟩)) hg hat);have n1_:=Aside0.mk (Kd.R_over' (by (with_reducible repeat (first|apply Kd.R_alloc|apply Kd.R_drewN|apply Kd.R_drew));exact HO_388006.out) (Kd.R_typed (by (with_reducible repeat (first|apply Kd.R_alloc|apply Kd.R_drewN|apply Kd.R_drew));exact HO_388004.out)) (by decide) hg);have n2_:=Aside0.mk (blk_grown (g:=gb371) (o:=.cells #[.int .i64 a0_0,.int .i64 a0_1,.int .i64 a0_2,.string a0_3,.slice (some ad392) l0_4.length c0_4,.slice A0_5 l0_5.length c0_5,.slice (some ad388) l0_6.length c0_6] 25 (0,0)) (by (with_reducible repeat (first|refine blk_drewN ?_ _|refine blk_drew ?_|refine blk_alloc ?_ _));exact BK371.out) hg (Kd.R_ne HO_388004.out BK371.out (by decide)));have n3_:=Aside0.mk (blk_grown (g:=gb372) (o:=.cells #[.int .i64 x373000_1,.int .i64 x373001_1,.int .i64 x373002_1,.string x373003_1,.slice none 0 0,.slice none 0 0,.slice none 0 0] 25 (0,0)) (by (with_reducible repeat (first|refine blk_drewN ?_ _|refine blk_drew ?_|refine blk_alloc ?_ _));exact BK372.out) hg (Kd.R_ne HO_388004.out BK372.out (by decide)));have n4_:=Aside0.mk (blk_grown (g:=gb387) (o:=.cells #[.int .i64 t374,.int .i64 t375,.int .i64 t376,.string t377,u388004,.slice Ao21 t381.length co21,u388006] 25 (0,0)) (by (with_reducible repeat (first|refine blk_drewN ?_ _|refine blk_drew ?_|refine blk_alloc ?_ _));exact BK387.out) hg (Kd.R_ne HO_388004.out BK387.out (by decide)));have n5_:=Aside0.mk (hb);have n6_:=Aside0.mk (ho);clear HO_388005;clear HO_388006;clear BK371;clear BK372;clear BK387;clear HB;clear HO_388004;have HO_388005:=n0_;have HO_388006:=n1_;have BK371:=n2_;have BK372:=n3_;have BK387:=n4_;have HB:=n5_;have HO403:=n6_;clear n0_ n1_ n2_ n3_ n4_ n5_ n6_;clear ho hb hg hat;obtain ⟨Ao67,co67,eo67⟩:=Kd.R_slice HO403.out;subst eo67;have hcz68_0:w66.cell? ⟨gb387,0,none⟩=some (.int .i64 t374):=(blk_cell BK387.out 0).trans rfl;have hcz68_1:w66.cell? ⟨gb387,1,none⟩=some (.int .i64 t375):=(blk_cell BK387.out 1).trans rfl;have hcz68_2:w66.cell? ⟨gb387,2,none⟩=some (.int .i64 t376):=(blk_cell BK387.out 2).trans rfl;have hcz68_3:w66.cell? ⟨gb387,3,none⟩=some (.string t377):=(blk_cell BK387.out 3).trans rfl;have hcz68_4:w66.cell? ⟨gb387,4,none⟩=some (u388004):=(blk_cell BK387.out 4).trans rfl;have hcz68_5:w66.cell? ⟨gb387,5,none⟩=some (.slice Ao21 t381.length co21):=(blk_cell BK387.out 5).trans rfl;have hcz68_6:w66.cell? ⟨gb387,6,none⟩=some (u388006):=(blk_cell BK387.out 6).trans rfl;have hfz68_0:=blk_frozen BK387.out 0;have hfz68_1:=blk_frozen BK387.out 1;have hfz68_2:=blk_frozen BK387.out 2;have hfz68_3:=blk_frozen BK387.out 3;have hfz68_4:=blk_frozen BK387.out 4;have hfz68_5:=blk_frozen BK387.out 5;have hfz68_6:=blk_frozen BK387.out 6))
               have n0_:Aside0 (Kd.R Kd.string 9 (w66.setCell ⟨gb387,4,none⟩ (.slice Ao67 y401.length co67)) w.heap.size (fun k_=>some k_≠(.slice Ao67 y401.length co67:Value).ownBlock) (.slice Ao21 t381.length co21) t381):=⟨by (with_reducible repeat (first|apply Kd.R_alloc|apply Kd.R_drewN|apply Kd.R_drew));exact Kd.R_mono (Kd.R_far (p:=⟨gb387,4,none⟩) (Kd.R_types HO_388005.out BK387.out (by decide)) (fun _ hk=>hk.2) (.slice Ao67 y401.length co67)) (fun _ hk=>hk.1.2)⟩
               have n1_:Aside0 (Kd.R (Kd.int .i64) 3 (w66.setCell ⟨gb387,4,none⟩ (.slice Ao67 y401.length co67)) w.heap.size (fun _=>True) u388006 x388006_1):=⟨by (with_reducible repeat (first|apply Kd.R_alloc|apply Kd.R_drewN|apply Kd.R_drew));exact Kd.R_mono (Kd.R_far (p:=⟨gb387,4,none⟩) (Kd.R_types HO_388006.out BK387.out (by decide)) (fun _ hk=>hk.2) (.slice Ao67 y401.length co67)) (fun _ hk=>trivial)⟩
               have n2_:Aside0 (Kd.R Kd.string 9 (w66.setCell ⟨gb387,4,none⟩ (.slice Ao67 y401.length co67)) w.heap.size (fun k_=>some k_≠(.slice Ao21 t381.length co21:Value).ownBlock) (.slice Ao67 y401.length co67) y401):=⟨by (with_reducible repeat (first|apply Kd.R_alloc|apply Kd.R_drewN|apply Kd.R_drew));exact Kd.R_mono (Kd.R_far (p:=⟨gb387,4,none⟩) (Kd.R_types HO403.out BK387.out (by decide)) (fun _ hk=>hk.2) (.slice Ao67 y401.length co67)) (fun _ hk=>hk.1)⟩
               have n3_:Aside0 ((w66.setCell ⟨gb387,4,none⟩ (.slice Ao67 y401.length co67)).heap[gb371]?=some (.cells #[.int .i64 a0_0,.int .i64 a0_1,.int .i64 a0_2,.string a0_3,.slice (some ad392) l0_4.length c0_4,.slice A0_5 l0_5.length c0_5,.slice (some ad388) l0_6.length c0_6] 25 (0,0))):=⟨by (with_reducible repeat (first|refine blk_drewN ?_ _|refine blk_drew ?_|refine blk_alloc ?_ _));refine blk_far ?_ NB371_387.out _;(with_reducible repeat (first|refine blk_drewN ?_ _|refine blk_drew ?_|refine blk_alloc ?_ _));exact BK371.out⟩
               have n4_:Aside0 ((w66.setCell ⟨gb387,4,none⟩ (.slice Ao67 y401.length co67)).heap[gb372]?=some (.cells #[.int .i64 x373000_1,.int .i64 x373001_1,.int .i64 x373002_1,.string x373003_1,.slice none 0 0,.slice none 0 0,.slice none 0 0] 25 (0,0))):=⟨by (with_reducible repeat (first|refine blk_drewN ?_ _|refine blk_drew ?_|refine blk_alloc ?_ _));refine blk_far ?_ NB372_387.out _;(with_reducible repeat (first|refine blk_drewN ?_ _|refine blk_drew ?_|refine blk_alloc ?_ _));exact BK372.out⟩
               have n5_:Aside0 ((w66.setCell ⟨gb387,4,none⟩ (.slice Ao67 y401.length co67)).heap[gb387]?=some (.cells #[.int .i64 t374,.int .i64 t375,.int .i64 t376,.string t377,.slice Ao67 y401.length co67,.slice Ao21 t381.length co21,u388006] 25 (0,0))):=⟨by (with_reducible repeat (first|refine blk_drewN ?_ _|refine blk_drew ?_|refine blk_alloc ?_ _));refine blk_put (cs:=#[.int .i64 t374,.int .i64 t375,.int .i64 t376,.string t377,u388004,.slice Ao21 t381.length co21,u388006]) ?_ 4 _ rfl;(with_reducible repeat (first|refine blk_drewN ?_ _|refine blk_drew ?_|refine blk_alloc ?_ _));exact BK387.out⟩
               have n6_:Aside0 (Below w.heap.size w (w66.setCell ⟨gb387,4,none⟩ (.slice Ao67 y401.length co67))):=⟨by repeat (first|(with_reducible first|exact HB.out|apply below_alloc|apply pw_below_drewN|apply below_drew1|refine below_set ?_ GE371.out|refine below_set ?_ GE372.out|refine below_set ?_ GE387.out)|exact HB.out)⟩
               (try clear HO_388005)
               (try clear HO_388006)
               (try clear HO403)
               (try clear BK371)
               (try clear BK372)
               (try clear BK387)
               (try clear HB)
               generalize (w66.setCell ⟨gb387,4,none⟩ (.slice Ao67 y401.length co67))=w69 at n0_ n1_ n2_ n3_ n4_ n5_ n6_ ⊢
               have HO_388005:=n0_
               have HO_388006:=n1_
               have HO403:=n2_
               have BK371:=n3_
               have BK372:=n4_
               have BK387:=n5_
               have HB:=n6_
               clear n0_ n1_ n2_ n3_ n4_ n5_ n6_
               have n0_:=Aside0.mk (Kd.R_drew HO_388005.out)
               have n1_:=Aside0.mk (Kd.R_drew HO_388006.out)
               have n2_:=Aside0.mk (Kd.R_drew HO403.out)
               have n3_:=Aside0.mk (blk_drew BK371.out)
               have n4_:=Aside0.mk (blk_drew BK372.out)
               have n5_:=Aside0.mk (blk_drew BK387.out)
               have n6_:=Aside0.mk (below_drew1 HB.out)
               clear HO_388005
               clear HO_388006
               clear HO403
               clear BK371
               clear BK372
               clear BK387
               clear HB
               have HO_388005:=n0_
               have HO_388006:=n1_
               have HO403:=n2_
               have BK371:=n3_
               have BK372:=n4_
               have BK387:=n5_
               have HB:=n6_
               clear n0_ n1_ n2_ n3_ n4_ n5_ n6_
               have p404:0≤((ji59):Int):=of_decide_eq_true (by first|(with_reducible assumption)|assumption)
               have q404:(ji59) < (l0_6.length:Int):=of_decide_eq_true (by first|(with_reducible assumption)|assumption)
               obtain ⟨ad404,e404,hx404_0⟩:=Kd.at_int HR0_6.out (ji59) p404 q404
               have hw404_0:=hx404_0
               obtain rfl:ad388=ad404:=(by injection e404)
               replace hx404_0:=(HB.out.cell (World.block_lt_of_cell? w _ hx404_0)).trans hx404_0
               replace p404:=eq_true p404
               replace q404:=eq_true q404
               refine start_ (n:=12) (S:=fun w'=>w'.cell? ⟨gb387,0,none⟩=some (.int .i64 t374)∧w'.cell? ⟨gb387,1,none⟩=some (.int .i64 t375)∧w'.cell? ⟨gb387,2,none⟩=some (.int .i64 t376)∧w'.cell? ⟨gb387,3,none⟩=some (.string t377)∧w'.cell? ⟨gb387,4,none⟩=some (.slice Ao67 y401.length co67)∧w'.cell? ⟨gb387,5,none⟩=some (.slice Ao21 t381.length co21)∧w'.cell? ⟨gb387,6,none⟩=some (u388006)∧w'.cell? ⟨gb371,0,none⟩=some (.int .i64 a0_0)∧w'.cell? ⟨gb371,1,none⟩=some (.int .i64 a0_1)∧w'.cell? ⟨gb371,2,none⟩=some (.int .i64 a0_2)∧w'.cell? ⟨gb371,3,none⟩=some (.string a0_3)∧w'.cell? ⟨gb371,4,none⟩=some (.slice (some ad392) l0_4.length c0_4)∧w'.cell? ⟨gb371,5,none⟩=some (.slice A0_5 l0_5.length c0_5)∧w'.cell? ⟨gb371,6,none⟩=some (.slice (some ad388) l0_6.length c0_6)∧w'.cell? (ad388.add ((ji59)).toNat)=some (.int .i64 (rd l0_6 (ji59)))) (ds:=[11]) #[false,false,false,false,false,false,false,false,false,false,false,false] (by kernel_rfl) rfl rfl ⟨(blk_cell BK387.out 0).trans rfl,(blk_cell BK387.out 1).trans rfl,(blk_cell BK387.out 2).trans rfl,(blk_cell BK387.out 3).trans rfl,(blk_cell BK387.out 4).trans rfl,(blk_cell BK387.out 5).trans rfl,(blk_cell BK387.out 6).trans rfl,(blk_cell BK371.out 0).trans rfl,(blk_cell BK371.out 1).trans rfl,(blk_cell BK371.out 2).trans rfl,(blk_cell BK371.out 3).trans rfl,(blk_cell BK371.out 4).trans rfl,(blk_cell BK371.out 5).trans rfl,(blk_cell BK371.out 6).trans rfl,((HB.out.cell (World.block_lt_of_cell? w _ hw404_0)).trans hw404_0)⟩ (fun hHeld=>?_);refine with_tabW latticeref07_Post.tab19 latticeref07_Post.bits19 (fun HT_ HW_=>?_)
               generalize w69.drew=w70 at HO_388005 HO_388006 HO403 BK371 BK372 BK387 HB hx404_0 hHeld ⊢
               refine pure_ (i:=0) (N:=some 78) (v:=?_) (a':=?_) #[true,false,false,false,false,false,false,false,false,false,false,false] rfl rfl (any_of HT_.out (by kernel_rfl)) (fun _ _ _ h=>h) (Or.inl ⟨by rfl,?_⟩) ?_ ?_
               rotate_left
               ·intro w'
                go_simp
                with_reducible rfl
               rotate_left
               ·simp only [Act.put,List.setIfInBounds_toArray,List.set_cons_zero,List.set_cons_succ,i64_w,i32_w]
                rfl
               refine pure_ (i:=2) (N:=some 80) (v:=?_) (a':=?_) #[true,false,true,false,false,false,false,false,false,false,false,false] rfl rfl (any_of HT_.out (by kernel_rfl)) (fun _ _ _ h=>h) (Or.inl ⟨by rfl,?_⟩) ?_ ?_
               rotate_left
               ·intro w'
                go_simp
                with_reducible rfl
               rotate_left
               ·simp only [Act.put,List.setIfInBounds_toArray,List.set_cons_zero,List.set_cons_succ,i64_w,i32_w]
                rfl
               refine pure_ (i:=4) (N:=some 82) (v:=?_) (a':=?_) #[true,false,true,false,true,false,false,false,false,false,false,false] rfl rfl (any_of HT_.out (by kernel_rfl)) (fun _ _ _ h=>h) (Or.inl ⟨by rfl,?_⟩) ?_ ?_
               rotate_left
               ·intro w'
                go_simp
                with_reducible rfl
               rotate_left
               ·simp only [Act.put,List.setIfInBounds_toArray,List.set_cons_zero,List.set_cons_succ,i64_w,i32_w]
                rfl
               refine pure_ (i:=5) (N:=some 83) (v:=?_) (a':=?_) #[true,false,true,false,true,true,false,false,false,false,false,false] rfl rfl (any_of HT_.out (by kernel_rfl)) (fun _ _ _ h=>h) (Or.inl ⟨by rfl,?_⟩) ?_ ?_
               rotate_left
               ·intro w'
                go_simp
                with_reducible rfl
               rotate_left
               ·simp only [Act.put,List.setIfInBounds_toArray,List.set_cons_zero,List.set_cons_succ,i64_w,i32_w]
                rfl
               refine take_ (i:=1) (N:=some 79) (v:=?_) (a':=?_) #[true,true,true,false,true,true,false,false,false,false,false,false] rfl rfl (take_ofW HT_.out HW_.out (by kernel_rfl)) (fun _ _ _ h=>h) (Or.inl ⟨by rfl,?_⟩) hHeld ?_ ?_
               rotate_left
               ·rintro w' ⟨s0,s1,s2,s3,s4,s5,s6,s7,s8,s9,s10,s11,s12,s13,s14⟩
                go_simp
                with_reducible rfl
               rotate_left
               ·simp only [Act.put,List.setIfInBounds_toArray,List.set_cons_zero,List.set_cons_succ,i64_w,i32_w]
                rfl
               refine take_ (i:=3) (N:=some 81) (v:=?_) (a':=?_) #[true,true,true,true,true,true,false,false,false,false,false,false] rfl rfl (take_ofW HT_.out HW_.out (by kernel_rfl)) (fun _ _ _ h=>h) (Or.inl ⟨by rfl,?_⟩) hHeld ?_ ?_
               rotate_left
               ·rintro w' ⟨s0,s1,s2,s3,s4,s5,s6,s7,s8,s9,s10,s11,s12,s13,s14⟩
                go_simp
                with_reducible rfl
               rotate_left
               ·simp only [Act.put,List.setIfInBounds_toArray,List.set_cons_zero,List.set_cons_succ,i64_w,i32_w]
                rfl
               refine pure_ (i:=6) (N:=some 84) (v:=?_) (a':=?_) #[true,true,true,true,true,true,true,false,false,false,false,false] rfl rfl (any_of HT_.out (by kernel_rfl)) (fun _ _ _ h=>h) (Or.inl ⟨by rfl,?_⟩) ?_ ?_
               rotate_left
               ·intro w'
                go_simp
                with_reducible rfl
               rotate_left
               ·simp only [Act.put,List.setIfInBounds_toArray,List.set_cons_zero,List.set_cons_succ,i64_w,i32_w]
                rfl
               refine take_ (i:=7) (N:=some 85) (v:=?_) (a':=?_) #[true,true,true,true,true,true,true,true,false,false,false,false] rfl rfl (take_ofW HT_.out HW_.out (by kernel_rfl)) (fun _ _ _ h=>h) (Or.inl ⟨by rfl,?_⟩) hHeld ?_ ?_
               rotate_left
               ·rintro w' ⟨s0,s1,s2,s3,s4,s5,s6,s7,s8,s9,s10,s11,s12,s13,s14⟩
                go_simp
                with_reducible rfl
               rotate_left
               ·simp only [Act.put,List.setIfInBounds_toArray,List.set_cons_zero,List.set_cons_succ,i64_w,i32_w]
                rfl
               refine one_ (i:=8) (N:=some 86) #[true,true,true,true,true,true,true,true,true,false,false,false] rfl rfl (one_of HT_.out (by kernel_rfl)) (by decide) (fun K hK=>?_)
               refine value_ (w1:=?_) (v:=?_) (by rfl) rfl ?_ ?_
               rotate_left 2
               ·go_simp
                constructor
                ·rfl
                ·rfl
               refine hK.out _ _ ⟨(blk_cell (blk_alloc BK387.out _) 0).trans rfl,(blk_cell (blk_alloc BK387.out _) 1).trans rfl,(blk_cell (blk_alloc BK387.out _) 2).trans rfl,(blk_cell (blk_alloc BK387.out _) 3).trans rfl,(blk_cell (blk_alloc BK387.out _) 4).trans rfl,(blk_cell (blk_alloc BK387.out _) 5).trans rfl,(blk_cell (blk_alloc BK387.out _) 6).trans rfl,(blk_cell (blk_alloc BK371.out _) 0).trans rfl,(blk_cell (blk_alloc BK371.out _) 1).trans rfl,(blk_cell (blk_alloc BK371.out _) 2).trans rfl,(blk_cell (blk_alloc BK371.out _) 3).trans rfl,(blk_cell (blk_alloc BK371.out _) 4).trans rfl,(blk_cell (blk_alloc BK371.out _) 5).trans rfl,(blk_cell (blk_alloc BK371.out _) 6).trans rfl,(World.cell?_alloc_lt _ _ _ (World.block_lt_of_cell? _ _ (((HB.out.cell (World.block_lt_of_cell? w _ hw404_0)).trans hw404_0)))).trans (((HB.out.cell (World.block_lt_of_cell? w _ hw404_0)).trans hw404_0))⟩ (fun hHeld=>?_)
               clear hK K
               refine norm_ (a':=?_) ?_ ?_
               rotate_left
               ·show Act.put _ (some 86) _=_
                simp only [Act.put,List.setIfInBounds_toArray,List.set_cons_zero,List.set_cons_succ,i64_w,i32_w]
                rfl
               refine one_ (i:=9) (N:=some 87) #[true,true,true,true,true,true,true,true,true,true,false,false] rfl rfl (one_of HT_.out (by kernel_rfl)) (by decide) (fun K hK=>?_)
               refine Kd.R_append_step (Kd.int .i64) (w0:=w) w.heap.size (by rfl) (.tmp 79) (.tmp 86) 23 3 (.int .i64 0) 8 rfl Try.underlying23 info3 rfl (by decide) (by omega) u388006 x388006_1 (rd l0_6 (ji59)) [.int .i64 (rd l0_6 (ji59))] (fun _=>True) (fun _=>False) rfl rfl ?aP (fun _ hk=>hk.elim) ?aF ?aO ?aB ?aS ?aL ?_
               (case aP=>exact rfl)
               (case aB=>exact (by repeat (first|(with_reducible first|exact HB.out|apply below_alloc|apply pw_below_drewN|apply below_drew1|refine below_set ?_ GE371.out|refine below_set ?_ GE372.out|refine below_set ?_ GE387.out)|exact HB.out)))
               (case aF=>exact (fun _ _=>trivial))
               (case aO=>exact (by (with_reducible repeat (first|apply Kd.R_alloc|apply Kd.R_drewN|apply Kd.R_drew));exact HO_388006.out))
               (case aS=>exact (below_size (by repeat (first|(with_reducible first|exact HB.out|apply below_alloc|apply pw_below_drewN|apply below_drew1|refine below_set ?_ GE371.out|refine below_set ?_ GE372.out|refine below_set ?_ GE387.out)|exact HB.out))))
               (case aL=>have:=LMc62.out;omega)
               intro v406 w71 ho hb hg hat
               rw [← Ny405.out] at ho
               have n0_:=Aside0.mk (Kd.R_over' (by (with_reducible repeat (first|apply Kd.R_alloc|apply Kd.R_drewN|apply Kd.R_drew));exact HO_388005.out) (Kd.R_typed (by (with_reducible repeat (first|apply Kd.R_alloc|apply Kd.R_drewN|apply Kd.R_drew));exact HO_388006.out)) (by decide) hg)
               have n1_:=Aside0.mk (blk_grown (g:=gb371) (o:=.cells #[.int .i64 a0_0,.int .i64 a0_1,.int .i64 a0_2,.string a0_3,.slice (some ad392) l0_4.length c0_4,.slice A0_5 l0_5.length c0_5,.slice (some ad388) l0_6.length c0_6] 25 (0,0)) (by (with_reducible repeat (first|refine blk_drewN ?_ _|refine blk_drew ?_|refine blk_alloc ?_ _));exact BK371.out) hg (Kd.R_ne HO_388006.out BK371.out (by decide)))
               have n2_:=Aside0.mk (blk_grown (g:=gb372) (o:=.cells #[.int .i64 x373000_1,.int .i64 x373001_1,.int .i64 x373002_1,.string x373003_1,.slice none 0 0,.slice none 0 0,.slice none 0 0] 25 (0,0)) (by (with_reducible repeat (first|refine blk_drewN ?_ _|refine blk_drew ?_|refine blk_alloc ?_ _));exact BK372.out) hg (Kd.R_ne HO_388006.out BK372.out (by decide)))
               have n3_:=Aside0.mk (blk_grown (g:=gb387) (o:=.cells #[.int .i64 t374,.int .i64 t375,.int .i64 t376,.string t377,.slice Ao67 y401.length co67,.slice Ao21 t381.length co21,u388006] 25 (0,0)) (by (with_reducible repeat (first|refine blk_drewN ?_ _|refine blk_drew ?_|refine blk_alloc ?_ _));exact BK387.out) hg (Kd.R_ne HO_388006.out BK387.out (by decide)))
               have n4_:=Aside0.mk (Kd.R_over' (by (with_reducible repeat (first|apply Kd.R_alloc|apply Kd.R_drewN|apply Kd.R_drew));exact HO403.out) (Kd.R_typed (by (with_reducible repeat (first|apply Kd.R_alloc|apply Kd.R_drewN|apply Kd.R_drew));exact HO_388006.out)) (by decide) hg)
               have n5_:=Aside0.mk (hb)
               have n6_:=Aside0.mk (ho)
               clear HO_388005
               clear BK371
               clear BK372
               clear BK387
               clear HO403
               clear HB
               clear HO_388006
               have HO_388005:=n0_
               have BK371:=n1_
               have BK372:=n2_
               have BK387:=n3_
               have HO403:=n4_
               have HB:=n5_
               have HO407:=n6_
               clear n0_ n1_ n2_ n3_ n4_ n5_ n6_
               clear ho hb hg hat
               obtain ⟨Ao72,co72,eo72⟩:=Kd.R_slice HO407.out
               (first|subst eo72|(injection eo72 with f1_ f2_ f3_;have f4_:=f1_.symm;have f5_:=f3_.symm;clear f1_ f2_ f3_;subst f4_;subst f5_))
               refine hK.out _ _ ⟨(blk_cell BK387.out 0).trans rfl,(blk_cell BK387.out 1).trans rfl,(blk_cell BK387.out 2).trans rfl,(blk_cell BK387.out 3).trans rfl,(blk_cell BK387.out 4).trans rfl,(blk_cell BK387.out 5).trans rfl,(blk_cell BK387.out 6).trans rfl,(blk_cell BK371.out 0).trans rfl,(blk_cell BK371.out 1).trans rfl,(blk_cell BK371.out 2).trans rfl,(blk_cell BK371.out 3).trans rfl,(blk_cell BK371.out 4).trans rfl,(blk_cell BK371.out 5).trans rfl,(blk_cell BK371.out 6).trans rfl,((HB.out.cell (World.block_lt_of_cell? w _ hw404_0)).trans hw404_0)⟩ (fun hHeld=>?_)
               clear hK K
               refine norm_ (a':=?_) ?_ ?_
               rotate_left
               ·show Act.put _ (some 87) _=_
                simp only [Act.put,List.setIfInBounds_toArray,List.set_cons_zero,List.set_cons_succ,i64_w,i32_w]
                rfl
               refine pure_ (i:=10) (N:=some 88) (v:=?_) (a':=?_) #[true,true,true,true,true,true,true,true,true,true,true,false] rfl rfl (any_of HT_.out (by kernel_rfl)) (fun _ _ _ h=>h) (Or.inl ⟨by rfl,?_⟩) ?_ ?_
               rotate_left
               ·intro w'
                go_simp
                with_reducible rfl
               rotate_left
               ·simp only [Act.put,List.setIfInBounds_toArray,List.set_cons_zero,List.set_cons_succ,i64_w,i32_w]
                rfl
               refine last_ (i:=11) (N:=none) #[true,true,true,true,true,true,true,true,true,true,true,true] rfl rfl (one_of HT_.out (by kernel_rfl)) (by decide) (fun K hK=>?_)
               have hs73:w71.cell? ⟨gb387,6,none⟩=some (u388006):=(blk_cell BK387.out 6).trans rfl
               have hfs73:=blk_frozen BK387.out 6
               have hns73_0:=NB371_387.out
               have hns73_1:=NB372_387.out
               have hms73_0:=NB387_371.out
               have hms73_1:=NB387_372.out
               refine skip_ (w1:=?_) (by rfl) rfl ?_ ?_
               rotate_left
               ·go_simp
                rfl
               refine hK.out _ _ ?_
               clear hK K
               refine done_ (done_of HT_.out (by kernel_rfl)) ?_
               try go_wp2
               go_roundg k1
               case measure=>have:=HK1.out;omega
               case rel=>exact ⟨(true),(ji59),(x373000_1),(x373001_1),(x373002_1),(x373003_1),(y401),(y405),(.slice Ao67 y401.length co67),(.slice Ao72 y405.length co72),(by first|rfl|(simp;done)|(simp [*];done)),(by first|rfl|(simp;done)|(simp only [← hji59] <;> (first|rfl|simp))|(simp [*];done)),H',⟨by have:=HK1.out;omega⟩,⟨by (with_reducible repeat (first|apply Kd.R_alloc|apply Kd.R_drewN|apply Kd.R_drew));exact Kd.R_mono (Kd.R_far (p:=⟨gb387,6,none⟩) (Kd.R_types HO403.out BK387.out (by decide)) (fun _ hk=>hk.2) (.slice Ao72 y405.length co72)) (fun _ hk=>hk.1)⟩,⟨by (with_reducible repeat (first|apply Kd.R_alloc|apply Kd.R_drewN|apply Kd.R_drew));exact Kd.R_mono (Kd.R_far (p:=⟨gb387,6,none⟩) (Kd.R_types HO_388005.out BK387.out (by decide)) (fun _ hk=>hk.2) (.slice Ao72 y405.length co72)) (fun _ hk=>hk.1)⟩,⟨by (with_reducible repeat (first|apply Kd.R_alloc|apply Kd.R_drewN|apply Kd.R_drew));exact Kd.R_mono (Kd.R_far (p:=⟨gb387,6,none⟩) (Kd.R_types HO407.out BK387.out (by decide)) (fun _ hk=>hk.2) (.slice Ao72 y405.length co72)) (fun _ hk=>trivial)⟩,⟨by (with_reducible repeat (first|refine blk_drewN ?_ _|refine blk_drew ?_|refine blk_alloc ?_ _));refine blk_far ?_ NB371_387.out _;(with_reducible repeat (first|refine blk_drewN ?_ _|refine blk_drew ?_|refine blk_alloc ?_ _));exact BK371.out⟩,⟨by (with_reducible repeat (first|refine blk_drewN ?_ _|refine blk_drew ?_|refine blk_alloc ?_ _));refine blk_far ?_ NB372_387.out _;(with_reducible repeat (first|refine blk_drewN ?_ _|refine blk_drew ?_|refine blk_alloc ?_ _));exact BK372.out⟩,⟨by (with_reducible repeat (first|refine blk_drewN ?_ _|refine blk_drew ?_|refine blk_alloc ?_ _));refine blk_put (cs:=#[.int .i64 t374,.int .i64 t375,.int .i64 t376,.string t377,.slice Ao67 y401.length co67,.slice Ao21 t381.length co21,u388006]) ?_ 6 _ rfl;(with_reducible repeat (first|refine blk_drewN ?_ _|refine blk_drew ?_|refine blk_alloc ?_ _));exact BK387.out⟩,⟨by repeat (first|(with_reducible first|exact HB.out|apply below_alloc|apply pw_below_drewN|apply below_drew1|refine below_set ?_ GE371.out|refine below_set ?_ GE372.out|refine below_set ?_ GE387.out)|exact HB.out)⟩⟩
              ·rw [if_neg c62] at H
               exact absurd H (by simp)
             ·rw [if_neg c61] at H
              exact absurd H (by simp)
            ·rw [if_neg c60] at H
             exact absurd H (by simp)
           ·rw [if_neg c58] at H
            exact absurd H (by simp)
          ·replace c57:=Bool.eq_false_iff.mpr c57
           subst c57
           have H1:((latticeref05_Compare.f k1 (rdOf ByteArray.empty l0_4 x35_1) a1).bind fun t408=>(if t408 > 0 then (if x388004_1.length < 8796093022208 then ((some (x388004_1++[a1]:List ByteArray)).bind fun y409=>(if x388006_1.length < 17592186044416 then ((some (x388006_1++[a2]:List Int)).bind fun y412=>(if y409.length < 8796093022208 then (if 0≤(wrap64 (x35_1+1)) then (if (wrap64 (x35_1+1)) < (l0_6.length:Int) then (if y412.length < 17592186044416 then (latticeref07_Post.l0 k1 a1 a2 true l0_4 (l0_4.length:Int) (wrap64 (x35_1+1)) a0_0 a0_1 a0_2 a0_3 l0_4 l0_5 l0_6 t374 t375 t376 t377 (y409++[rdOf ByteArray.empty l0_4 x35_1]) t381 (y412++[rd l0_6 (wrap64 (x35_1+1))])) else (none)) else (none)) else (none)) else (none))) else (none))) else (none)) else (if x388004_1.length < 8796093022208 then (if 0≤(wrap64 (x35_1+1)) then (if (wrap64 (x35_1+1)) < (l0_6.length:Int) then (if x388006_1.length < 17592186044416 then (latticeref07_Post.l0 k1 a1 a2 false l0_4 (l0_4.length:Int) (wrap64 (x35_1+1)) a0_0 a0_1 a0_2 a0_3 l0_4 l0_5 l0_6 t374 t375 t376 t377 (x388004_1++[rdOf ByteArray.empty l0_4 x35_1]) t381 (x388006_1++[rd l0_6 (wrap64 (x35_1+1))])) else (none)) else (none)) else (none)) else (none))))=some (r1,r2,r3,r4,r5,r6,r7,r8):=by rw [if_neg (show ¬ (false=true) by decide)] at H;exact H
           clear H
           have H:=H1
           clear H1
           replace H:=Option.bind_eq_some_iff.mp H
           obtain ⟨t408,A740,H⟩:=H
           try dsimp only at H
           have A74:=Aside0.mk A740
           clear A740
           by_cases c75:t408 > 0
           ·rw [if_pos c75] at H
            have c75b0:decide (0 < t408)=true:=decide_eq_true c75
            clear c75
            by_cases c76:x388004_1.length < 8796093022208
            ·rw [if_pos c76] at H
             have LMc76:=Aside0.mk c76
             clear c76
             obtain ⟨y409,hy409⟩:∃ y_:List ByteArray,y_=(x388004_1++[a1]):=⟨_,rfl⟩
             replace H:(if x388006_1.length < 17592186044416 then ((some (x388006_1++[a2]:List Int)).bind fun y412=>(if y409.length < 8796093022208 then (if 0≤(wrap64 (x35_1+1)) then (if (wrap64 (x35_1+1)) < (l0_6.length:Int) then (if y412.length < 17592186044416 then (latticeref07_Post.l0 k1 a1 a2 true l0_4 (l0_4.length:Int) (wrap64 (x35_1+1)) a0_0 a0_1 a0_2 a0_3 l0_4 l0_5 l0_6 t374 t375 t376 t377 (y409++[rdOf ByteArray.empty l0_4 x35_1]) t381 (y412++[rd l0_6 (wrap64 (x35_1+1))])) else (none)) else (none)) else (none)) else (none))) else (none))=some (r1,r2,r3,r4,r5,r6,r7,r8):=by first|(rw [hy409];with_reducible exact H)|(have H2_:=(Option.bind_some _ _).symm.trans H;rw [hy409];with_reducible exact H2_)|(have H2_:=(Option.bind_some _ _).symm.trans H;with_reducible exact H2_)|with_reducible exact H|(rw [hy409];exact H)|exact H
             have Ny409:=Aside0.mk hy409
             clear hy409
             by_cases c77:x388006_1.length < 17592186044416
             ·rw [if_pos c77] at H
              have LMc77:=Aside0.mk c77
              clear c77
              obtain ⟨y412,hy412⟩:∃ y_:List Int,y_=(x388006_1++[a2]):=⟨_,rfl⟩
              replace H:(if y409.length < 8796093022208 then (if 0≤(wrap64 (x35_1+1)) then (if (wrap64 (x35_1+1)) < (l0_6.length:Int) then (if y412.length < 17592186044416 then (latticeref07_Post.l0 k1 a1 a2 true l0_4 (l0_4.length:Int) (wrap64 (x35_1+1)) a0_0 a0_1 a0_2 a0_3 l0_4 l0_5 l0_6 t374 t375 t376 t377 (y409++[rdOf ByteArray.empty l0_4 x35_1]) t381 (y412++[rd l0_6 (wrap64 (x35_1+1))])) else (none)) else (none)) else (none)) else (none))=some (r1,r2,r3,r4,r5,r6,r7,r8):=by first|(rw [hy412];with_reducible exact H)|(have H2_:=(Option.bind_some _ _).symm.trans H;rw [hy412];with_reducible exact H2_)|(have H2_:=(Option.bind_some _ _).symm.trans H;with_reducible exact H2_)|with_reducible exact H|(rw [hy412];exact H)|exact H
              have Ny412:=Aside0.mk hy412
              clear hy412
              by_cases c78:y409.length < 8796093022208
              ·rw [if_pos c78] at H
               have LMc78:=Aside0.mk c78
               clear c78
               obtain ⟨y415,hy415⟩:∃ y_:List ByteArray,y_=(y409++[rdOf ByteArray.empty l0_4 x35_1]):=⟨_,rfl⟩
               replace H:(if 0≤(wrap64 (x35_1+1)) then (if (wrap64 (x35_1+1)) < (l0_6.length:Int) then (if y412.length < 17592186044416 then (latticeref07_Post.l0 k1 a1 a2 true l0_4 (l0_4.length:Int) (wrap64 (x35_1+1)) a0_0 a0_1 a0_2 a0_3 l0_4 l0_5 l0_6 t374 t375 t376 t377 y415 t381 (y412++[rd l0_6 (wrap64 (x35_1+1))])) else (none)) else (none)) else (none))=some (r1,r2,r3,r4,r5,r6,r7,r8):=by first|(rw [hy415];with_reducible exact H)|(have H2_:=(Option.bind_some _ _).symm.trans H;rw [hy415];with_reducible exact H2_)|(have H2_:=(Option.bind_some _ _).symm.trans H;with_reducible exact H2_)|with_reducible exact H|(rw [hy415];exact H)|exact H
               have Ny415:=Aside0.mk hy415
               clear hy415
               obtain ⟨ji79,hji79⟩:∃ j_:Int,(wrap64 (x35_1+1))=j_:=⟨_,rfl⟩
               replace H:(if 0≤(ji79) then (if (ji79) < (l0_6.length:Int) then (if y412.length < 17592186044416 then (latticeref07_Post.l0 k1 a1 a2 true l0_4 (l0_4.length:Int) ji79 a0_0 a0_1 a0_2 a0_3 l0_4 l0_5 l0_6 t374 t375 t376 t377 y415 t381 (y412++[rd l0_6 (ji79)])) else (none)) else (none)) else (none))=some (r1,r2,r3,r4,r5,r6,r7,r8):=by first|(rw [hji79] at H;exact H)|(simp only [hji79] at H ⊢;exact H)
               (try rw [hji79] at A74)
               have hji79w:(IntKind.i64.wrap (x35_1+1))=ji79:=(i64_w _).trans hji79
               by_cases c80:0≤(ji79)
               ·rw [if_pos c80] at H
                have c80b0:decide (0≤(ji79))=true:=decide_eq_true c80
                clear c80
                by_cases c81:(ji79) < (l0_6.length:Int)
                ·rw [if_pos c81] at H
                 have c81b0:decide ((ji79) < (l0_6.length:Int))=true:=decide_eq_true c81
                 clear c81
                 by_cases c82:y412.length < 17592186044416
                 ·rw [if_pos c82] at H
                  have LMc82:=Aside0.mk c82
                  clear c82
                  obtain ⟨y419,hy419⟩:∃ y_:List Int,y_=(y412++[rd l0_6 (ji79)]):=⟨_,rfl⟩
                  replace H:(latticeref07_Post.l0 k1 a1 a2 true l0_4 (l0_4.length:Int) ji79 a0_0 a0_1 a0_2 a0_3 l0_4 l0_5 l0_6 t374 t375 t376 t377 y415 t381 y419)=some (r1,r2,r3,r4,r5,r6,r7,r8):=by first|(rw [hy419];with_reducible exact H)|(have H2_:=(Option.bind_some _ _).symm.trans H;rw [hy419];with_reducible exact H2_)|(have H2_:=(Option.bind_some _ _).symm.trans H;with_reducible exact H2_)|with_reducible exact H|(rw [hy419];exact H)|exact H
                  have Ny419:=Aside0.mk hy419
                  clear hy419
                  have H':=Aside0.mk H
                  clear H
                  have p392:0≤(x35_1:Int):=of_decide_eq_true (by first|(with_reducible assumption)|assumption)
                  have q392:x35_1 < (l0_4.length:Int):=of_decide_eq_true (by first|(with_reducible assumption)|assumption)
                  obtain ⟨ad392,e392,hx392_0⟩:=Kd.at_string HR0_4.out x35_1 p392 q392
                  cases e392
                  replace hx392_0:=(HB.out.cell (World.block_lt_of_cell? w _ hx392_0)).trans hx392_0
                  replace p392:=eq_true p392
                  replace q392:=eq_true q392
                  try go_wp2_with (first|(go_at_call 41;(with_reducible refine (latticeref05_Compare.calls k1 (rdOf ByteArray.empty l0_4 x35_1) a1 t408 _ A74.out).mono ?_);rintro e w' ⟨rfl,⟨nd,rfl⟩⟩;(try (rw [drewN_self wr];generalize hq_:World.drewN wr _=wr;have n0_:Aside0 (Kd.R Kd.string 9 wr w.heap.size (fun k_=>some k_≠(.slice Ao21 t381.length co21:Value).ownBlock) u388004 x388004_1):=⟨by rw [← hq_];exact (by (with_reducible repeat (first|apply Kd.R_alloc|apply Kd.R_drewN|apply Kd.R_drew));exact HO_388004.out)⟩;have n1_:Aside0 (Kd.R Kd.string 9 wr w.heap.size (fun k_=>some k_≠(u388004:Value).ownBlock) (.slice Ao21 t381.length co21) t381):=⟨by rw [← hq_];exact (by (with_reducible repeat (first|apply Kd.R_alloc|apply Kd.R_drewN|apply Kd.R_drew));exact HO_388005.out)⟩;have n2_:Aside0 (Kd.R (Kd.int .i64) 3 wr w.heap.size (fun _=>True) u388006 x388006_1):=⟨by rw [← hq_];exact (by (with_reducible repeat (first|apply Kd.R_alloc|apply Kd.R_drewN|apply Kd.R_drew));exact HO_388006.out)⟩;have n3_:Aside0 (wr.heap[gb371]?=some (.cells #[.int .i64 a0_0,.int .i64 a0_1,.int .i64 a0_2,.string a0_3,.slice (some ad392) l0_4.length c0_4,.slice A0_5 l0_5.length c0_5,.slice (some ad388) l0_6.length c0_6] 25 (0,0))):=⟨by rw [← hq_];exact (by (with_reducible repeat (first|refine blk_drewN ?_ _|refine blk_drew ?_|refine blk_alloc ?_ _));exact BK371.out)⟩;have n4_:Aside0 (wr.heap[gb372]?=some (.cells #[.int .i64 x373000_1,.int .i64 x373001_1,.int .i64 x373002_1,.string x373003_1,.slice none 0 0,.slice none 0 0,.slice none 0 0] 25 (0,0))):=⟨by rw [← hq_];exact (by (with_reducible repeat (first|refine blk_drewN ?_ _|refine blk_drew ?_|refine blk_alloc ?_ _));exact BK372.out)⟩;have n5_:Aside0 (wr.heap[gb387]?=some (.cells #[.int .i64 t374,.int .i64 t375,.int .i64 t376,.string t377,u388004,.slice Ao21 t381.length co21,u388006] 25 (0,0))):=⟨by rw [← hq_];exact (by (with_reducible repeat (first|refine blk_drewN ?_ _|refine blk_drew ?_|refine blk_alloc ?_ _));exact BK387.out)⟩;have n6_:Aside0 (Below w.heap.size w wr):=⟨by rw [← hq_];exact (by repeat (first|(with_reducible first|exact HB.out|apply below_alloc|apply pw_below_drewN|apply below_drew1|refine below_set ?_ GE371.out|refine below_set ?_ GE372.out|refine below_set ?_ GE387.out)|exact HB.out))⟩;clear HO_388004 HO_388005 HO_388006 BK371 BK372 BK387 HB hq_;have HO_388004:=n0_;have HO_388005:=n1_;have HO_388006:=n2_;have BK371:=n3_;have BK372:=n4_;have BK387:=n5_;have HB:=n6_;clear n0_ n1_ n2_ n3_ n4_ n5_ n6_));have hnb83:=NB387_371.out;have hnc83:=NB371_387.out;have hnb84:=NB387_372.out;have hnc84:=NB372_387.out;have hcz85_0:wr.cell? ⟨gb387,0,none⟩=some (.int .i64 t374):=(blk_cell BK387.out 0).trans rfl;have hcz85_1:wr.cell? ⟨gb387,1,none⟩=some (.int .i64 t375):=(blk_cell BK387.out 1).trans rfl;have hcz85_2:wr.cell? ⟨gb387,2,none⟩=some (.int .i64 t376):=(blk_cell BK387.out 2).trans rfl;have hcz85_3:wr.cell? ⟨gb387,3,none⟩=some (.string t377):=(blk_cell BK387.out 3).trans rfl;have hcz85_4:wr.cell? ⟨gb387,4,none⟩=some (u388004):=(blk_cell BK387.out 4).trans rfl;have hcz85_5:wr.cell? ⟨gb387,5,none⟩=some (.slice Ao21 t381.length co21):=(blk_cell BK387.out 5).trans rfl;have hcz85_6:wr.cell? ⟨gb387,6,none⟩=some (u388006):=(blk_cell BK387.out 6).trans rfl;have hfz85_0:=blk_frozen BK387.out 0;have hfz85_1:=blk_frozen BK387.out 1;have hfz85_2:=blk_frozen BK387.out 2;have hfz85_3:=blk_frozen BK387.out 3;have hfz85_4:=blk_frozen BK387.out 4;have hfz85_5:=blk_frozen BK387.out 5;have hfz85_6:=blk_frozen BK387.out 6)|((with_reducible refine gate_builtin (b:=.append) (xs:=#[.tmp 61,.tmp 63]) rfl ?_);at_builtin;refine Kd.R_append Kd.string (w0:=w) w.heap.size rfl (.tmp 61) (.tmp 63) 22 9 (.string ⟨#[]⟩) 16 rfl Try.underlying22 info9 rfl (by decide) (by omega) u388004 x388004_1 a1 [.string a1] (fun k_=>some k_≠(.slice Ao21 t381.length co21:Value).ownBlock) (fun _=>False) rfl rfl ?aP (fun _ hk=>hk.elim) ?aF ?aO ?aB ?aS ?aL ?_;(case aP=>exact rfl);(case aB=>exact (by repeat (first|(with_reducible first|exact HB.out|apply below_alloc|apply pw_below_drewN|apply below_drew1|refine below_set ?_ GE371.out|refine below_set ?_ GE372.out|refine below_set ?_ GE387.out)|exact HB.out)));(case aF=>exact (fun k_ hk=>Kd.fresh' (Kd.R_lt (by (with_reducible repeat (first|apply Kd.R_alloc|apply Kd.R_drewN|apply Kd.R_drew));exact HO_388005.out)) k_ hk));(case aO=>exact (by (with_reducible repeat (first|apply Kd.R_alloc|apply Kd.R_drewN|apply Kd.R_drew));exact HO_388004.out));(case aS=>exact (below_size (by repeat (first|(with_reducible first|exact HB.out|apply below_alloc|apply pw_below_drewN|apply below_drew1|refine below_set ?_ GE371.out|refine below_set ?_ GE372.out|refine below_set ?_ GE387.out)|exact HB.out))));(case aL=>have:=LMc76.out;omega);intro v410 w86 ho hb hg hat;rw [← Ny409.out] at ho;have n0_:=Aside0.mk (Kd.R_after (ok:=(fun _=>True)) (by (with_reducible repeat (first|apply Kd.R_alloc|apply Kd.R_drewN|apply Kd.R_drew));exact Kd.R_mono HO_388005.out (fun _ hk=>⟨trivial,hk⟩)) hg hat);have n1_:=Aside0.mk (Kd.R_over' (by (with_reducible repeat (first|apply Kd.R_alloc|apply Kd.R_drewN|apply Kd.R_drew));exact HO_388006.out) (Kd.R_typed (by (with_reducible repeat (first|apply Kd.R_alloc|apply Kd.R_drewN|apply Kd.R_drew));exact HO_388004.out)) (by decide) hg);have n2_:=Aside0.mk (blk_grown (g:=gb371) (o:=.cells #[.int .i64 a0_0,.int .i64 a0_1,.int .i64 a0_2,.string a0_3,.slice (some ad392) l0_4.length c0_4,.slice A0_5 l0_5.length c0_5,.slice (some ad388) l0_6.length c0_6] 25 (0,0)) (by (with_reducible repeat (first|refine blk_drewN ?_ _|refine blk_drew ?_|refine blk_alloc ?_ _));exact BK371.out) hg (Kd.R_ne HO_388004.out BK371.out (by decide)));have n3_:=Aside0.mk (blk_grown (g:=gb372) (o:=.cells #[.int .i64 x373000_1,.int .i64 x373001_1,.int .i64 x373002_1,.string x373003_1,.slice none 0 0,.slice none 0 0,.slice none 0 0] 25 (0,0)) (by (with_reducible repeat (first|refine blk_drewN ?_ _|refine blk_drew ?_|refine blk_alloc ?_ _));exact BK372.out) hg (Kd.R_ne HO_388004.out BK372.out (by decide)));have n4_:=Aside0.mk (blk_grown (g:=gb387) (o:=.cells #[.int .i64 t374,.int .i64 t375,.int .i64 t376,.string t377,u388004,.slice Ao21 t381.length co21,u388006] 25 (0,0)) (by (with_reducible repeat (first|refine blk_drewN ?_ _|refine blk_drew ?_|refine blk_alloc ?_ _));exact BK387.out) hg (Kd.R_ne HO_388004.out BK387.out (by decide)));have n5_:=Aside0.mk (hb);have n6_:=Aside0.mk (ho);clear HO_388005;clear HO_388006;clear BK371;clear BK372;clear BK387;clear HB;clear HO_388004;have HO_388005:=n0_;have HO_388006:=n1_;have BK371:=n2_;have BK372:=n3_;have BK387:=n4_;have HB:=n5_;have HO411:=n6_;clear n0_ n1_ n2_ n3_ n4_ n5_ n6_;clear ho hb hg hat;obtain ⟨Ao87,co87,eo87⟩:=Kd.R_slice HO411.out;subst eo87;have hcz88_0:w86.cell? ⟨gb387,0,none⟩=some (.int .i64 t374):=(blk_cell BK387.out 0).trans rfl;have hcz88_1:w86.cell? ⟨gb387,1,none⟩=some (.int .i64 t375):=(blk_cell BK387.out 1).trans rfl;have hcz88_2:w86.cell? ⟨gb387,2,none⟩=some (.int .i64 t376):=(blk_cell BK387.out 2).trans rfl;have hcz88_3:w86.cell? ⟨gb387,3,none⟩=some (.string t377):=(blk_cell BK387.out 3).trans rfl;have hcz88_4:w86.cell? ⟨gb387,4,none⟩=some (u388004):=(blk_cell BK387.out 4).trans rfl;have hcz88_5:w86.cell? ⟨gb387,5,none⟩=some (.slice Ao21 t381.length co21):=(blk_cell BK387.out 5).trans rfl;have hcz88_6:w86.cell? ⟨gb387,6,none⟩=some (u388006):=(blk_cell BK387.out 6).trans rfl;have hfz88_0:=blk_frozen BK387.out 0;have hfz88_1:=blk_frozen BK387.out 1;have hfz88_2:=blk_frozen BK387.out 2;have hfz88_3:=blk_frozen BK387.out 3;have hfz88_4:=blk_frozen BK387.out 4;have hfz88_5:=blk_frozen BK387.out 5;have hfz88_6:=blk_frozen BK387.out 6)|((with_reducible refine gate_builtin (b:=.append) (xs:=#[.tmp 67,.tmp 69]) rfl ?_);at_builtin;refine Kd.R_append (Kd.int .i64) (w0:=w) w.heap.size rfl (.tmp 67) (.tmp 69) 23 3 (.int .i64 0) 8 rfl Try.underlying23 info3 rfl (by decide) (by omega) u388006 x388006_1 a2 [.int .i64 a2] (fun _=>True) (fun _=>False) rfl (by first|(go_simp;done)|(go_simp;rfl)) ?aP (fun _ hk=>hk.elim) ?aF ?aO ?aB ?aS ?aL ?_;(case aP=>exact rfl);(case aB=>exact (by repeat (first|(with_reducible first|exact HB.out|apply below_alloc|apply pw_below_drewN|apply below_drew1|refine below_set ?_ GE371.out|refine below_set ?_ GE372.out|refine below_set ?_ GE387.out)|exact HB.out)));(case aF=>exact (fun _ _=>trivial));(case aO=>exact (by (with_reducible repeat (first|apply Kd.R_alloc|apply Kd.R_drewN|apply Kd.R_drew));exact Kd.R_mono (Kd.R_far (p:=⟨gb387,4,none⟩) (Kd.R_types HO_388006.out BK387.out (by decide)) (fun _ hk=>hk.2) (.slice Ao87 y409.length co87)) (fun _ hk=>trivial)));(case aS=>exact (below_size (by repeat (first|(with_reducible first|exact HB.out|apply below_alloc|apply pw_below_drewN|apply below_drew1|refine below_set ?_ GE371.out|refine below_set ?_ GE372.out|refine below_set ?_ GE387.out)|exact HB.out))));(case aL=>have:=LMc77.out;omega);intro v413 w89 ho hb hg hat;rw [← Ny412.out] at ho;have n0_:=Aside0.mk (Kd.R_over' (by (with_reducible repeat (first|apply Kd.R_alloc|apply Kd.R_drewN|apply Kd.R_drew));exact (Kd.R_mono (Kd.R_far (p:=⟨gb387,4,none⟩) (Kd.R_types HO_388005.out BK387.out (by decide)) (fun _ hk=>hk.2) (.slice Ao87 y409.length co87)) (fun _ h_=>h_.1))) (Kd.R_typed (by (with_reducible repeat (first|apply Kd.R_alloc|apply Kd.R_drewN|apply Kd.R_drew));exact (Kd.R_mono (Kd.R_far (p:=⟨gb387,4,none⟩) (Kd.R_types HO_388006.out BK387.out (by decide)) (fun _ hk=>hk.2) (.slice Ao87 y409.length co87)) (fun _ h_=>h_.1)))) (by decide) hg);have n1_:=Aside0.mk (blk_grown (g:=gb371) (o:=.cells #[.int .i64 a0_0,.int .i64 a0_1,.int .i64 a0_2,.string a0_3,.slice (some ad392) l0_4.length c0_4,.slice A0_5 l0_5.length c0_5,.slice (some ad388) l0_6.length c0_6] 25 (0,0)) (by (with_reducible repeat (first|refine blk_drewN ?_ _|refine blk_drew ?_|refine blk_alloc ?_ _));refine blk_far ?_ NB371_387.out _;(with_reducible repeat (first|refine blk_drewN ?_ _|refine blk_drew ?_|refine blk_alloc ?_ _));exact BK371.out) hg (Kd.R_ne HO_388006.out BK371.out (by decide)));have n2_:=Aside0.mk (blk_grown (g:=gb372) (o:=.cells #[.int .i64 x373000_1,.int .i64 x373001_1,.int .i64 x373002_1,.string x373003_1,.slice none 0 0,.slice none 0 0,.slice none 0 0] 25 (0,0)) (by (with_reducible repeat (first|refine blk_drewN ?_ _|refine blk_drew ?_|refine blk_alloc ?_ _));refine blk_far ?_ NB372_387.out _;(with_reducible repeat (first|refine blk_drewN ?_ _|refine blk_drew ?_|refine blk_alloc ?_ _));exact BK372.out) hg (Kd.R_ne HO_388006.out BK372.out (by decide)));have n3_:=Aside0.mk (blk_grown (g:=gb387) (o:=.cells #[.int .i64 t374,.int .i64 t375,.int .i64 t376,.string t377,.slice Ao87 y409.length co87,.slice Ao21 t381.length co21,u388006] 25 (0,0)) (by (with_reducible repeat (first|refine blk_drewN ?_ _|refine blk_drew ?_|refine blk_alloc ?_ _));refine blk_put (cs:=#[.int .i64 t374,.int .i64 t375,.int .i64 t376,.string t377,u388004,.slice Ao21 t381.length co21,u388006]) ?_ 4 _ rfl;(with_reducible repeat (first|refine blk_drewN ?_ _|refine blk_drew ?_|refine blk_alloc ?_ _));exact BK387.out) hg (Kd.R_ne HO_388006.out BK387.out (by decide)));have n4_:=Aside0.mk (Kd.R_over' (by (with_reducible repeat (first|apply Kd.R_alloc|apply Kd.R_drewN|apply Kd.R_drew));exact (Kd.R_mono (Kd.R_far (p:=⟨gb387,4,none⟩) (Kd.R_types HO411.out BK387.out (by decide)) (fun _ hk=>hk.2) (.slice Ao87 y409.length co87)) (fun _ h_=>h_.1))) (Kd.R_typed (by (with_reducible repeat (first|apply Kd.R_alloc|apply Kd.R_drewN|apply Kd.R_drew));exact (Kd.R_mono (Kd.R_far (p:=⟨gb387,4,none⟩) (Kd.R_types HO_388006.out BK387.out (by decide)) (fun _ hk=>hk.2) (.slice Ao87 y409.length co87)) (fun _ h_=>h_.1)))) (by decide) hg);have n5_:=Aside0.mk (hb);have n6_:=Aside0.mk (ho);clear HO_388005;clear BK371;clear BK372;clear BK387;clear HO411;clear HB;clear HO_388006;have HO_388005:=n0_;have BK371:=n1_;have BK372:=n2_;have BK387:=n3_;have HO411:=n4_;have HB:=n5_;have HO414:=n6_;clear n0_ n1_ n2_ n3_ n4_ n5_ n6_;clear ho hb hg hat;obtain ⟨Ao90,co90,eo90⟩:=Kd.R_slice HO414.out;subst eo90;have hcz91_0:w89.cell? ⟨gb387,0,none⟩=some (.int .i64 t374):=(blk_cell BK387.out 0).trans rfl;have hcz91_1:w89.cell? ⟨gb387,1,none⟩=some (.int .i64 t375):=(blk_cell BK387.out 1).trans rfl;have hcz91_2:w89.cell? ⟨gb387,2,none⟩=some (.int .i64 t376):=(blk_cell BK387.out 2).trans rfl;have hcz91_3:w89.cell? ⟨gb387,3,none⟩=some (.string t377):=(blk_cell BK387.out 3).trans rfl;have hcz91_4:w89.cell? ⟨gb387,4,none⟩=some (.slice Ao87 y409.length co87):=(blk_cell BK387.out 4).trans rfl;have hcz91_5:w89.cell? ⟨gb387,5,none⟩=some (.slice Ao21 t381.length co21):=(blk_cell BK387.out 5).trans rfl;have hcz91_6:w89.cell? ⟨gb387,6,none⟩=some (u388006):=(blk_cell BK387.out 6).trans rfl;have hfz91_0:=blk_frozen BK387.out 0;have hfz91_1:=blk_frozen BK387.out 1;have hfz91_2:=blk_frozen BK387.out 2;have hfz91_3:=blk_frozen BK387.out 3;have hfz91_4:=blk_frozen BK387.out 4;have hfz91_5:=blk_frozen BK387.out 5;have hfz91_6:=blk_frozen BK387.out 6)|((with_reducible refine gate_builtin (b:=.append) (xs:=#[.tmp 73,.tmp 75]) rfl ?_);at_builtin;refine Kd.R_append Kd.string (w0:=w) w.heap.size rfl (.tmp 73) (.tmp 75) 22 9 (.string ⟨#[]⟩) 16 rfl Try.underlying22 info9 rfl (by decide) (by omega) (.slice Ao87 y409.length co87) y409 (rdOf ByteArray.empty l0_4 x35_1) [.string (rdOf ByteArray.empty l0_4 x35_1)] (fun k_=>some k_≠(.slice Ao21 t381.length co21:Value).ownBlock) (fun _=>False) rfl (by first|(go_simp;done)|(go_simp;rfl)) ?aP (fun _ hk=>hk.elim) ?aF ?aO ?aB ?aS ?aL ?_;(case aP=>exact rfl);(case aB=>exact (by repeat (first|(with_reducible first|exact HB.out|apply below_alloc|apply pw_below_drewN|apply below_drew1|refine below_set ?_ GE371.out|refine below_set ?_ GE372.out|refine below_set ?_ GE387.out)|exact HB.out)));(case aF=>exact (fun k_ hk=>Kd.fresh' (Kd.R_lt (by (with_reducible repeat (first|apply Kd.R_alloc|apply Kd.R_drewN|apply Kd.R_drew));exact (Kd.R_mono (Kd.R_far (p:=⟨gb387,6,none⟩) (Kd.R_types HO_388005.out BK387.out (by decide)) (fun _ hk=>hk.2) (.slice Ao90 y412.length co90)) (fun _ h_=>h_.1)))) k_ hk));(case aO=>exact (by (with_reducible repeat (first|apply Kd.R_alloc|apply Kd.R_drewN|apply Kd.R_drew));exact Kd.R_mono (Kd.R_far (p:=⟨gb387,6,none⟩) (Kd.R_types HO411.out BK387.out (by decide)) (fun _ hk=>hk.2) (.slice Ao90 y412.length co90)) (fun _ hk=>hk.1)));(case aS=>exact (below_size (by repeat (first|(with_reducible first|exact HB.out|apply below_alloc|apply pw_below_drewN|apply below_drew1|refine below_set ?_ GE371.out|refine below_set ?_ GE372.out|refine below_set ?_ GE387.out)|exact HB.out))));(case aL=>have:=LMc78.out;omega);intro v416 w92 ho hb hg hat;rw [← Ny415.out] at ho;have n0_:=Aside0.mk (Kd.R_after (ok:=(fun _=>True)) (by (with_reducible repeat (first|apply Kd.R_alloc|apply Kd.R_drewN|apply Kd.R_drew));exact Kd.R_mono (Kd.R_far (p:=⟨gb387,6,none⟩) (Kd.R_types HO_388005.out BK387.out (by decide)) (fun _ hk=>hk.2) (.slice Ao90 y412.length co90)) (fun _ hk=>⟨trivial,hk.1.2⟩)) hg hat);have n1_:=Aside0.mk (blk_grown (g:=gb371) (o:=.cells #[.int .i64 a0_0,.int .i64 a0_1,.int .i64 a0_2,.string a0_3,.slice (some ad392) l0_4.length c0_4,.slice A0_5 l0_5.length c0_5,.slice (some ad388) l0_6.length c0_6] 25 (0,0)) (by (with_reducible repeat (first|refine blk_drewN ?_ _|refine blk_drew ?_|refine blk_alloc ?_ _));refine blk_far ?_ NB371_387.out _;(with_reducible repeat (first|refine blk_drewN ?_ _|refine blk_drew ?_|refine blk_alloc ?_ _));exact BK371.out) hg (Kd.R_ne HO411.out BK371.out (by decide)));have n2_:=Aside0.mk (blk_grown (g:=gb372) (o:=.cells #[.int .i64 x373000_1,.int .i64 x373001_1,.int .i64 x373002_1,.string x373003_1,.slice none 0 0,.slice none 0 0,.slice none 0 0] 25 (0,0)) (by (with_reducible repeat (first|refine blk_drewN ?_ _|refine blk_drew ?_|refine blk_alloc ?_ _));refine blk_far ?_ NB372_387.out _;(with_reducible repeat (first|refine blk_drewN ?_ _|refine blk_drew ?_|refine blk_alloc ?_ _));exact BK372.out) hg (Kd.R_ne HO411.out BK372.out (by decide)));have n3_:=Aside0.mk (blk_grown (g:=gb387) (o:=.cells #[.int .i64 t374,.int .i64 t375,.int .i64 t376,.string t377,.slice Ao87 y409.length co87,.slice Ao21 t381.length co21,.slice Ao90 y412.length co90] 25 (0,0)) (by (with_reducible repeat (first|refine blk_drewN ?_ _|refine blk_drew ?_|refine blk_alloc ?_ _));refine blk_put (cs:=#[.int .i64 t374,.int .i64 t375,.int .i64 t376,.string t377,.slice Ao87 y409.length co87,.slice Ao21 t381.length co21,u388006]) ?_ 6 _ rfl;(with_reducible repeat (first|refine blk_drewN ?_ _|refine blk_drew ?_|refine blk_alloc ?_ _));exact BK387.out) hg (Kd.R_ne HO411.out BK387.out (by decide)));have n4_:=Aside0.mk (Kd.R_over' (by (with_reducible repeat (first|apply Kd.R_alloc|apply Kd.R_drewN|apply Kd.R_drew));exact (Kd.R_mono (Kd.R_far (p:=⟨gb387,6,none⟩) (Kd.R_types HO414.out BK387.out (by decide)) (fun _ hk=>hk.2) (.slice Ao90 y412.length co90)) (fun _ h_=>h_.1))) (Kd.R_typed (by (with_reducible repeat (first|apply Kd.R_alloc|apply Kd.R_drewN|apply Kd.R_drew));exact (Kd.R_mono (Kd.R_far (p:=⟨gb387,6,none⟩) (Kd.R_types HO411.out BK387.out (by decide)) (fun _ hk=>hk.2) (.slice Ao90 y412.length co90)) (fun _ h_=>h_.1)))) (by decide) hg);have n5_:=Aside0.mk (hb);have n6_:=Aside0.mk (ho);clear HO_388005;clear BK371;clear BK372;clear BK387;clear HO414;clear HB;clear HO411;have HO_388005:=n0_;have BK371:=n1_;have BK372:=n2_;have BK387:=n3_;have HO414:=n4_;have HB:=n5_;have HO417:=n6_;clear n0_ n1_ n2_ n3_ n4_ n5_ n6_;clear ho hb hg hat;obtain ⟨Ao93,co93,eo93⟩:=Kd.R_slice HO417.out;subst eo93;have hcz94_0:w92.cell? ⟨gb387,0,none⟩=some (.int .i64 t374):=(blk_cell BK387.out 0).trans rfl;have hcz94_1:w92.cell? ⟨gb387,1,none⟩=some (.int .i64 t375):=(blk_cell BK387.out 1).trans rfl;have hcz94_2:w92.cell? ⟨gb387,2,none⟩=some (.int .i64 t376):=(blk_cell BK387.out 2).trans rfl;have hcz94_3:w92.cell? ⟨gb387,3,none⟩=some (.string t377):=(blk_cell BK387.out 3).trans rfl;have hcz94_4:w92.cell? ⟨gb387,4,none⟩=some (.slice Ao87 y409.length co87):=(blk_cell BK387.out 4).trans rfl;have hcz94_5:w92.cell? ⟨gb387,5,none⟩=some (.slice Ao21 t381.length co21):=(blk_cell BK387.out 5).trans rfl;have hcz94_6:w92.cell? ⟨gb387,6,none⟩=some (.slice Ao90 y412.length co90):=(blk_cell BK387.out 6).trans rfl;have hfz94_0:=blk_frozen BK387.out 0;have hfz94_1:=blk_frozen BK387.out 1;have hfz94_2:=blk_frozen BK387.out 2;have hfz94_3:=blk_frozen BK387.out 3;have hfz94_4:=blk_frozen BK387.out 4;have hfz94_5:=blk_frozen BK387.out 5;have hfz94_6:=blk_frozen BK387.out 6))
                  have n0_:Aside0 (Kd.R Kd.string 9 (w92.setCell ⟨gb387,4,none⟩ (.slice Ao93 y415.length co93)) w.heap.size (fun k_=>some k_≠(.slice Ao93 y415.length co93:Value).ownBlock) (.slice Ao21 t381.length co21) t381):=⟨by (with_reducible repeat (first|apply Kd.R_alloc|apply Kd.R_drewN|apply Kd.R_drew));exact Kd.R_mono (Kd.R_far (p:=⟨gb387,4,none⟩) (Kd.R_types HO_388005.out BK387.out (by decide)) (fun _ hk=>hk.2) (.slice Ao93 y415.length co93)) (fun _ hk=>hk.1.2)⟩
                  have n1_:Aside0 (Kd.R (Kd.int .i64) 3 (w92.setCell ⟨gb387,4,none⟩ (.slice Ao93 y415.length co93)) w.heap.size (fun _=>True) (.slice Ao90 y412.length co90) y412):=⟨by (with_reducible repeat (first|apply Kd.R_alloc|apply Kd.R_drewN|apply Kd.R_drew));exact Kd.R_mono (Kd.R_far (p:=⟨gb387,4,none⟩) (Kd.R_types HO414.out BK387.out (by decide)) (fun _ hk=>hk.2) (.slice Ao93 y415.length co93)) (fun _ hk=>trivial)⟩
                  have n2_:Aside0 (Kd.R Kd.string 9 (w92.setCell ⟨gb387,4,none⟩ (.slice Ao93 y415.length co93)) w.heap.size (fun k_=>some k_≠(.slice Ao21 t381.length co21:Value).ownBlock) (.slice Ao93 y415.length co93) y415):=⟨by (with_reducible repeat (first|apply Kd.R_alloc|apply Kd.R_drewN|apply Kd.R_drew));exact Kd.R_mono (Kd.R_far (p:=⟨gb387,4,none⟩) (Kd.R_types HO417.out BK387.out (by decide)) (fun _ hk=>hk.2) (.slice Ao93 y415.length co93)) (fun _ hk=>hk.1)⟩
                  have n3_:Aside0 ((w92.setCell ⟨gb387,4,none⟩ (.slice Ao93 y415.length co93)).heap[gb371]?=some (.cells #[.int .i64 a0_0,.int .i64 a0_1,.int .i64 a0_2,.string a0_3,.slice (some ad392) l0_4.length c0_4,.slice A0_5 l0_5.length c0_5,.slice (some ad388) l0_6.length c0_6] 25 (0,0))):=⟨by (with_reducible repeat (first|refine blk_drewN ?_ _|refine blk_drew ?_|refine blk_alloc ?_ _));refine blk_far ?_ NB371_387.out _;(with_reducible repeat (first|refine blk_drewN ?_ _|refine blk_drew ?_|refine blk_alloc ?_ _));exact BK371.out⟩
                  have n4_:Aside0 ((w92.setCell ⟨gb387,4,none⟩ (.slice Ao93 y415.length co93)).heap[gb372]?=some (.cells #[.int .i64 x373000_1,.int .i64 x373001_1,.int .i64 x373002_1,.string x373003_1,.slice none 0 0,.slice none 0 0,.slice none 0 0] 25 (0,0))):=⟨by (with_reducible repeat (first|refine blk_drewN ?_ _|refine blk_drew ?_|refine blk_alloc ?_ _));refine blk_far ?_ NB372_387.out _;(with_reducible repeat (first|refine blk_drewN ?_ _|refine blk_drew ?_|refine blk_alloc ?_ _));exact BK372.out⟩
                  have n5_:Aside0 ((w92.setCell ⟨gb387,4,none⟩ (.slice Ao93 y415.length co93)).heap[gb387]?=some (.cells #[.int .i64 t374,.int .i64 t375,.int .i64 t376,.string t377,.slice Ao93 y415.length co93,.slice Ao21 t381.length co21,.slice Ao90 y412.length co90] 25 (0,0))):=⟨by (with_reducible repeat (first|refine blk_drewN ?_ _|refine blk_drew ?_|refine blk_alloc ?_ _));refine blk_put (cs:=#[.int .i64 t374,.int .i64 t375,.int .i64 t376,.string t377,.slice Ao87 y409.length co87,.slice Ao21 t381.length co21,.slice Ao90 y412.length co90]) ?_ 4 _ rfl;(with_reducible repeat (first|refine blk_drewN ?_ _|refine blk_drew ?_|refine blk_alloc ?_ _));exact BK387.out⟩
                  have n6_:Aside0 (Below w.heap.size w (w92.setCell ⟨gb387,4,none⟩ (.slice Ao93 y415.length co93))):=⟨by repeat (first|(with_reducible first|exact HB.out|apply below_alloc|apply pw_below_drewN|apply below_drew1|refine below_set ?_ GE371.out|refine below_set ?_ GE372.out|refine below_set ?_ GE387.out)|exact HB.out)⟩
                  (try clear HO_388005)
                  (try clear HO414)
                  (try clear HO417)
                  (try clear BK371)
                  (try clear BK372)
                  (try clear BK387)
                  (try clear HB)
                  generalize (w92.setCell ⟨gb387,4,none⟩ (.slice Ao93 y415.length co93))=w95 at n0_ n1_ n2_ n3_ n4_ n5_ n6_ ⊢
                  have HO_388005:=n0_
                  have HO414:=n1_
                  have HO417:=n2_
                  have BK371:=n3_
                  have BK372:=n4_
                  have BK387:=n5_
                  have HB:=n6_
                  clear n0_ n1_ n2_ n3_ n4_ n5_ n6_
                  have n0_:=Aside0.mk (Kd.R_drew HO_388005.out)
                  have n1_:=Aside0.mk (Kd.R_drew HO414.out)
                  have n2_:=Aside0.mk (Kd.R_drew HO417.out)
                  have n3_:=Aside0.mk (blk_drew BK371.out)
                  have n4_:=Aside0.mk (blk_drew BK372.out)
                  have n5_:=Aside0.mk (blk_drew BK387.out)
                  have n6_:=Aside0.mk (below_drew1 HB.out)
                  clear HO_388005
                  clear HO414
                  clear HO417
                  clear BK371
                  clear BK372
                  clear BK387
                  clear HB
                  have HO_388005:=n0_
                  have HO414:=n1_
                  have HO417:=n2_
                  have BK371:=n3_
                  have BK372:=n4_
                  have BK387:=n5_
                  have HB:=n6_
                  clear n0_ n1_ n2_ n3_ n4_ n5_ n6_
                  have p418:0≤((ji79):Int):=of_decide_eq_true (by first|(with_reducible assumption)|assumption)
                  have q418:(ji79) < (l0_6.length:Int):=of_decide_eq_true (by first|(with_reducible assumption)|assumption)
                  obtain ⟨ad418,e418,hx418_0⟩:=Kd.at_int HR0_6.out (ji79) p418 q418
                  have hw418_0:=hx418_0
                  obtain rfl:ad388=ad418:=(by injection e418)
                  replace hx418_0:=(HB.out.cell (World.block_lt_of_cell? w _ hx418_0)).trans hx418_0
                  replace p418:=eq_true p418
                  replace q418:=eq_true q418
                  refine start_ (n:=12) (S:=fun w'=>w'.cell? ⟨gb387,0,none⟩=some (.int .i64 t374)∧w'.cell? ⟨gb387,1,none⟩=some (.int .i64 t375)∧w'.cell? ⟨gb387,2,none⟩=some (.int .i64 t376)∧w'.cell? ⟨gb387,3,none⟩=some (.string t377)∧w'.cell? ⟨gb387,4,none⟩=some (.slice Ao93 y415.length co93)∧w'.cell? ⟨gb387,5,none⟩=some (.slice Ao21 t381.length co21)∧w'.cell? ⟨gb387,6,none⟩=some (.slice Ao90 y412.length co90)∧w'.cell? ⟨gb371,0,none⟩=some (.int .i64 a0_0)∧w'.cell? ⟨gb371,1,none⟩=some (.int .i64 a0_1)∧w'.cell? ⟨gb371,2,none⟩=some (.int .i64 a0_2)∧w'.cell? ⟨gb371,3,none⟩=some (.string a0_3)∧w'.cell? ⟨gb371,4,none⟩=some (.slice (some ad392) l0_4.length c0_4)∧w'.cell? ⟨gb371,5,none⟩=some (.slice A0_5 l0_5.length c0_5)∧w'.cell? ⟨gb371,6,none⟩=some (.slice (some ad388) l0_6.length c0_6)∧w'.cell? (ad388.add ((ji79)).toNat)=some (.int .i64 (rd l0_6 (ji79)))) (ds:=[11]) #[false,false,false,false,false,false,false,false,false,false,false,false] (by kernel_rfl) rfl rfl ⟨(blk_cell BK387.out 0).trans rfl,(blk_cell BK387.out 1).trans rfl,(blk_cell BK387.out 2).trans rfl,(blk_cell BK387.out 3).trans rfl,(blk_cell BK387.out 4).trans rfl,(blk_cell BK387.out 5).trans rfl,(blk_cell BK387.out 6).trans rfl,(blk_cell BK371.out 0).trans rfl,(blk_cell BK371.out 1).trans rfl,(blk_cell BK371.out 2).trans rfl,(blk_cell BK371.out 3).trans rfl,(blk_cell BK371.out 4).trans rfl,(blk_cell BK371.out 5).trans rfl,(blk_cell BK371.out 6).trans rfl,((HB.out.cell (World.block_lt_of_cell? w _ hw418_0)).trans hw418_0)⟩ (fun hHeld=>?_);refine with_tabW latticeref07_Post.tab19 latticeref07_Post.bits19 (fun HT_ HW_=>?_)
                  generalize w95.drew=w96 at HO_388005 HO414 HO417 BK371 BK372 BK387 HB hx418_0 hHeld ⊢
                  refine pure_ (i:=0) (N:=some 78) (v:=?_) (a':=?_) #[true,false,false,false,false,false,false,false,false,false,false,false] rfl rfl (any_of HT_.out (by kernel_rfl)) (fun _ _ _ h=>h) (Or.inl ⟨by rfl,?_⟩) ?_ ?_
                  rotate_left
                  ·intro w'
                   go_simp
                   with_reducible rfl
                  rotate_left
                  ·simp only [Act.put,List.setIfInBounds_toArray,List.set_cons_zero,List.set_cons_succ,i64_w,i32_w]
                   rfl
                  refine pure_ (i:=2) (N:=some 80) (v:=?_) (a':=?_) #[true,false,true,false,false,false,false,false,false,false,false,false] rfl rfl (any_of HT_.out (by kernel_rfl)) (fun _ _ _ h=>h) (Or.inl ⟨by rfl,?_⟩) ?_ ?_
                  rotate_left
                  ·intro w'
                   go_simp
                   with_reducible rfl
                  rotate_left
                  ·simp only [Act.put,List.setIfInBounds_toArray,List.set_cons_zero,List.set_cons_succ,i64_w,i32_w]
                   rfl
                  refine pure_ (i:=4) (N:=some 82) (v:=?_) (a':=?_) #[true,false,true,false,true,false,false,false,false,false,false,false] rfl rfl (any_of HT_.out (by kernel_rfl)) (fun _ _ _ h=>h) (Or.inl ⟨by rfl,?_⟩) ?_ ?_
                  rotate_left
                  ·intro w'
                   go_simp
                   with_reducible rfl
                  rotate_left
                  ·simp only [Act.put,List.setIfInBounds_toArray,List.set_cons_zero,List.set_cons_succ,i64_w,i32_w]
                   rfl
                  refine pure_ (i:=5) (N:=some 83) (v:=?_) (a':=?_) #[true,false,true,false,true,true,false,false,false,false,false,false] rfl rfl (any_of HT_.out (by kernel_rfl)) (fun _ _ _ h=>h) (Or.inl ⟨by rfl,?_⟩) ?_ ?_
                  rotate_left
                  ·intro w'
                   go_simp
                   with_reducible rfl
                  rotate_left
                  ·simp only [Act.put,List.setIfInBounds_toArray,List.set_cons_zero,List.set_cons_succ,i64_w,i32_w]
                   rfl
                  refine take_ (i:=1) (N:=some 79) (v:=?_) (a':=?_) #[true,true,true,false,true,true,false,false,false,false,false,false] rfl rfl (take_ofW HT_.out HW_.out (by kernel_rfl)) (fun _ _ _ h=>h) (Or.inl ⟨by rfl,?_⟩) hHeld ?_ ?_
                  rotate_left
                  ·rintro w' ⟨s0,s1,s2,s3,s4,s5,s6,s7,s8,s9,s10,s11,s12,s13,s14⟩
                   go_simp
                   with_reducible rfl
                  rotate_left
                  ·simp only [Act.put,List.setIfInBounds_toArray,List.set_cons_zero,List.set_cons_succ,i64_w,i32_w]
                   rfl
                  refine take_ (i:=3) (N:=some 81) (v:=?_) (a':=?_) #[true,true,true,true,true,true,false,false,false,false,false,false] rfl rfl (take_ofW HT_.out HW_.out (by kernel_rfl)) (fun _ _ _ h=>h) (Or.inl ⟨by rfl,?_⟩) hHeld ?_ ?_
                  rotate_left
                  ·rintro w' ⟨s0,s1,s2,s3,s4,s5,s6,s7,s8,s9,s10,s11,s12,s13,s14⟩
                   go_simp
                   with_reducible rfl
                  rotate_left
                  ·simp only [Act.put,List.setIfInBounds_toArray,List.set_cons_zero,List.set_cons_succ,i64_w,i32_w]
                   rfl
                  refine pure_ (i:=6) (N:=some 84) (v:=?_) (a':=?_) #[true,true,true,true,true,true,true,false,false,false,false,false] rfl rfl (any_of HT_.out (by kernel_rfl)) (fun _ _ _ h=>h) (Or.inl ⟨by rfl,?_⟩) ?_ ?_
                  rotate_left
                  ·intro w'
                   go_simp
                   with_reducible rfl
                  rotate_left
                  ·simp only [Act.put,List.setIfInBounds_toArray,List.set_cons_zero,List.set_cons_succ,i64_w,i32_w]
                   rfl
                  refine take_ (i:=7) (N:=some 85) (v:=?_) (a':=?_) #[true,true,true,true,true,true,true,true,false,false,false,false] rfl rfl (take_ofW HT_.out HW_.out (by kernel_rfl)) (fun _ _ _ h=>h) (Or.inl ⟨by rfl,?_⟩) hHeld ?_ ?_
                  rotate_left
                  ·rintro w' ⟨s0,s1,s2,s3,s4,s5,s6,s7,s8,s9,s10,s11,s12,s13,s14⟩
                   go_simp
                   with_reducible rfl
                  rotate_left
                  ·simp only [Act.put,List.setIfInBounds_toArray,List.set_cons_zero,List.set_cons_succ,i64_w,i32_w]
                   rfl
                  refine one_ (i:=8) (N:=some 86) #[true,true,true,true,true,true,true,true,true,false,false,false] rfl rfl (one_of HT_.out (by kernel_rfl)) (by decide) (fun K hK=>?_)
                  refine value_ (w1:=?_) (v:=?_) (by rfl) rfl ?_ ?_
                  rotate_left 2
                  ·go_simp
                   constructor
                   ·rfl
                   ·rfl
                  refine hK.out _ _ ⟨(blk_cell (blk_alloc BK387.out _) 0).trans rfl,(blk_cell (blk_alloc BK387.out _) 1).trans rfl,(blk_cell (blk_alloc BK387.out _) 2).trans rfl,(blk_cell (blk_alloc BK387.out _) 3).trans rfl,(blk_cell (blk_alloc BK387.out _) 4).trans rfl,(blk_cell (blk_alloc BK387.out _) 5).trans rfl,(blk_cell (blk_alloc BK387.out _) 6).trans rfl,(blk_cell (blk_alloc BK371.out _) 0).trans rfl,(blk_cell (blk_alloc BK371.out _) 1).trans rfl,(blk_cell (blk_alloc BK371.out _) 2).trans rfl,(blk_cell (blk_alloc BK371.out _) 3).trans rfl,(blk_cell (blk_alloc BK371.out _) 4).trans rfl,(blk_cell (blk_alloc BK371.out _) 5).trans rfl,(blk_cell (blk_alloc BK371.out _) 6).trans rfl,(World.cell?_alloc_lt _ _ _ (World.block_lt_of_cell? _ _ (((HB.out.cell (World.block_lt_of_cell? w _ hw418_0)).trans hw418_0)))).trans (((HB.out.cell (World.block_lt_of_cell? w _ hw418_0)).trans hw418_0))⟩ (fun hHeld=>?_)
                  clear hK K
                  refine norm_ (a':=?_) ?_ ?_
                  rotate_left
                  ·show Act.put _ (some 86) _=_
                   simp only [Act.put,List.setIfInBounds_toArray,List.set_cons_zero,List.set_cons_succ,i64_w,i32_w]
                   rfl
                  refine one_ (i:=9) (N:=some 87) #[true,true,true,true,true,true,true,true,true,true,false,false] rfl rfl (one_of HT_.out (by kernel_rfl)) (by decide) (fun K hK=>?_)
                  refine Kd.R_append_step (Kd.int .i64) (w0:=w) w.heap.size (by rfl) (.tmp 79) (.tmp 86) 23 3 (.int .i64 0) 8 rfl Try.underlying23 info3 rfl (by decide) (by omega) (.slice Ao90 y412.length co90) y412 (rd l0_6 (ji79)) [.int .i64 (rd l0_6 (ji79))] (fun _=>True) (fun _=>False) rfl rfl ?aP (fun _ hk=>hk.elim) ?aF ?aO ?aB ?aS ?aL ?_
                  (case aP=>exact rfl)
                  (case aB=>exact (by repeat (first|(with_reducible first|exact HB.out|apply below_alloc|apply pw_below_drewN|apply below_drew1|refine below_set ?_ GE371.out|refine below_set ?_ GE372.out|refine below_set ?_ GE387.out)|exact HB.out)))
                  (case aF=>exact (fun _ _=>trivial))
                  (case aO=>exact (by (with_reducible repeat (first|apply Kd.R_alloc|apply Kd.R_drewN|apply Kd.R_drew));exact HO414.out))
                  (case aS=>exact (below_size (by repeat (first|(with_reducible first|exact HB.out|apply below_alloc|apply pw_below_drewN|apply below_drew1|refine below_set ?_ GE371.out|refine below_set ?_ GE372.out|refine below_set ?_ GE387.out)|exact HB.out))))
                  (case aL=>have:=LMc82.out;omega)
                  intro v420 w97 ho hb hg hat
                  rw [← Ny419.out] at ho
                  have n0_:=Aside0.mk (Kd.R_over' (by (with_reducible repeat (first|apply Kd.R_alloc|apply Kd.R_drewN|apply Kd.R_drew));exact HO_388005.out) (Kd.R_typed (by (with_reducible repeat (first|apply Kd.R_alloc|apply Kd.R_drewN|apply Kd.R_drew));exact HO414.out)) (by decide) hg)
                  have n1_:=Aside0.mk (blk_grown (g:=gb371) (o:=.cells #[.int .i64 a0_0,.int .i64 a0_1,.int .i64 a0_2,.string a0_3,.slice (some ad392) l0_4.length c0_4,.slice A0_5 l0_5.length c0_5,.slice (some ad388) l0_6.length c0_6] 25 (0,0)) (by (with_reducible repeat (first|refine blk_drewN ?_ _|refine blk_drew ?_|refine blk_alloc ?_ _));exact BK371.out) hg (Kd.R_ne HO414.out BK371.out (by decide)))
                  have n2_:=Aside0.mk (blk_grown (g:=gb372) (o:=.cells #[.int .i64 x373000_1,.int .i64 x373001_1,.int .i64 x373002_1,.string x373003_1,.slice none 0 0,.slice none 0 0,.slice none 0 0] 25 (0,0)) (by (with_reducible repeat (first|refine blk_drewN ?_ _|refine blk_drew ?_|refine blk_alloc ?_ _));exact BK372.out) hg (Kd.R_ne HO414.out BK372.out (by decide)))
                  have n3_:=Aside0.mk (blk_grown (g:=gb387) (o:=.cells #[.int .i64 t374,.int .i64 t375,.int .i64 t376,.string t377,.slice Ao93 y415.length co93,.slice Ao21 t381.length co21,.slice Ao90 y412.length co90] 25 (0,0)) (by (with_reducible repeat (first|refine blk_drewN ?_ _|refine blk_drew ?_|refine blk_alloc ?_ _));exact BK387.out) hg (Kd.R_ne HO414.out BK387.out (by decide)))
                  have n4_:=Aside0.mk (Kd.R_over' (by (with_reducible repeat (first|apply Kd.R_alloc|apply Kd.R_drewN|apply Kd.R_drew));exact HO417.out) (Kd.R_typed (by (with_reducible repeat (first|apply Kd.R_alloc|apply Kd.R_drewN|apply Kd.R_drew));exact HO414.out)) (by decide) hg)
                  have n5_:=Aside0.mk (hb)
                  have n6_:=Aside0.mk (ho)
                  clear HO_388005
                  clear BK371
                  clear BK372
                  clear BK387
                  clear HO417
                  clear HB
                  clear HO414
                  have HO_388005:=n0_
                  have BK371:=n1_
                  have BK372:=n2_
                  have BK387:=n3_
                  have HO417:=n4_
                  have HB:=n5_
                  have HO421:=n6_
                  clear n0_ n1_ n2_ n3_ n4_ n5_ n6_
                  clear ho hb hg hat
                  obtain ⟨Ao98,co98,eo98⟩:=Kd.R_slice HO421.out
                  (first|subst eo98|(injection eo98 with f1_ f2_ f3_;have f4_:=f1_.symm;have f5_:=f3_.symm;clear f1_ f2_ f3_;subst f4_;subst f5_))
                  refine hK.out _ _ ⟨(blk_cell BK387.out 0).trans rfl,(blk_cell BK387.out 1).trans rfl,(blk_cell BK387.out 2).trans rfl,(blk_cell BK387.out 3).trans rfl,(blk_cell BK387.out 4).trans rfl,(blk_cell BK387.out 5).trans rfl,(blk_cell BK387.out 6).trans rfl,(blk_cell BK371.out 0).trans rfl,(blk_cell BK371.out 1).trans rfl,(blk_cell BK371.out 2).trans rfl,(blk_cell BK371.out 3).trans rfl,(blk_cell BK371.out 4).trans rfl,(blk_cell BK371.out 5).trans rfl,(blk_cell BK371.out 6).trans rfl,((HB.out.cell (World.block_lt_of_cell? w _ hw418_0)).trans hw418_0)⟩ (fun hHeld=>?_)
                  clear hK K
                  refine norm_ (a':=?_) ?_ ?_
                  rotate_left
                  ·show Act.put _ (some 87) _=_
                   simp only [Act.put,List.setIfInBounds_toArray,List.set_cons_zero,List.set_cons_succ,i64_w,i32_w]
                   rfl
                  refine pure_ (i:=10) (N:=some 88) (v:=?_) (a':=?_) #[true,true,true,true,true,true,true,true,true,true,true,false] rfl rfl (any_of HT_.out (by kernel_rfl)) (fun _ _ _ h=>h) (Or.inl ⟨by rfl,?_⟩) ?_ ?_
                  rotate_left
                  ·intro w'
                   go_simp
                   with_reducible rfl
                  rotate_left
                  ·simp only [Act.put,List.setIfInBounds_toArray,List.set_cons_zero,List.set_cons_succ,i64_w,i32_w]
                   rfl
                  refine last_ (i:=11) (N:=none) #[true,true,true,true,true,true,true,true,true,true,true,true] rfl rfl (one_of HT_.out (by kernel_rfl)) (by decide) (fun K hK=>?_)
                  have hs99:w97.cell? ⟨gb387,6,none⟩=some (.slice Ao90 y412.length co90):=(blk_cell BK387.out 6).trans rfl
                  have hfs99:=blk_frozen BK387.out 6
                  have hns99_0:=NB371_387.out
                  have hns99_1:=NB372_387.out
                  have hms99_0:=NB387_371.out
                  have hms99_1:=NB387_372.out
                  refine skip_ (w1:=?_) (by rfl) rfl ?_ ?_
                  rotate_left
                  ·go_simp
                   rfl
                  refine hK.out _ _ ?_
                  clear hK K
                  refine done_ (done_of HT_.out (by kernel_rfl)) ?_
                  try go_wp2
                  go_roundg k1
                  case measure=>have:=HK1.out;omega
                  case rel=>exact ⟨(true),(ji79),(x373000_1),(x373001_1),(x373002_1),(x373003_1),(y415),(y419),(.slice Ao93 y415.length co93),(.slice Ao98 y419.length co98),(by first|rfl|(simp;done)|(simp [*];done)),(by first|rfl|(simp;done)|(simp only [← hji79] <;> (first|rfl|simp))|(simp [*];done)),H',⟨by have:=HK1.out;omega⟩,⟨by (with_reducible repeat (first|apply Kd.R_alloc|apply Kd.R_drewN|apply Kd.R_drew));exact Kd.R_mono (Kd.R_far (p:=⟨gb387,6,none⟩) (Kd.R_types HO417.out BK387.out (by decide)) (fun _ hk=>hk.2) (.slice Ao98 y419.length co98)) (fun _ hk=>hk.1)⟩,⟨by (with_reducible repeat (first|apply Kd.R_alloc|apply Kd.R_drewN|apply Kd.R_drew));exact Kd.R_mono (Kd.R_far (p:=⟨gb387,6,none⟩) (Kd.R_types HO_388005.out BK387.out (by decide)) (fun _ hk=>hk.2) (.slice Ao98 y419.length co98)) (fun _ hk=>hk.1)⟩,⟨by (with_reducible repeat (first|apply Kd.R_alloc|apply Kd.R_drewN|apply Kd.R_drew));exact Kd.R_mono (Kd.R_far (p:=⟨gb387,6,none⟩) (Kd.R_types HO421.out BK387.out (by decide)) (fun _ hk=>hk.2) (.slice Ao98 y419.length co98)) (fun _ hk=>trivial)⟩,⟨by (with_reducible repeat (first|refine blk_drewN ?_ _|refine blk_drew ?_|refine blk_alloc ?_ _));refine blk_far ?_ NB371_387.out _;(with_reducible repeat (first|refine blk_drewN ?_ _|refine blk_drew ?_|refine blk_alloc ?_ _));exact BK371.out⟩,⟨by (with_reducible repeat (first|refine blk_drewN ?_ _|refine blk_drew ?_|refine blk_alloc ?_ _));refine blk_far ?_ NB372_387.out _;(with_reducible repeat (first|refine blk_drewN ?_ _|refine blk_drew ?_|refine blk_alloc ?_ _));exact BK372.out⟩,⟨by (with_reducible repeat (first|refine blk_drewN ?_ _|refine blk_drew ?_|refine blk_alloc ?_ _));refine blk_put (cs:=#[.int .i64 t374,.int .i64 t375,.int .i64 t376,.string t377,.slice Ao93 y415.length co93,.slice Ao21 t381.length co21,.slice Ao90 y412.length co90]) ?_ 6 _ rfl;(with_reducible repeat (first|refine blk_drewN ?_ _|refine blk_drew ?_|refine blk_alloc ?_ _));exact BK387.out⟩,⟨by repeat (first|(with_reducible first|exact HB.out|apply below_alloc|apply pw_below_drewN|apply below_drew1|refine below_set ?_ GE371.out|refine below_set ?_ GE372.out|refine below_set ?_ GE387.out)|exact HB.out)⟩⟩
                 ·rw [if_neg c82] at H
                  exact absurd H (by simp)
                ·rw [if_neg c81] at H
                 exact absurd H (by simp)
               ·rw [if_neg c80] at H
                exact absurd H (by simp)
              ·rw [if_neg c78] at H
               exact absurd H (by simp)
             ·rw [if_neg c77] at H
              exact absurd H (by simp)
            ·rw [if_neg c76] at H
             exact absurd H (by simp)
           ·rw [if_neg c75] at H
            have c75b0:decide (0 < t408)=false:=decide_eq_false c75
            clear c75
            by_cases c100:x388004_1.length < 8796093022208
            ·rw [if_pos c100] at H
             have LMc100:=Aside0.mk c100
             clear c100
             obtain ⟨y422,hy422⟩:∃ y_:List ByteArray,y_=(x388004_1++[rdOf ByteArray.empty l0_4 x35_1]):=⟨_,rfl⟩
             replace H:(if 0≤(wrap64 (x35_1+1)) then (if (wrap64 (x35_1+1)) < (l0_6.length:Int) then (if x388006_1.length < 17592186044416 then (latticeref07_Post.l0 k1 a1 a2 false l0_4 (l0_4.length:Int) (wrap64 (x35_1+1)) a0_0 a0_1 a0_2 a0_3 l0_4 l0_5 l0_6 t374 t375 t376 t377 y422 t381 (x388006_1++[rd l0_6 (wrap64 (x35_1+1))])) else (none)) else (none)) else (none))=some (r1,r2,r3,r4,r5,r6,r7,r8):=by first|(rw [hy422];with_reducible exact H)|(have H2_:=(Option.bind_some _ _).symm.trans H;rw [hy422];with_reducible exact H2_)|(have H2_:=(Option.bind_some _ _).symm.trans H;with_reducible exact H2_)|with_reducible exact H|(rw [hy422];exact H)|exact H
             have Ny422:=Aside0.mk hy422
             clear hy422
             obtain ⟨ji101,hji101⟩:∃ j_:Int,(wrap64 (x35_1+1))=j_:=⟨_,rfl⟩
             replace H:(if 0≤(ji101) then (if (ji101) < (l0_6.length:Int) then (if x388006_1.length < 17592186044416 then (latticeref07_Post.l0 k1 a1 a2 false l0_4 (l0_4.length:Int) ji101 a0_0 a0_1 a0_2 a0_3 l0_4 l0_5 l0_6 t374 t375 t376 t377 y422 t381 (x388006_1++[rd l0_6 (ji101)])) else (none)) else (none)) else (none))=some (r1,r2,r3,r4,r5,r6,r7,r8):=by first|(rw [hji101] at H;exact H)|(simp only [hji101] at H ⊢;exact H)
             (try rw [hji101] at A74)
             have hji101w:(IntKind.i64.wrap (x35_1+1))=ji101:=(i64_w _).trans hji101
             by_cases c102:0≤(ji101)
             ·rw [if_pos c102] at H
              have c102b0:decide (0≤(ji101))=true:=decide_eq_true c102
              clear c102
              by_cases c103:(ji101) < (l0_6.length:Int)
              ·rw [if_pos c103] at H
               have c103b0:decide ((ji101) < (l0_6.length:Int))=true:=decide_eq_true c103
               clear c103
               by_cases c104:x388006_1.length < 17592186044416
               ·rw [if_pos c104] at H
                have LMc104:=Aside0.mk c104
                clear c104
                obtain ⟨y426,hy426⟩:∃ y_:List Int,y_=(x388006_1++[rd l0_6 (ji101)]):=⟨_,rfl⟩
                replace H:(latticeref07_Post.l0 k1 a1 a2 false l0_4 (l0_4.length:Int) ji101 a0_0 a0_1 a0_2 a0_3 l0_4 l0_5 l0_6 t374 t375 t376 t377 y422 t381 y426)=some (r1,r2,r3,r4,r5,r6,r7,r8):=by first|(rw [hy426];with_reducible exact H)|(have H2_:=(Option.bind_some _ _).symm.trans H;rw [hy426];with_reducible exact H2_)|(have H2_:=(Option.bind_some _ _).symm.trans H;with_reducible exact H2_)|with_reducible exact H|(rw [hy426];exact H)|exact H
                have Ny426:=Aside0.mk hy426
                clear hy426
                have H':=Aside0.mk H
                clear H
                have p392:0≤(x35_1:Int):=of_decide_eq_true (by first|(with_reducible assumption)|assumption)
                have q392:x35_1 < (l0_4.length:Int):=of_decide_eq_true (by first|(with_reducible assumption)|assumption)
                obtain ⟨ad392,e392,hx392_0⟩:=Kd.at_string HR0_4.out x35_1 p392 q392
                cases e392
                replace hx392_0:=(HB.out.cell (World.block_lt_of_cell? w _ hx392_0)).trans hx392_0
                replace p392:=eq_true p392
                replace q392:=eq_true q392
                try go_wp2_with (first|(go_at_call 41;(with_reducible refine (latticeref05_Compare.calls k1 (rdOf ByteArray.empty l0_4 x35_1) a1 t408 _ A74.out).mono ?_);rintro e w' ⟨rfl,⟨nd,rfl⟩⟩;(try (rw [drewN_self wr];generalize hq_:World.drewN wr _=wr;have n0_:Aside0 (Kd.R Kd.string 9 wr w.heap.size (fun k_=>some k_≠(.slice Ao21 t381.length co21:Value).ownBlock) u388004 x388004_1):=⟨by rw [← hq_];exact (by (with_reducible repeat (first|apply Kd.R_alloc|apply Kd.R_drewN|apply Kd.R_drew));exact HO_388004.out)⟩;have n1_:Aside0 (Kd.R Kd.string 9 wr w.heap.size (fun k_=>some k_≠(u388004:Value).ownBlock) (.slice Ao21 t381.length co21) t381):=⟨by rw [← hq_];exact (by (with_reducible repeat (first|apply Kd.R_alloc|apply Kd.R_drewN|apply Kd.R_drew));exact HO_388005.out)⟩;have n2_:Aside0 (Kd.R (Kd.int .i64) 3 wr w.heap.size (fun _=>True) u388006 x388006_1):=⟨by rw [← hq_];exact (by (with_reducible repeat (first|apply Kd.R_alloc|apply Kd.R_drewN|apply Kd.R_drew));exact HO_388006.out)⟩;have n3_:Aside0 (wr.heap[gb371]?=some (.cells #[.int .i64 a0_0,.int .i64 a0_1,.int .i64 a0_2,.string a0_3,.slice (some ad392) l0_4.length c0_4,.slice A0_5 l0_5.length c0_5,.slice (some ad388) l0_6.length c0_6] 25 (0,0))):=⟨by rw [← hq_];exact (by (with_reducible repeat (first|refine blk_drewN ?_ _|refine blk_drew ?_|refine blk_alloc ?_ _));exact BK371.out)⟩;have n4_:Aside0 (wr.heap[gb372]?=some (.cells #[.int .i64 x373000_1,.int .i64 x373001_1,.int .i64 x373002_1,.string x373003_1,.slice none 0 0,.slice none 0 0,.slice none 0 0] 25 (0,0))):=⟨by rw [← hq_];exact (by (with_reducible repeat (first|refine blk_drewN ?_ _|refine blk_drew ?_|refine blk_alloc ?_ _));exact BK372.out)⟩;have n5_:Aside0 (wr.heap[gb387]?=some (.cells #[.int .i64 t374,.int .i64 t375,.int .i64 t376,.string t377,u388004,.slice Ao21 t381.length co21,u388006] 25 (0,0))):=⟨by rw [← hq_];exact (by (with_reducible repeat (first|refine blk_drewN ?_ _|refine blk_drew ?_|refine blk_alloc ?_ _));exact BK387.out)⟩;have n6_:Aside0 (Below w.heap.size w wr):=⟨by rw [← hq_];exact (by repeat (first|(with_reducible first|exact HB.out|apply below_alloc|apply pw_below_drewN|apply below_drew1|refine below_set ?_ GE371.out|refine below_set ?_ GE372.out|refine below_set ?_ GE387.out)|exact HB.out))⟩;clear HO_388004 HO_388005 HO_388006 BK371 BK372 BK387 HB hq_;have HO_388004:=n0_;have HO_388005:=n1_;have HO_388006:=n2_;have BK371:=n3_;have BK372:=n4_;have BK387:=n5_;have HB:=n6_;clear n0_ n1_ n2_ n3_ n4_ n5_ n6_));have hnb105:=NB387_371.out;have hnc105:=NB371_387.out;have hnb106:=NB387_372.out;have hnc106:=NB372_387.out;have hcz107_0:wr.cell? ⟨gb387,0,none⟩=some (.int .i64 t374):=(blk_cell BK387.out 0).trans rfl;have hcz107_1:wr.cell? ⟨gb387,1,none⟩=some (.int .i64 t375):=(blk_cell BK387.out 1).trans rfl;have hcz107_2:wr.cell? ⟨gb387,2,none⟩=some (.int .i64 t376):=(blk_cell BK387.out 2).trans rfl;have hcz107_3:wr.cell? ⟨gb387,3,none⟩=some (.string t377):=(blk_cell BK387.out 3).trans rfl;have hcz107_4:wr.cell? ⟨gb387,4,none⟩=some (u388004):=(blk_cell BK387.out 4).trans rfl;have hcz107_5:wr.cell? ⟨gb387,5,none⟩=some (.slice Ao21 t381.length co21):=(blk_cell BK387.out 5).trans rfl;have hcz107_6:wr.cell? ⟨gb387,6,none⟩=some (u388006):=(blk_cell BK387.out 6).trans rfl;have hfz107_0:=blk_frozen BK387.out 0;have hfz107_1:=blk_frozen BK387.out 1;have hfz107_2:=blk_frozen BK387.out 2;have hfz107_3:=blk_frozen BK387.out 3;have hfz107_4:=blk_frozen BK387.out 4;have hfz107_5:=blk_frozen BK387.out 5;have hfz107_6:=blk_frozen BK387.out 6)|((with_reducible refine gate_builtin (b:=.append) (xs:=#[.tmp 73,.tmp 75]) rfl ?_);at_builtin;refine Kd.R_append Kd.string (w0:=w) w.heap.size rfl (.tmp 73) (.tmp 75) 22 9 (.string ⟨#[]⟩) 16 rfl Try.underlying22 info9 rfl (by decide) (by omega) u388004 x388004_1 (rdOf ByteArray.empty l0_4 x35_1) [.string (rdOf ByteArray.empty l0_4 x35_1)] (fun k_=>some k_≠(.slice Ao21 t381.length co21:Value).ownBlock) (fun _=>False) rfl rfl ?aP (fun _ hk=>hk.elim) ?aF ?aO ?aB ?aS ?aL ?_;(case aP=>exact rfl);(case aB=>exact (by repeat (first|(with_reducible first|exact HB.out|apply below_alloc|apply pw_below_drewN|apply below_drew1|refine below_set ?_ GE371.out|refine below_set ?_ GE372.out|refine below_set ?_ GE387.out)|exact HB.out)));(case aF=>exact (fun k_ hk=>Kd.fresh' (Kd.R_lt (by (with_reducible repeat (first|apply Kd.R_alloc|apply Kd.R_drewN|apply Kd.R_drew));exact HO_388005.out)) k_ hk));(case aO=>exact (by (with_reducible repeat (first|apply Kd.R_alloc|apply Kd.R_drewN|apply Kd.R_drew));exact HO_388004.out));(case aS=>exact (below_size (by repeat (first|(with_reducible first|exact HB.out|apply below_alloc|apply pw_below_drewN|apply below_drew1|refine below_set ?_ GE371.out|refine below_set ?_ GE372.out|refine below_set ?_ GE387.out)|exact HB.out))));(case aL=>have:=LMc100.out;omega);intro v423 w108 ho hb hg hat;rw [← Ny422.out] at ho;have n0_:=Aside0.mk (Kd.R_after (ok:=(fun _=>True)) (by (with_reducible repeat (first|apply Kd.R_alloc|apply Kd.R_drewN|apply Kd.R_drew));exact Kd.R_mono HO_388005.out (fun _ hk=>⟨trivial,hk⟩)) hg hat);have n1_:=Aside0.mk (Kd.R_over' (by (with_reducible repeat (first|apply Kd.R_alloc|apply Kd.R_drewN|apply Kd.R_drew));exact HO_388006.out) (Kd.R_typed (by (with_reducible repeat (first|apply Kd.R_alloc|apply Kd.R_drewN|apply Kd.R_drew));exact HO_388004.out)) (by decide) hg);have n2_:=Aside0.mk (blk_grown (g:=gb371) (o:=.cells #[.int .i64 a0_0,.int .i64 a0_1,.int .i64 a0_2,.string a0_3,.slice (some ad392) l0_4.length c0_4,.slice A0_5 l0_5.length c0_5,.slice (some ad388) l0_6.length c0_6] 25 (0,0)) (by (with_reducible repeat (first|refine blk_drewN ?_ _|refine blk_drew ?_|refine blk_alloc ?_ _));exact BK371.out) hg (Kd.R_ne HO_388004.out BK371.out (by decide)));have n3_:=Aside0.mk (blk_grown (g:=gb372) (o:=.cells #[.int .i64 x373000_1,.int .i64 x373001_1,.int .i64 x373002_1,.string x373003_1,.slice none 0 0,.slice none 0 0,.slice none 0 0] 25 (0,0)) (by (with_reducible repeat (first|refine blk_drewN ?_ _|refine blk_drew ?_|refine blk_alloc ?_ _));exact BK372.out) hg (Kd.R_ne HO_388004.out BK372.out (by decide)));have n4_:=Aside0.mk (blk_grown (g:=gb387) (o:=.cells #[.int .i64 t374,.int .i64 t375,.int .i64 t376,.string t377,u388004,.slice Ao21 t381.length co21,u388006] 25 (0,0)) (by (with_reducible repeat (first|refine blk_drewN ?_ _|refine blk_drew ?_|refine blk_alloc ?_ _));exact BK387.out) hg (Kd.R_ne HO_388004.out BK387.out (by decide)));have n5_:=Aside0.mk (hb);have n6_:=Aside0.mk (ho);clear HO_388005;clear HO_388006;clear BK371;clear BK372;clear BK387;clear HB;clear HO_388004;have HO_388005:=n0_;have HO_388006:=n1_;have BK371:=n2_;have BK372:=n3_;have BK387:=n4_;have HB:=n5_;have HO424:=n6_;clear n0_ n1_ n2_ n3_ n4_ n5_ n6_;clear ho hb hg hat;obtain ⟨Ao109,co109,eo109⟩:=Kd.R_slice HO424.out;subst eo109;have hcz110_0:w108.cell? ⟨gb387,0,none⟩=some (.int .i64 t374):=(blk_cell BK387.out 0).trans rfl;have hcz110_1:w108.cell? ⟨gb387,1,none⟩=some (.int .i64 t375):=(blk_cell BK387.out 1).trans rfl;have hcz110_2:w108.cell? ⟨gb387,2,none⟩=some (.int .i64 t376):=(blk_cell BK387.out 2).trans rfl;have hcz110_3:w108.cell? ⟨gb387,3,none⟩=some (.string t377):=(blk_cell BK387.out 3).trans rfl;have hcz110_4:w108.cell? ⟨gb387,4,none⟩=some (u388004):=(blk_cell BK387.out 4).trans rfl;have hcz110_5:w108.cell? ⟨gb387,5,none⟩=some (.slice Ao21 t381.length co21):=(blk_cell BK387.out 5).trans rfl;have hcz110_6:w108.cell? ⟨gb387,6,none⟩=some (u388006):=(blk_cell BK387.out 6).trans rfl;have hfz110_0:=blk_frozen BK387.out 0;have hfz110_1:=blk_frozen BK387.out 1;have hfz110_2:=blk_frozen BK387.out 2;have hfz110_3:=blk_frozen BK387.out 3;have hfz110_4:=blk_frozen BK387.out 4;have hfz110_5:=blk_frozen BK387.out 5;have hfz110_6:=blk_frozen BK387.out 6))
                have n0_:Aside0 (Kd.R Kd.string 9 (w108.setCell ⟨gb387,4,none⟩ (.slice Ao109 y422.length co109)) w.heap.size (fun k_=>some k_≠(.slice Ao109 y422.length co109:Value).ownBlock) (.slice Ao21 t381.length co21) t381):=⟨by (with_reducible repeat (first|apply Kd.R_alloc|apply Kd.R_drewN|apply Kd.R_drew));exact Kd.R_mono (Kd.R_far (p:=⟨gb387,4,none⟩) (Kd.R_types HO_388005.out BK387.out (by decide)) (fun _ hk=>hk.2) (.slice Ao109 y422.length co109)) (fun _ hk=>hk.1.2)⟩
                have n1_:Aside0 (Kd.R (Kd.int .i64) 3 (w108.setCell ⟨gb387,4,none⟩ (.slice Ao109 y422.length co109)) w.heap.size (fun _=>True) u388006 x388006_1):=⟨by (with_reducible repeat (first|apply Kd.R_alloc|apply Kd.R_drewN|apply Kd.R_drew));exact Kd.R_mono (Kd.R_far (p:=⟨gb387,4,none⟩) (Kd.R_types HO_388006.out BK387.out (by decide)) (fun _ hk=>hk.2) (.slice Ao109 y422.length co109)) (fun _ hk=>trivial)⟩
                have n2_:Aside0 (Kd.R Kd.string 9 (w108.setCell ⟨gb387,4,none⟩ (.slice Ao109 y422.length co109)) w.heap.size (fun k_=>some k_≠(.slice Ao21 t381.length co21:Value).ownBlock) (.slice Ao109 y422.length co109) y422):=⟨by (with_reducible repeat (first|apply Kd.R_alloc|apply Kd.R_drewN|apply Kd.R_drew));exact Kd.R_mono (Kd.R_far (p:=⟨gb387,4,none⟩) (Kd.R_types HO424.out BK387.out (by decide)) (fun _ hk=>hk.2) (.slice Ao109 y422.length co109)) (fun _ hk=>hk.1)⟩
                have n3_:Aside0 ((w108.setCell ⟨gb387,4,none⟩ (.slice Ao109 y422.length co109)).heap[gb371]?=some (.cells #[.int .i64 a0_0,.int .i64 a0_1,.int .i64 a0_2,.string a0_3,.slice (some ad392) l0_4.length c0_4,.slice A0_5 l0_5.length c0_5,.slice (some ad388) l0_6.length c0_6] 25 (0,0))):=⟨by (with_reducible repeat (first|refine blk_drewN ?_ _|refine blk_drew ?_|refine blk_alloc ?_ _));refine blk_far ?_ NB371_387.out _;(with_reducible repeat (first|refine blk_drewN ?_ _|refine blk_drew ?_|refine blk_alloc ?_ _));exact BK371.out⟩
                have n4_:Aside0 ((w108.setCell ⟨gb387,4,none⟩ (.slice Ao109 y422.length co109)).heap[gb372]?=some (.cells #[.int .i64 x373000_1,.int .i64 x373001_1,.int .i64 x373002_1,.string x373003_1,.slice none 0 0,.slice none 0 0,.slice none 0 0] 25 (0,0))):=⟨by (with_reducible repeat (first|refine blk_drewN ?_ _|refine blk_drew ?_|refine blk_alloc ?_ _));refine blk_far ?_ NB372_387.out _;(with_reducible repeat (first|refine blk_drewN ?_ _|refine blk_drew ?_|refine blk_alloc ?_ _));exact BK372.out⟩
                have n5_:Aside0 ((w108.setCell ⟨gb387,4,none⟩ (.slice Ao109 y422.length co109)).heap[gb387]?=some (.cells #[.int .i64 t374,.int .i64 t375,.int .i64 t376,.string t377,.slice Ao109 y422.length co109,.slice Ao21 t381.length co21,u388006] 25 (0,0))):=⟨by (with_reducible repeat (first|refine blk_drewN ?_ _|refine blk_drew ?_|refine blk_alloc ?_ _));refine blk_put (cs:=#[.int .i64 t374,.int .i64 t375,.int .i64 t376,.string t377,u388004,.slice Ao21 t381.length co21,u388006]) ?_ 4 _ rfl;(with_reducible repeat (first|refine blk_drewN ?_ _|refine blk_drew ?_|refine blk_alloc ?_ _));exact BK387.out⟩
                have n6_:Aside0 (Below w.heap.size w (w108.setCell ⟨gb387,4,none⟩ (.slice Ao109 y422.length co109))):=⟨by repeat (first|(with_reducible first|exact HB.out|apply below_alloc|apply pw_below_drewN|apply below_drew1|refine below_set ?_ GE371.out|refine below_set ?_ GE372.out|refine below_set ?_ GE387.out)|exact HB.out)⟩
                (try clear HO_388005)
                (try clear HO_388006)
                (try clear HO424)
                (try clear BK371)
                (try clear BK372)
                (try clear BK387)
                (try clear HB)
                generalize (w108.setCell ⟨gb387,4,none⟩ (.slice Ao109 y422.length co109))=w111 at n0_ n1_ n2_ n3_ n4_ n5_ n6_ ⊢
                have HO_388005:=n0_
                have HO_388006:=n1_
                have HO424:=n2_
                have BK371:=n3_
                have BK372:=n4_
                have BK387:=n5_
                have HB:=n6_
                clear n0_ n1_ n2_ n3_ n4_ n5_ n6_
                have n0_:=Aside0.mk (Kd.R_drew HO_388005.out)
                have n1_:=Aside0.mk (Kd.R_drew HO_388006.out)
                have n2_:=Aside0.mk (Kd.R_drew HO424.out)
                have n3_:=Aside0.mk (blk_drew BK371.out)
                have n4_:=Aside0.mk (blk_drew BK372.out)
                have n5_:=Aside0.mk (blk_drew BK387.out)
                have n6_:=Aside0.mk (below_drew1 HB.out)
                clear HO_388005
                clear HO_388006
                clear HO424
                clear BK371
                clear BK372
                clear BK387
                clear HB
                have HO_388005:=n0_
                have HO_388006:=n1_
                have HO424:=n2_
                have BK371:=n3_
                have BK372:=n4_
                have BK387:=n5_
                have HB:=n6_
                clear n0_ n1_ n2_ n3_ n4_ n5_ n6_
                have p425:0≤((ji101):Int):=of_decide_eq_true (by first|(with_reducible assumption)|assumption)
                have q425:(ji101) < (l0_6.length:Int):=of_decide_eq_true (by first|(with_reducible assumption)|assumption)
                obtain ⟨ad425,e425,hx425_0⟩:=Kd.at_int HR0_6.out (ji101) p425 q425
                have hw425_0:=hx425_0
                obtain rfl:ad388=ad425:=(by injection e425)
                replace hx425_0:=(HB.out.cell (World.block_lt_of_cell? w _ hx425_0)).trans hx425_0
                replace p425:=eq_true p425
                replace q425:=eq_true q425
                refine start_ (n:=12) (S:=fun w'=>w'.cell? ⟨gb387,0,none⟩=some (.int .i64 t374)∧w'.cell? ⟨gb387,1,none⟩=some (.int .i64 t375)∧w'.cell? ⟨gb387,2,none⟩=some (.int .i64 t376)∧w'.cell? ⟨gb387,3,none⟩=some (.string t377)∧w'.cell? ⟨gb387,4,none⟩=some (.slice Ao109 y422.length co109)∧w'.cell? ⟨gb387,5,none⟩=some (.slice Ao21 t381.length co21)∧w'.cell? ⟨gb387,6,none⟩=some (u388006)∧w'.cell? ⟨gb371,0,none⟩=some (.int .i64 a0_0)∧w'.cell? ⟨gb371,1,none⟩=some (.int .i64 a0_1)∧w'.cell? ⟨gb371,2,none⟩=some (.int .i64 a0_2)∧w'.cell? ⟨gb371,3,none⟩=some (.string a0_3)∧w'.cell? ⟨gb371,4,none⟩=some (.slice (some ad392) l0_4.length c0_4)∧w'.cell? ⟨gb371,5,none⟩=some (.slice A0_5 l0_5.length c0_5)∧w'.cell? ⟨gb371,6,none⟩=some (.slice (some ad388) l0_6.length c0_6)∧w'.cell? (ad388.add ((ji101)).toNat)=some (.int .i64 (rd l0_6 (ji101)))) (ds:=[11]) #[false,false,false,false,false,false,false,false,false,false,false,false] (by kernel_rfl) rfl rfl ⟨(blk_cell BK387.out 0).trans rfl,(blk_cell BK387.out 1).trans rfl,(blk_cell BK387.out 2).trans rfl,(blk_cell BK387.out 3).trans rfl,(blk_cell BK387.out 4).trans rfl,(blk_cell BK387.out 5).trans rfl,(blk_cell BK387.out 6).trans rfl,(blk_cell BK371.out 0).trans rfl,(blk_cell BK371.out 1).trans rfl,(blk_cell BK371.out 2).trans rfl,(blk_cell BK371.out 3).trans rfl,(blk_cell BK371.out 4).trans rfl,(blk_cell BK371.out 5).trans rfl,(blk_cell BK371.out 6).trans rfl,((HB.out.cell (World.block_lt_of_cell? w _ hw425_0)).trans hw425_0)⟩ (fun hHeld=>?_);refine with_tabW latticeref07_Post.tab19 latticeref07_Post.bits19 (fun HT_ HW_=>?_)
                generalize w111.drew=w112 at HO_388005 HO_388006 HO424 BK371 BK372 BK387 HB hx425_0 hHeld ⊢
                refine pure_ (i:=0) (N:=some 78) (v:=?_) (a':=?_) #[true,false,false,false,false,false,false,false,false,false,false,false] rfl rfl (any_of HT_.out (by kernel_rfl)) (fun _ _ _ h=>h) (Or.inl ⟨by rfl,?_⟩) ?_ ?_
                rotate_left
                ·intro w'
                 go_simp
                 with_reducible rfl
                rotate_left
                ·simp only [Act.put,List.setIfInBounds_toArray,List.set_cons_zero,List.set_cons_succ,i64_w,i32_w]
                 rfl
                refine pure_ (i:=2) (N:=some 80) (v:=?_) (a':=?_) #[true,false,true,false,false,false,false,false,false,false,false,false] rfl rfl (any_of HT_.out (by kernel_rfl)) (fun _ _ _ h=>h) (Or.inl ⟨by rfl,?_⟩) ?_ ?_
                rotate_left
                ·intro w'
                 go_simp
                 with_reducible rfl
                rotate_left
                ·simp only [Act.put,List.setIfInBounds_toArray,List.set_cons_zero,List.set_cons_succ,i64_w,i32_w]
                 rfl
                refine pure_ (i:=4) (N:=some 82) (v:=?_) (a':=?_) #[true,false,true,false,true,false,false,false,false,false,false,false] rfl rfl (any_of HT_.out (by kernel_rfl)) (fun _ _ _ h=>h) (Or.inl ⟨by rfl,?_⟩) ?_ ?_
                rotate_left
                ·intro w'
                 go_simp
                 with_reducible rfl
                rotate_left
                ·simp only [Act.put,List.setIfInBounds_toArray,List.set_cons_zero,List.set_cons_succ,i64_w,i32_w]
                 rfl
                refine pure_ (i:=5) (N:=some 83) (v:=?_) (a':=?_) #[true,false,true,false,true,true,false,false,false,false,false,false] rfl rfl (any_of HT_.out (by kernel_rfl)) (fun _ _ _ h=>h) (Or.inl ⟨by rfl,?_⟩) ?_ ?_
                rotate_left
                ·intro w'
                 go_simp
                 with_reducible rfl
                rotate_left
                ·simp only [Act.put,List.setIfInBounds_toArray,List.set_cons_zero,List.set_cons_succ,i64_w,i32_w]
                 rfl
                refine take_ (i:=1) (N:=some 79) (v:=?_) (a':=?_) #[true,true,true,false,true,true,false,false,false,false,false,false] rfl rfl (take_ofW HT_.out HW_.out (by kernel_rfl)) (fun _ _ _ h=>h) (Or.inl ⟨by rfl,?_⟩) hHeld ?_ ?_
                rotate_left
                ·rintro w' ⟨s0,s1,s2,s3,s4,s5,s6,s7,s8,s9,s10,s11,s12,s13,s14⟩
                 go_simp
                 with_reducible rfl
                rotate_left
                ·simp only [Act.put,List.setIfInBounds_toArray,List.set_cons_zero,List.set_cons_succ,i64_w,i32_w]
                 rfl
                refine take_ (i:=3) (N:=some 81) (v:=?_) (a':=?_) #[true,true,true,true,true,true,false,false,false,false,false,false] rfl rfl (take_ofW HT_.out HW_.out (by kernel_rfl)) (fun _ _ _ h=>h) (Or.inl ⟨by rfl,?_⟩) hHeld ?_ ?_
                rotate_left
                ·rintro w' ⟨s0,s1,s2,s3,s4,s5,s6,s7,s8,s9,s10,s11,s12,s13,s14⟩
                 go_simp
                 with_reducible rfl
                rotate_left
                ·simp only [Act.put,List.setIfInBounds_toArray,List.set_cons_zero,List.set_cons_succ,i64_w,i32_w]
                 rfl
                refine pure_ (i:=6) (N:=some 84) (v:=?_) (a':=?_) #[true,true,true,true,true,true,true,false,false,false,false,false] rfl rfl (any_of HT_.out (by kernel_rfl)) (fun _ _ _ h=>h) (Or.inl ⟨by rfl,?_⟩) ?_ ?_
                rotate_left
                ·intro w'
                 go_simp
                 with_reducible rfl
                rotate_left
                ·simp only [Act.put,List.setIfInBounds_toArray,List.set_cons_zero,List.set_cons_succ,i64_w,i32_w]
                 rfl
                refine take_ (i:=7) (N:=some 85) (v:=?_) (a':=?_) #[true,true,true,true,true,true,true,true,false,false,false,false] rfl rfl (take_ofW HT_.out HW_.out (by kernel_rfl)) (fun _ _ _ h=>h) (Or.inl ⟨by rfl,?_⟩) hHeld ?_ ?_
                rotate_left
                ·rintro w' ⟨s0,s1,s2,s3,s4,s5,s6,s7,s8,s9,s10,s11,s12,s13,s14⟩
                 go_simp
                 with_reducible rfl
                rotate_left
                ·simp only [Act.put,List.setIfInBounds_toArray,List.set_cons_zero,List.set_cons_succ,i64_w,i32_w]
                 rfl
                refine one_ (i:=8) (N:=some 86) #[true,true,true,true,true,true,true,true,true,false,false,false] rfl rfl (one_of HT_.out (by kernel_rfl)) (by decide) (fun K hK=>?_)
                refine value_ (w1:=?_) (v:=?_) (by rfl) rfl ?_ ?_
                rotate_left 2
                ·go_simp
                 constructor
                 ·rfl
                 ·rfl
                refine hK.out _ _ ⟨(blk_cell (blk_alloc BK387.out _) 0).trans rfl,(blk_cell (blk_alloc BK387.out _) 1).trans rfl,(blk_cell (blk_alloc BK387.out _) 2).trans rfl,(blk_cell (blk_alloc BK387.out _) 3).trans rfl,(blk_cell (blk_alloc BK387.out _) 4).trans rfl,(blk_cell (blk_alloc BK387.out _) 5).trans rfl,(blk_cell (blk_alloc BK387.out _) 6).trans rfl,(blk_cell (blk_alloc BK371.out _) 0).trans rfl,(blk_cell (blk_alloc BK371.out _) 1).trans rfl,(blk_cell (blk_alloc BK371.out _) 2).trans rfl,(blk_cell (blk_alloc BK371.out _) 3).trans rfl,(blk_cell (blk_alloc BK371.out _) 4).trans rfl,(blk_cell (blk_alloc BK371.out _) 5).trans rfl,(blk_cell (blk_alloc BK371.out _) 6).trans rfl,(World.cell?_alloc_lt _ _ _ (World.block_lt_of_cell? _ _ (((HB.out.cell (World.block_lt_of_cell? w _ hw425_0)).trans hw425_0)))).trans (((HB.out.cell (World.block_lt_of_cell? w _ hw425_0)).trans hw425_0))⟩ (fun hHeld=>?_)
                clear hK K
                refine norm_ (a':=?_) ?_ ?_
                rotate_left
                ·show Act.put _ (some 86) _=_
                 simp only [Act.put,List.setIfInBounds_toArray,List.set_cons_zero,List.set_cons_succ,i64_w,i32_w]
                 rfl
                refine one_ (i:=9) (N:=some 87) #[true,true,true,true,true,true,true,true,true,true,false,false] rfl rfl (one_of HT_.out (by kernel_rfl)) (by decide) (fun K hK=>?_)
                refine Kd.R_append_step (Kd.int .i64) (w0:=w) w.heap.size (by rfl) (.tmp 79) (.tmp 86) 23 3 (.int .i64 0) 8 rfl Try.underlying23 info3 rfl (by decide) (by omega) u388006 x388006_1 (rd l0_6 (ji101)) [.int .i64 (rd l0_6 (ji101))] (fun _=>True) (fun _=>False) rfl rfl ?aP (fun _ hk=>hk.elim) ?aF ?aO ?aB ?aS ?aL ?_
                (case aP=>exact rfl)
                (case aB=>exact (by repeat (first|(with_reducible first|exact HB.out|apply below_alloc|apply pw_below_drewN|apply below_drew1|refine below_set ?_ GE371.out|refine below_set ?_ GE372.out|refine below_set ?_ GE387.out)|exact HB.out)))
                (case aF=>exact (fun _ _=>trivial))
                (case aO=>exact (by (with_reducible repeat (first|apply Kd.R_alloc|apply Kd.R_drewN|apply Kd.R_drew));exact HO_388006.out))
                (case aS=>exact (below_size (by repeat (first|(with_reducible first|exact HB.out|apply below_alloc|apply pw_below_drewN|apply below_drew1|refine below_set ?_ GE371.out|refine below_set ?_ GE372.out|refine below_set ?_ GE387.out)|exact HB.out))))
                (case aL=>have:=LMc104.out;omega)
                intro v427 w113 ho hb hg hat
                rw [← Ny426.out] at ho
                have n0_:=Aside0.mk (Kd.R_over' (by (with_reducible repeat (first|apply Kd.R_alloc|apply Kd.R_drewN|apply Kd.R_drew));exact HO_388005.out) (Kd.R_typed (by (with_reducible repeat (first|apply Kd.R_alloc|apply Kd.R_drewN|apply Kd.R_drew));exact HO_388006.out)) (by decide) hg)
                have n1_:=Aside0.mk (blk_grown (g:=gb371) (o:=.cells #[.int .i64 a0_0,.int .i64 a0_1,.int .i64 a0_2,.string a0_3,.slice (some ad392) l0_4.length c0_4,.slice A0_5 l0_5.length c0_5,.slice (some ad388) l0_6.length c0_6] 25 (0,0)) (by (with_reducible repeat (first|refine blk_drewN ?_ _|refine blk_drew ?_|refine blk_alloc ?_ _));exact BK371.out) hg (Kd.R_ne HO_388006.out BK371.out (by decide)))
                have n2_:=Aside0.mk (blk_grown (g:=gb372) (o:=.cells #[.int .i64 x373000_1,.int .i64 x373001_1,.int .i64 x373002_1,.string x373003_1,.slice none 0 0,.slice none 0 0,.slice none 0 0] 25 (0,0)) (by (with_reducible repeat (first|refine blk_drewN ?_ _|refine blk_drew ?_|refine blk_alloc ?_ _));exact BK372.out) hg (Kd.R_ne HO_388006.out BK372.out (by decide)))
                have n3_:=Aside0.mk (blk_grown (g:=gb387) (o:=.cells #[.int .i64 t374,.int .i64 t375,.int .i64 t376,.string t377,.slice Ao109 y422.length co109,.slice Ao21 t381.length co21,u388006] 25 (0,0)) (by (with_reducible repeat (first|refine blk_drewN ?_ _|refine blk_drew ?_|refine blk_alloc ?_ _));exact BK387.out) hg (Kd.R_ne HO_388006.out BK387.out (by decide)))
                have n4_:=Aside0.mk (Kd.R_over' (by (with_reducible repeat (first|apply Kd.R_alloc|apply Kd.R_drewN|apply Kd.R_drew));exact HO424.out) (Kd.R_typed (by (with_reducible repeat (first|apply Kd.R_alloc|apply Kd.R_drewN|apply Kd.R_drew));exact HO_388006.out)) (by decide) hg)
                have n5_:=Aside0.mk (hb)
                have n6_:=Aside0.mk (ho)
                clear HO_388005
                clear BK371
                clear BK372
                clear BK387
                clear HO424
                clear HB
                clear HO_388006
                have HO_388005:=n0_
                have BK371:=n1_
                have BK372:=n2_
                have BK387:=n3_
                have HO424:=n4_
                have HB:=n5_
                have HO428:=n6_
                clear n0_ n1_ n2_ n3_ n4_ n5_ n6_
                clear ho hb hg hat
                obtain ⟨Ao114,co114,eo114⟩:=Kd.R_slice HO428.out
                (first|subst eo114|(injection eo114 with f1_ f2_ f3_;have f4_:=f1_.symm;have f5_:=f3_.symm;clear f1_ f2_ f3_;subst f4_;subst f5_))
                refine hK.out _ _ ⟨(blk_cell BK387.out 0).trans rfl,(blk_cell BK387.out 1).trans rfl,(blk_cell BK387.out 2).trans rfl,(blk_cell BK387.out 3).trans rfl,(blk_cell BK387.out 4).trans rfl,(blk_cell BK387.out 5).trans rfl,(blk_cell BK387.out 6).trans rfl,(blk_cell BK371.out 0).trans rfl,(blk_cell BK371.out 1).trans rfl,(blk_cell BK371.out 2).trans rfl,(blk_cell BK371.out 3).trans rfl,(blk_cell BK371.out 4).trans rfl,(blk_cell BK371.out 5).trans rfl,(blk_cell BK371.out 6).trans rfl,((HB.out.cell (World.block_lt_of_cell? w _ hw425_0)).trans hw425_0)⟩ (fun hHeld=>?_)
                clear hK K
                refine norm_ (a':=?_) ?_ ?_
                rotate_left
                ·show Act.put _ (some 87) _=_
                 simp only [Act.put,List.setIfInBounds_toArray,List.set_cons_zero,List.set_cons_succ,i64_w,i32_w]
                 rfl
                refine pure_ (i:=10) (N:=some 88) (v:=?_) (a':=?_) #[true,true,true,true,true,true,true,true,true,true,true,false] rfl rfl (any_of HT_.out (by kernel_rfl)) (fun _ _ _ h=>h) (Or.inl ⟨by rfl,?_⟩) ?_ ?_
                rotate_left
                ·intro w'
                 go_simp
                 with_reducible rfl
                rotate_left
                ·simp only [Act.put,List.setIfInBounds_toArray,List.set_cons_zero,List.set_cons_succ,i64_w,i32_w]
                 rfl
                refine last_ (i:=11) (N:=none) #[true,true,true,true,true,true,true,true,true,true,true,true] rfl rfl (one_of HT_.out (by kernel_rfl)) (by decide) (fun K hK=>?_)
                have hs115:w113.cell? ⟨gb387,6,none⟩=some (u388006):=(blk_cell BK387.out 6).trans rfl
                have hfs115:=blk_frozen BK387.out 6
                have hns115_0:=NB371_387.out
                have hns115_1:=NB372_387.out
                have hms115_0:=NB387_371.out
                have hms115_1:=NB387_372.out
                refine skip_ (w1:=?_) (by rfl) rfl ?_ ?_
                rotate_left
                ·go_simp
                 rfl
                refine hK.out _ _ ?_
                clear hK K
                refine done_ (done_of HT_.out (by kernel_rfl)) ?_
                try go_wp2
                go_roundg k1
                case measure=>have:=HK1.out;omega
                case rel=>exact ⟨(false),(ji101),(x373000_1),(x373001_1),(x373002_1),(x373003_1),(y422),(y426),(.slice Ao109 y422.length co109),(.slice Ao114 y426.length co114),(by first|rfl|(simp;done)|(simp [*];done)),(by first|rfl|(simp;done)|(simp only [← hji101] <;> (first|rfl|simp))|(simp [*];done)),H',⟨by have:=HK1.out;omega⟩,⟨by (with_reducible repeat (first|apply Kd.R_alloc|apply Kd.R_drewN|apply Kd.R_drew));exact Kd.R_mono (Kd.R_far (p:=⟨gb387,6,none⟩) (Kd.R_types HO424.out BK387.out (by decide)) (fun _ hk=>hk.2) (.slice Ao114 y426.length co114)) (fun _ hk=>hk.1)⟩,⟨by (with_reducible repeat (first|apply Kd.R_alloc|apply Kd.R_drewN|apply Kd.R_drew));exact Kd.R_mono (Kd.R_far (p:=⟨gb387,6,none⟩) (Kd.R_types HO_388005.out BK387.out (by decide)) (fun _ hk=>hk.2) (.slice Ao114 y426.length co114)) (fun _ hk=>hk.1)⟩,⟨by (with_reducible repeat (first|apply Kd.R_alloc|apply Kd.R_drewN|apply Kd.R_drew));exact Kd.R_mono (Kd.R_far (p:=⟨gb387,6,none⟩) (Kd.R_types HO428.out BK387.out (by decide)) (fun _ hk=>hk.2) (.slice Ao114 y426.length co114)) (fun _ hk=>trivial)⟩,⟨by (with_reducible repeat (first|refine blk_drewN ?_ _|refine blk_drew ?_|refine blk_alloc ?_ _));refine blk_far ?_ NB371_387.out _;(with_reducible repeat (first|refine blk_drewN ?_ _|refine blk_drew ?_|refine blk_alloc ?_ _));exact BK371.out⟩,⟨by (with_reducible repeat (first|refine blk_drewN ?_ _|refine blk_drew ?_|refine blk_alloc ?_ _));refine blk_far ?_ NB372_387.out _;(with_reducible repeat (first|refine blk_drewN ?_ _|refine blk_drew ?_|refine blk_alloc ?_ _));exact BK372.out⟩,⟨by (with_reducible repeat (first|refine blk_drewN ?_ _|refine blk_drew ?_|refine blk_alloc ?_ _));refine blk_put (cs:=#[.int .i64 t374,.int .i64 t375,.int .i64 t376,.string t377,.slice Ao109 y422.length co109,.slice Ao21 t381.length co21,u388006]) ?_ 6 _ rfl;(with_reducible repeat (first|refine blk_drewN ?_ _|refine blk_drew ?_|refine blk_alloc ?_ _));exact BK387.out⟩,⟨by repeat (first|(with_reducible first|exact HB.out|apply below_alloc|apply pw_below_drewN|apply below_drew1|refine below_set ?_ GE371.out|refine below_set ?_ GE372.out|refine below_set ?_ GE387.out)|exact HB.out)⟩⟩
               ·rw [if_neg c104] at H
                exact absurd H (by simp)
              ·rw [if_neg c103] at H
               exact absurd H (by simp)
             ·rw [if_neg c102] at H
              exact absurd H (by simp)
            ·rw [if_neg c100] at H
             exact absurd H (by simp)
        ·rw [if_neg c31] at H
         exact absurd H (by simp)
       ·rw [if_neg c30] at H
        exact absurd H (by simp)
      ·rw [if_neg c29] at H
       have c29b0:decide (x35_1 < (l0_4.length:Int))=false:=decide_eq_false c29
       clear c29
       by_cases c116:x10_1=true
       ·subst c116
        have H1:((latticeref06_Right.f k1 t374 t375 t376 t377 x388004_1 t381 x388006_1).bind fun t429=>(if t429=true then (some (t374,t375,t376,t377,x388004_1,t381,x388006_1,0)) else (some (0,0,0,(⟨#[]⟩:ByteArray),([]:List ByteArray),([]:List ByteArray),([]:List Int),5))))=some (r1,r2,r3,r4,r5,r6,r7,r8):=by rw [if_pos rfl] at H;exact H
        clear H
        have H:=H1
        clear H1
        replace H:=Option.bind_eq_some_iff.mp H
        obtain ⟨t429,A1170,H⟩:=H
        try dsimp only at H
        have A117:=Aside0.mk A1170
        clear A1170
        by_cases c118:t429=true
        ·subst c118
         have H1:(some (t374,t375,t376,t377,x388004_1,t381,x388006_1,0))=some (r1,r2,r3,r4,r5,r6,r7,r8):=by rw [if_pos rfl] at H;exact H
         clear H
         have H:=H1
         clear H1
         simp only [Option.some.injEq,Prod.mk.injEq] at H
         obtain ⟨rfl,rfl,rfl,rfl,rfl,rfl,rfl,rfl⟩:=H
         have hnb119:=NB387_371.out
         have hnc119:=NB371_387.out
         have hnb120:=NB387_372.out
         have hnc120:=NB372_387.out
         have hcz121_0:wr.cell? ⟨gb387,0,none⟩=some (.int .i64 t374):=(blk_cell BK387.out 0).trans rfl
         have hcz121_1:wr.cell? ⟨gb387,1,none⟩=some (.int .i64 t375):=(blk_cell BK387.out 1).trans rfl
         have hcz121_2:wr.cell? ⟨gb387,2,none⟩=some (.int .i64 t376):=(blk_cell BK387.out 2).trans rfl
         have hcz121_3:wr.cell? ⟨gb387,3,none⟩=some (.string t377):=(blk_cell BK387.out 3).trans rfl
         have hcz121_4:wr.cell? ⟨gb387,4,none⟩=some (u388004):=(blk_cell BK387.out 4).trans rfl
         have hcz121_5:wr.cell? ⟨gb387,5,none⟩=some (.slice Ao21 t381.length co21):=(blk_cell BK387.out 5).trans rfl
         have hcz121_6:wr.cell? ⟨gb387,6,none⟩=some (u388006):=(blk_cell BK387.out 6).trans rfl
         have hfz121_0:=blk_frozen BK387.out 0
         have hfz121_1:=blk_frozen BK387.out 1
         have hfz121_2:=blk_frozen BK387.out 2
         have hfz121_3:=blk_frozen BK387.out 3
         have hfz121_4:=blk_frozen BK387.out 4
         have hfz121_5:=blk_frozen BK387.out 5
         have hfz121_6:=blk_frozen BK387.out 6
         obtain ⟨Ao122,co122,eo122⟩:=Kd.R_slice HO_388004.out
         subst eo122
         obtain ⟨Ao123,co123,eo123⟩:=Kd.R_slice HO_388006.out
         subst eo123
         go_wp2_with (first|((with_reducible refine gate_callee (f:=24) rfl ?_);refine goesL_ (some 105) rfl rfl Try.func24 (by kernel_rfl) rfl #[.agg #[.int .i64 t374,.int .i64 t375,.int .i64 t376,.string t377,.slice Ao122 x388004_1.length co122,.slice Ao21 t381.length co21,.slice Ao123 x388006_1.length co123]] rfl (by (try simp only [List.map_toArray,List.map_cons,List.map_nil]);first|done|rfl|(simp only [List.length_drop,List.length_take];rfl)) ?_;(with_reducible refine (latticeref06_Right.calls k1 t374 t375 t376 t377 _ _ x388004_1 _ _ t381 _ _ x388006_1 true _ ?side1 ?side2 ?side3 ?side4 ?side5 ?side6 A117.out).mono ?_);(case side1=>repeat (first|exact (Kd.R_reads' HO_388004.out).2.2|(with_reducible refine Kd.C_alloc ?_ _)|(with_reducible refine Kd.C_drewN ?_ _)|(with_reducible refine Kd.C_drew ?_)));(case side2=>exact (Kd.R_reads' HO_388004.out).2.1);(case side3=>repeat (first|exact (Kd.R_reads' HO_388005.out).2.2|(with_reducible refine Kd.C_alloc ?_ _)|(with_reducible refine Kd.C_drewN ?_ _)|(with_reducible refine Kd.C_drew ?_)));(case side4=>exact (Kd.R_reads' HO_388005.out).2.1);(case side5=>repeat (first|exact (Kd.R_reads' HO_388006.out).2.2|(with_reducible refine Kd.C_alloc ?_ _)|(with_reducible refine Kd.C_drewN ?_ _)|(with_reducible refine Kd.C_drew ?_)));(case side6=>exact (Kd.R_reads' HO_388006.out).2.1);rintro e w124 ⟨rfl,hb⟩;refine ⟨_,rfl,?_⟩;have n0_:=Aside0.mk (Kd.R_below (by (with_reducible repeat (first|apply Kd.R_alloc|apply Kd.R_drewN|apply Kd.R_drew));exact HO_388004.out) hb);have n1_:=Aside0.mk (Kd.R_below (by (with_reducible repeat (first|apply Kd.R_alloc|apply Kd.R_drewN|apply Kd.R_drew));exact HO_388005.out) hb);have n2_:=Aside0.mk (Kd.R_below (by (with_reducible repeat (first|apply Kd.R_alloc|apply Kd.R_drewN|apply Kd.R_drew));exact HO_388006.out) hb);have n3_:=Aside0.mk (blk_below (g:=gb371) (o:=.cells #[.int .i64 a0_0,.int .i64 a0_1,.int .i64 a0_2,.string a0_3,.slice A0_4 l0_4.length c0_4,.slice A0_5 l0_5.length c0_5,.slice (some ad388) l0_6.length c0_6] 25 (0,0)) (by (with_reducible repeat (first|refine blk_drewN ?_ _|refine blk_drew ?_|refine blk_alloc ?_ _));exact BK371.out) hb);have n4_:=Aside0.mk (blk_below (g:=gb372) (o:=.cells #[.int .i64 x373000_1,.int .i64 x373001_1,.int .i64 x373002_1,.string x373003_1,.slice none 0 0,.slice none 0 0,.slice none 0 0] 25 (0,0)) (by (with_reducible repeat (first|refine blk_drewN ?_ _|refine blk_drew ?_|refine blk_alloc ?_ _));exact BK372.out) hb);have n5_:=Aside0.mk (blk_below (g:=gb387) (o:=.cells #[.int .i64 t374,.int .i64 t375,.int .i64 t376,.string t377,.slice Ao122 x388004_1.length co122,.slice Ao21 t381.length co21,.slice Ao123 x388006_1.length co123] 25 (0,0)) (by (with_reducible repeat (first|refine blk_drewN ?_ _|refine blk_drew ?_|refine blk_alloc ?_ _));exact BK387.out) hb);have n6_:=Aside0.mk (below_step (by repeat (first|(with_reducible first|exact HB.out|apply below_alloc|apply pw_below_drewN|apply below_drew1|refine below_set ?_ GE371.out|refine below_set ?_ GE372.out|refine below_set ?_ GE387.out)|exact HB.out)) hb);clear HO_388004;clear HO_388005;clear HO_388006;clear BK371;clear BK372;clear BK387;clear HB;have HO_388004:=n0_;have HO_388005:=n1_;have HO_388006:=n2_;have BK371:=n3_;have BK372:=n4_;have BK387:=n5_;have HB:=n6_;clear n0_ n1_ n2_ n3_ n4_ n5_ n6_;(try clear hb);(try clear hb2);(try clear hk);(try clear hi);have hcz125_0:w124.cell? ⟨gb387,0,none⟩=some (.int .i64 t374):=(blk_cell BK387.out 0).trans rfl;have hcz125_1:w124.cell? ⟨gb387,1,none⟩=some (.int .i64 t375):=(blk_cell BK387.out 1).trans rfl;have hcz125_2:w124.cell? ⟨gb387,2,none⟩=some (.int .i64 t376):=(blk_cell BK387.out 2).trans rfl;have hcz125_3:w124.cell? ⟨gb387,3,none⟩=some (.string t377):=(blk_cell BK387.out 3).trans rfl;have hcz125_4:w124.cell? ⟨gb387,4,none⟩=some (.slice Ao122 x388004_1.length co122):=(blk_cell BK387.out 4).trans rfl;have hcz125_5:w124.cell? ⟨gb387,5,none⟩=some (.slice Ao21 t381.length co21):=(blk_cell BK387.out 5).trans rfl;have hcz125_6:w124.cell? ⟨gb387,6,none⟩=some (.slice Ao123 x388006_1.length co123):=(blk_cell BK387.out 6).trans rfl;have hfz125_0:=blk_frozen BK387.out 0;have hfz125_1:=blk_frozen BK387.out 1;have hfz125_2:=blk_frozen BK387.out 2;have hfz125_3:=blk_frozen BK387.out 3;have hfz125_4:=blk_frozen BK387.out 4;have hfz125_5:=blk_frozen BK387.out 5;have hfz125_6:=blk_frozen BK387.out 6;have hnb126:=NB372_371.out;have hnc126:=NB371_372.out;have hcz127_0:w124.cell? ⟨gb372,0,none⟩=some (.int .i64 x373000_1):=(blk_cell BK372.out 0).trans rfl;have hcz127_1:w124.cell? ⟨gb372,1,none⟩=some (.int .i64 x373001_1):=(blk_cell BK372.out 1).trans rfl;have hcz127_2:w124.cell? ⟨gb372,2,none⟩=some (.int .i64 x373002_1):=(blk_cell BK372.out 2).trans rfl;have hcz127_3:w124.cell? ⟨gb372,3,none⟩=some (.string x373003_1):=(blk_cell BK372.out 3).trans rfl;have hcz127_4:w124.cell? ⟨gb372,4,none⟩=some (.slice none 0 0):=(blk_cell BK372.out 4).trans rfl;have hcz127_5:w124.cell? ⟨gb372,5,none⟩=some (.slice none 0 0):=(blk_cell BK372.out 5).trans rfl;have hcz127_6:w124.cell? ⟨gb372,6,none⟩=some (.slice none 0 0):=(blk_cell BK372.out 6).trans rfl;have hfz127_0:=blk_frozen BK372.out 0;have hfz127_1:=blk_frozen BK372.out 1;have hfz127_2:=blk_frozen BK372.out 2;have hfz127_3:=blk_frozen BK372.out 3;have hfz127_4:=blk_frozen BK372.out 4;have hfz127_5:=blk_frozen BK372.out 5;have hfz127_6:=blk_frozen BK372.out 6))
         refine bodyPost_ret (results_ct rfl _ _ gb372 25 #[.int .i64 t374,.int .i64 t375,.int .i64 t376,.string t377,.slice Ao122 x388004_1.length co122,.slice Ao21 t381.length co21,.slice Ao123 x388006_1.length co123] (0,0) _ rfl (by (with_reducible repeat (first|refine blk_drewN ?_ _|refine blk_drew ?_|refine blk_alloc ?_ _));refine blk_put (cs:=#[.int .i64 t374,.int .i64 t375,.int .i64 t376,.string t377,.slice Ao122 x388004_1.length co122,.slice Ao21 t381.length co21,.slice none 0 0]) ?_ 6 _ rfl;(with_reducible repeat (first|refine blk_drewN ?_ _|refine blk_drew ?_|refine blk_alloc ?_ _));refine blk_put (cs:=#[.int .i64 t374,.int .i64 t375,.int .i64 t376,.string t377,.slice Ao122 x388004_1.length co122,.slice none 0 0,.slice none 0 0]) ?_ 5 _ rfl;(with_reducible repeat (first|refine blk_drewN ?_ _|refine blk_drew ?_|refine blk_alloc ?_ _));refine blk_put (cs:=#[.int .i64 t374,.int .i64 t375,.int .i64 t376,.string t377,.slice none 0 0,.slice none 0 0,.slice none 0 0]) ?_ 4 _ rfl;(with_reducible repeat (first|refine blk_drewN ?_ _|refine blk_drew ?_|refine blk_alloc ?_ _));refine blk_put (cs:=#[.int .i64 t374,.int .i64 t375,.int .i64 t376,.string x373003_1,.slice none 0 0,.slice none 0 0,.slice none 0 0]) ?_ 3 _ rfl;(with_reducible repeat (first|refine blk_drewN ?_ _|refine blk_drew ?_|refine blk_alloc ?_ _));refine blk_put (cs:=#[.int .i64 t374,.int .i64 t375,.int .i64 x373002_1,.string x373003_1,.slice none 0 0,.slice none 0 0,.slice none 0 0]) ?_ 2 _ rfl;(with_reducible repeat (first|refine blk_drewN ?_ _|refine blk_drew ?_|refine blk_alloc ?_ _));refine blk_put (cs:=#[.int .i64 t374,.int .i64 x373001_1,.int .i64 x373002_1,.string x373003_1,.slice none 0 0,.slice none 0 0,.slice none 0 0]) ?_ 1 _ rfl;(with_reducible repeat (first|refine blk_drewN ?_ _|refine blk_drew ?_|refine blk_alloc ?_ _));refine blk_put (cs:=#[.int .i64 x373000_1,.int .i64 x373001_1,.int .i64 x373002_1,.string x373003_1,.slice none 0 0,.slice none 0 0,.slice none 0 0]) ?_ 0 _ rfl;(with_reducible repeat (first|refine blk_drewN ?_ _|refine blk_drew ?_|refine blk_alloc ?_ _));exact BK372.out) Try.underlying25 rfl (by kernel_rfl)) rfl ?_
         exact ⟨_,_,_,by first|rfl|(simp [errW_none,errW_some] <;> rfl)|(simp [*,errW_none,errW_some] <;> rfl),by (with_reducible repeat (first|apply Kd.R_alloc|apply Kd.R_drewN|apply Kd.R_drew));exact Kd.R_mono (Kd.R_far (p:=⟨gb372,6,none⟩) (Kd.R_far (p:=⟨gb372,5,none⟩) (Kd.R_far (p:=⟨gb372,4,none⟩) (Kd.R_far (p:=⟨gb372,3,none⟩) (Kd.R_far (p:=⟨gb372,2,none⟩) (Kd.R_far (p:=⟨gb372,1,none⟩) (Kd.R_far (p:=⟨gb372,0,none⟩) (Kd.R_types HO_388004.out BK372.out (by decide)) (fun _ hk=>hk.2) (.int .i64 t374)) (fun _ hk=>hk.2) (.int .i64 t375)) (fun _ hk=>hk.2) (.int .i64 t376)) (fun _ hk=>hk.2) (.string t377)) (fun _ hk=>hk.2) (.slice Ao122 x388004_1.length co122)) (fun _ hk=>hk.2) (.slice Ao21 t381.length co21)) (fun _ hk=>hk.2) (.slice Ao123 x388006_1.length co123)) (fun _ hk=>hk.1),by (with_reducible repeat (first|apply Kd.R_alloc|apply Kd.R_drewN|apply Kd.R_drew));exact Kd.R_mono (Kd.R_far (p:=⟨gb372,6,none⟩) (Kd.R_far (p:=⟨gb372,5,none⟩) (Kd.R_far (p:=⟨gb372,4,none⟩) (Kd.R_far (p:=⟨gb372,3,none⟩) (Kd.R_far (p:=⟨gb372,2,none⟩) (Kd.R_far (p:=⟨gb372,1,none⟩) (Kd.R_far (p:=⟨gb372,0,none⟩) (Kd.R_types HO_388005.out BK372.out (by decide)) (fun _ hk=>hk.2) (.int .i64 t374)) (fun _ hk=>hk.2) (.int .i64 t375)) (fun _ hk=>hk.2) (.int .i64 t376)) (fun _ hk=>hk.2) (.string t377)) (fun _ hk=>hk.2) (.slice Ao122 x388004_1.length co122)) (fun _ hk=>hk.2) (.slice Ao21 t381.length co21)) (fun _ hk=>hk.2) (.slice Ao123 x388006_1.length co123)) (fun _ hk=>hk.1),by (with_reducible repeat (first|apply Kd.R_alloc|apply Kd.R_drewN|apply Kd.R_drew));exact Kd.R_mono (Kd.R_far (p:=⟨gb372,6,none⟩) (Kd.R_far (p:=⟨gb372,5,none⟩) (Kd.R_far (p:=⟨gb372,4,none⟩) (Kd.R_far (p:=⟨gb372,3,none⟩) (Kd.R_far (p:=⟨gb372,2,none⟩) (Kd.R_far (p:=⟨gb372,1,none⟩) (Kd.R_far (p:=⟨gb372,0,none⟩) (Kd.R_types HO_388006.out BK372.out (by decide)) (fun _ hk=>hk.2) (.int .i64 t374)) (fun _ hk=>hk.2) (.int .i64 t375)) (fun _ hk=>hk.2) (.int .i64 t376)) (fun _ hk=>hk.2) (.string t377)) (fun _ hk=>hk.2) (.slice Ao122 x388004_1.length co122)) (fun _ hk=>hk.2) (.slice Ao21 t381.length co21)) (fun _ hk=>hk.2) (.slice Ao123 x388006_1.length co123)) (fun _ hk=>trivial),by repeat (first|(with_reducible first|exact HB.out|apply below_alloc|apply pw_below_drewN|apply below_drew1|refine below_set ?_ GE371.out|refine below_set ?_ GE372.out|refine below_set ?_ GE387.out)|exact HB.out)⟩
        ·replace c118:=Bool.eq_false_iff.mpr c118
         subst c118
         have H1:(some (0,0,0,(⟨#[]⟩:ByteArray),([]:List ByteArray),([]:List ByteArray),([]:List Int),5))=some (r1,r2,r3,r4,r5,r6,r7,r8):=by rw [if_neg (show ¬ (false=true) by decide)] at H;exact H
         clear H
         have H:=H1
         clear H1
         simp only [Option.some.injEq,Prod.mk.injEq] at H
         obtain ⟨rfl,rfl,rfl,rfl,rfl,rfl,rfl,rfl⟩:=H
         have hnb128:=NB387_371.out
         have hnc128:=NB371_387.out
         have hnb129:=NB387_372.out
         have hnc129:=NB372_387.out
         have hcz130_0:wr.cell? ⟨gb387,0,none⟩=some (.int .i64 t374):=(blk_cell BK387.out 0).trans rfl
         have hcz130_1:wr.cell? ⟨gb387,1,none⟩=some (.int .i64 t375):=(blk_cell BK387.out 1).trans rfl
         have hcz130_2:wr.cell? ⟨gb387,2,none⟩=some (.int .i64 t376):=(blk_cell BK387.out 2).trans rfl
         have hcz130_3:wr.cell? ⟨gb387,3,none⟩=some (.string t377):=(blk_cell BK387.out 3).trans rfl
         have hcz130_4:wr.cell? ⟨gb387,4,none⟩=some (u388004):=(blk_cell BK387.out 4).trans rfl
         have hcz130_5:wr.cell? ⟨gb387,5,none⟩=some (.slice Ao21 t381.length co21):=(blk_cell BK387.out 5).trans rfl
         have hcz130_6:wr.cell? ⟨gb387,6,none⟩=some (u388006):=(blk_cell BK387.out 6).trans rfl
         have hfz130_0:=blk_frozen BK387.out 0
         have hfz130_1:=blk_frozen BK387.out 1
         have hfz130_2:=blk_frozen BK387.out 2
         have hfz130_3:=blk_frozen BK387.out 3
         have hfz130_4:=blk_frozen BK387.out 4
         have hfz130_5:=blk_frozen BK387.out 5
         have hfz130_6:=blk_frozen BK387.out 6
         obtain ⟨Ao131,co131,eo131⟩:=Kd.R_slice HO_388004.out
         subst eo131
         obtain ⟨Ao132,co132,eo132⟩:=Kd.R_slice HO_388006.out
         subst eo132
         go_wp2_with (first|((with_reducible refine gate_callee (f:=24) rfl ?_);refine goesL_ (some 105) rfl rfl Try.func24 (by kernel_rfl) rfl #[.agg #[.int .i64 t374,.int .i64 t375,.int .i64 t376,.string t377,.slice Ao131 x388004_1.length co131,.slice Ao21 t381.length co21,.slice Ao132 x388006_1.length co132]] rfl (by (try simp only [List.map_toArray,List.map_cons,List.map_nil]);first|done|rfl|(simp only [List.length_drop,List.length_take];rfl)) ?_;(with_reducible refine (latticeref06_Right.calls k1 t374 t375 t376 t377 _ _ x388004_1 _ _ t381 _ _ x388006_1 false _ ?side1 ?side2 ?side3 ?side4 ?side5 ?side6 A117.out).mono ?_);(case side1=>repeat (first|exact (Kd.R_reads' HO_388004.out).2.2|(with_reducible refine Kd.C_alloc ?_ _)|(with_reducible refine Kd.C_drewN ?_ _)|(with_reducible refine Kd.C_drew ?_)));(case side2=>exact (Kd.R_reads' HO_388004.out).2.1);(case side3=>repeat (first|exact (Kd.R_reads' HO_388005.out).2.2|(with_reducible refine Kd.C_alloc ?_ _)|(with_reducible refine Kd.C_drewN ?_ _)|(with_reducible refine Kd.C_drew ?_)));(case side4=>exact (Kd.R_reads' HO_388005.out).2.1);(case side5=>repeat (first|exact (Kd.R_reads' HO_388006.out).2.2|(with_reducible refine Kd.C_alloc ?_ _)|(with_reducible refine Kd.C_drewN ?_ _)|(with_reducible refine Kd.C_drew ?_)));(case side6=>exact (Kd.R_reads' HO_388006.out).2.1);rintro e w133 ⟨rfl,hb⟩;refine ⟨_,rfl,?_⟩;have n0_:=Aside0.mk (Kd.R_below (by (with_reducible repeat (first|apply Kd.R_alloc|apply Kd.R_drewN|apply Kd.R_drew));exact HO_388004.out) hb);have n1_:=Aside0.mk (Kd.R_below (by (with_reducible repeat (first|apply Kd.R_alloc|apply Kd.R_drewN|apply Kd.R_drew));exact HO_388005.out) hb);have n2_:=Aside0.mk (Kd.R_below (by (with_reducible repeat (first|apply Kd.R_alloc|apply Kd.R_drewN|apply Kd.R_drew));exact HO_388006.out) hb);have n3_:=Aside0.mk (blk_below (g:=gb371) (o:=.cells #[.int .i64 a0_0,.int .i64 a0_1,.int .i64 a0_2,.string a0_3,.slice A0_4 l0_4.length c0_4,.slice A0_5 l0_5.length c0_5,.slice (some ad388) l0_6.length c0_6] 25 (0,0)) (by (with_reducible repeat (first|refine blk_drewN ?_ _|refine blk_drew ?_|refine blk_alloc ?_ _));exact BK371.out) hb);have n4_:=Aside0.mk (blk_below (g:=gb372) (o:=.cells #[.int .i64 x373000_1,.int .i64 x373001_1,.int .i64 x373002_1,.string x373003_1,.slice none 0 0,.slice none 0 0,.slice none 0 0] 25 (0,0)) (by (with_reducible repeat (first|refine blk_drewN ?_ _|refine blk_drew ?_|refine blk_alloc ?_ _));exact BK372.out) hb);have n5_:=Aside0.mk (blk_below (g:=gb387) (o:=.cells #[.int .i64 t374,.int .i64 t375,.int .i64 t376,.string t377,.slice Ao131 x388004_1.length co131,.slice Ao21 t381.length co21,.slice Ao132 x388006_1.length co132] 25 (0,0)) (by (with_reducible repeat (first|refine blk_drewN ?_ _|refine blk_drew ?_|refine blk_alloc ?_ _));exact BK387.out) hb);have n6_:=Aside0.mk (below_step (by repeat (first|(with_reducible first|exact HB.out|apply below_alloc|apply pw_below_drewN|apply below_drew1|refine below_set ?_ GE371.out|refine below_set ?_ GE372.out|refine below_set ?_ GE387.out)|exact HB.out)) hb);clear HO_388004;clear HO_388005;clear HO_388006;clear BK371;clear BK372;clear BK387;clear HB;have HO_388004:=n0_;have HO_388005:=n1_;have HO_388006:=n2_;have BK371:=n3_;have BK372:=n4_;have BK387:=n5_;have HB:=n6_;clear n0_ n1_ n2_ n3_ n4_ n5_ n6_;(try clear hb);(try clear hb2);(try clear hk);(try clear hi);have hnb134:=NB372_371.out;have hnc134:=NB371_372.out;have hcz135_0:w133.cell? ⟨gb372,0,none⟩=some (.int .i64 x373000_1):=(blk_cell BK372.out 0).trans rfl;have hcz135_1:w133.cell? ⟨gb372,1,none⟩=some (.int .i64 x373001_1):=(blk_cell BK372.out 1).trans rfl;have hcz135_2:w133.cell? ⟨gb372,2,none⟩=some (.int .i64 x373002_1):=(blk_cell BK372.out 2).trans rfl;have hcz135_3:w133.cell? ⟨gb372,3,none⟩=some (.string x373003_1):=(blk_cell BK372.out 3).trans rfl;have hcz135_4:w133.cell? ⟨gb372,4,none⟩=some (.slice none 0 0):=(blk_cell BK372.out 4).trans rfl;have hcz135_5:w133.cell? ⟨gb372,5,none⟩=some (.slice none 0 0):=(blk_cell BK372.out 5).trans rfl;have hcz135_6:w133.cell? ⟨gb372,6,none⟩=some (.slice none 0 0):=(blk_cell BK372.out 6).trans rfl;have hfz135_0:=blk_frozen BK372.out 0;have hfz135_1:=blk_frozen BK372.out 1;have hfz135_2:=blk_frozen BK372.out 2;have hfz135_3:=blk_frozen BK372.out 3;have hfz135_4:=blk_frozen BK372.out 4;have hfz135_5:=blk_frozen BK372.out 5;have hfz135_6:=blk_frozen BK372.out 6))
         refine bodyPost_ret (results_ct rfl _ _ gb372 25 #[.int .i64 0,.int .i64 0,.int .i64 0,.string (⟨#[]⟩:ByteArray),.slice none 0 0,.slice none 0 0,.slice none 0 0] (0,0) _ rfl (by (with_reducible repeat (first|refine blk_drewN ?_ _|refine blk_drew ?_|refine blk_alloc ?_ _));refine blk_put (cs:=#[.int .i64 0,.int .i64 0,.int .i64 0,.string (⟨#[]⟩:ByteArray),.slice none 0 0,.slice none 0 0,.slice none 0 0]) ?_ 6 _ rfl;(with_reducible repeat (first|refine blk_drewN ?_ _|refine blk_drew ?_|refine blk_alloc ?_ _));refine blk_put (cs:=#[.int .i64 0,.int .i64 0,.int .i64 0,.string (⟨#[]⟩:ByteArray),.slice none 0 0,.slice none 0 0,.slice none 0 0]) ?_ 5 _ rfl;(with_reducible repeat (first|refine blk_drewN ?_ _|refine blk_drew ?_|refine blk_alloc ?_ _));refine blk_put (cs:=#[.int .i64 0,.int .i64 0,.int .i64 0,.string (⟨#[]⟩:ByteArray),.slice none 0 0,.slice none 0 0,.slice none 0 0]) ?_ 4 _ rfl;(with_reducible repeat (first|refine blk_drewN ?_ _|refine blk_drew ?_|refine blk_alloc ?_ _));refine blk_put (cs:=#[.int .i64 0,.int .i64 0,.int .i64 0,.string x373003_1,.slice none 0 0,.slice none 0 0,.slice none 0 0]) ?_ 3 _ rfl;(with_reducible repeat (first|refine blk_drewN ?_ _|refine blk_drew ?_|refine blk_alloc ?_ _));refine blk_put (cs:=#[.int .i64 0,.int .i64 0,.int .i64 x373002_1,.string x373003_1,.slice none 0 0,.slice none 0 0,.slice none 0 0]) ?_ 2 _ rfl;(with_reducible repeat (first|refine blk_drewN ?_ _|refine blk_drew ?_|refine blk_alloc ?_ _));refine blk_put (cs:=#[.int .i64 0,.int .i64 x373001_1,.int .i64 x373002_1,.string x373003_1,.slice none 0 0,.slice none 0 0,.slice none 0 0]) ?_ 1 _ rfl;(with_reducible repeat (first|refine blk_drewN ?_ _|refine blk_drew ?_|refine blk_alloc ?_ _));refine blk_put (cs:=#[.int .i64 x373000_1,.int .i64 x373001_1,.int .i64 x373002_1,.string x373003_1,.slice none 0 0,.slice none 0 0,.slice none 0 0]) ?_ 0 _ rfl;(with_reducible repeat (first|refine blk_drewN ?_ _|refine blk_drew ?_|refine blk_alloc ?_ _));exact BK372.out) Try.underlying25 rfl (by kernel_rfl)) rfl ?_
         exact ⟨_,_,_,by first|rfl|(simp [errW_none,errW_some] <;> rfl)|(simp [*,errW_none,errW_some] <;> rfl),by first|exact Kd.R_nil _ _ _ _ _|exact Kd.N_nil _ _ _ _ _|exact Kd.V_nil _ _ _ _ _|exact Kd.Q_nil _ _ _ _ _|exact Kd.S_nil _ _ _ _ _,by first|exact Kd.R_nil _ _ _ _ _|exact Kd.N_nil _ _ _ _ _|exact Kd.V_nil _ _ _ _ _|exact Kd.Q_nil _ _ _ _ _|exact Kd.S_nil _ _ _ _ _,by first|exact Kd.R_nil _ _ _ _ _|exact Kd.N_nil _ _ _ _ _|exact Kd.V_nil _ _ _ _ _|exact Kd.Q_nil _ _ _ _ _|exact Kd.S_nil _ _ _ _ _,by repeat (first|(with_reducible first|exact HB.out|apply below_alloc|apply pw_below_drewN|apply below_drew1|refine below_set ?_ GE371.out|refine below_set ?_ GE372.out|refine below_set ?_ GE387.out)|exact HB.out)⟩
       ·replace c116:=Bool.eq_false_iff.mpr c116
        subst c116
        have H1:(if x388004_1.length < 8796093022208 then ((some (x388004_1++[a1]:List ByteArray)).bind fun y430=>(if x388006_1.length < 17592186044416 then ((some (x388006_1++[a2]:List Int)).bind fun y433=>((latticeref06_Right.f k1 t374 t375 t376 t377 y430 t381 y433).bind fun t436=>(if t436=true then (some (t374,t375,t376,t377,y430,t381,y433,0)) else (some (0,0,0,(⟨#[]⟩:ByteArray),([]:List ByteArray),([]:List ByteArray),([]:List Int),5))))) else (none))) else (none))=some (r1,r2,r3,r4,r5,r6,r7,r8):=by rw [if_neg (show ¬ (false=true) by decide)] at H;exact H
        clear H
        have H:=H1
        clear H1
        by_cases c136:x388004_1.length < 8796093022208
        ·rw [if_pos c136] at H
         have LMc136:=Aside0.mk c136
         clear c136
         obtain ⟨y430,hy430⟩:∃ y_:List ByteArray,y_=(x388004_1++[a1]):=⟨_,rfl⟩
         replace H:(if x388006_1.length < 17592186044416 then ((some (x388006_1++[a2]:List Int)).bind fun y433=>((latticeref06_Right.f k1 t374 t375 t376 t377 y430 t381 y433).bind fun t436=>(if t436=true then (some (t374,t375,t376,t377,y430,t381,y433,0)) else (some (0,0,0,(⟨#[]⟩:ByteArray),([]:List ByteArray),([]:List ByteArray),([]:List Int),5))))) else (none))=some (r1,r2,r3,r4,r5,r6,r7,r8):=by first|(rw [hy430];with_reducible exact H)|(have H2_:=(Option.bind_some _ _).symm.trans H;rw [hy430];with_reducible exact H2_)|(have H2_:=(Option.bind_some _ _).symm.trans H;with_reducible exact H2_)|with_reducible exact H|(rw [hy430];exact H)|exact H
         have Ny430:=Aside0.mk hy430
         clear hy430
         by_cases c137:x388006_1.length < 17592186044416
         ·rw [if_pos c137] at H
          have LMc137:=Aside0.mk c137
          clear c137
          obtain ⟨y433,hy433⟩:∃ y_:List Int,y_=(x388006_1++[a2]):=⟨_,rfl⟩
          replace H:((latticeref06_Right.f k1 t374 t375 t376 t377 y430 t381 y433).bind fun t436=>(if t436=true then (some (t374,t375,t376,t377,y430,t381,y433,0)) else (some (0,0,0,(⟨#[]⟩:ByteArray),([]:List ByteArray),([]:List ByteArray),([]:List Int),5))))=some (r1,r2,r3,r4,r5,r6,r7,r8):=by first|(rw [hy433];with_reducible exact H)|(have H2_:=(Option.bind_some _ _).symm.trans H;rw [hy433];with_reducible exact H2_)|(have H2_:=(Option.bind_some _ _).symm.trans H;with_reducible exact H2_)|with_reducible exact H|(rw [hy433];exact H)|exact H
          have Ny433:=Aside0.mk hy433
          clear hy433
          replace H:=Option.bind_eq_some_iff.mp H
          obtain ⟨t436,A1380,H⟩:=H
          try dsimp only at H
          have A138:=Aside0.mk A1380
          clear A1380
          by_cases c139:t436=true
          ·subst c139
           have H1:(some (t374,t375,t376,t377,y430,t381,y433,0))=some (r1,r2,r3,r4,r5,r6,r7,r8):=by rw [if_pos rfl] at H;exact H
           clear H
           have H:=H1
           clear H1
           simp only [Option.some.injEq,Prod.mk.injEq] at H
           obtain ⟨rfl,rfl,rfl,rfl,rfl,rfl,rfl,rfl⟩:=H
           have hnb140:=NB387_371.out
           have hnc140:=NB371_387.out
           have hnb141:=NB387_372.out
           have hnc141:=NB372_387.out
           have hcz142_0:wr.cell? ⟨gb387,0,none⟩=some (.int .i64 t374):=(blk_cell BK387.out 0).trans rfl
           have hcz142_1:wr.cell? ⟨gb387,1,none⟩=some (.int .i64 t375):=(blk_cell BK387.out 1).trans rfl
           have hcz142_2:wr.cell? ⟨gb387,2,none⟩=some (.int .i64 t376):=(blk_cell BK387.out 2).trans rfl
           have hcz142_3:wr.cell? ⟨gb387,3,none⟩=some (.string t377):=(blk_cell BK387.out 3).trans rfl
           have hcz142_4:wr.cell? ⟨gb387,4,none⟩=some (u388004):=(blk_cell BK387.out 4).trans rfl
           have hcz142_5:wr.cell? ⟨gb387,5,none⟩=some (.slice Ao21 t381.length co21):=(blk_cell BK387.out 5).trans rfl
           have hcz142_6:wr.cell? ⟨gb387,6,none⟩=some (u388006):=(blk_cell BK387.out 6).trans rfl
           have hfz142_0:=blk_frozen BK387.out 0
           have hfz142_1:=blk_frozen BK387.out 1
           have hfz142_2:=blk_frozen BK387.out 2
           have hfz142_3:=blk_frozen BK387.out 3
           have hfz142_4:=blk_frozen BK387.out 4
           have hfz142_5:=blk_frozen BK387.out 5
           have hfz142_6:=blk_frozen BK387.out 6
           go_wp2_with (first|((with_reducible refine gate_builtin (b:=.append) (xs:=#[.tmp 93,.tmp 95]) rfl ?_);at_builtin;refine Kd.R_append Kd.string (w0:=w) w.heap.size rfl (.tmp 93) (.tmp 95) 22 9 (.string ⟨#[]⟩) 16 rfl Try.underlying22 info9 rfl (by decide) (by omega) u388004 x388004_1 a1 [.string a1] (fun k_=>some k_≠(.slice Ao21 t381.length co21:Value).ownBlock) (fun _=>False) rfl rfl ?aP (fun _ hk=>hk.elim) ?aF ?aO ?aB ?aS ?aL ?_;(case aP=>exact rfl);(case aB=>exact (by repeat (first|(with_reducible first|exact HB.out|apply below_alloc|apply pw_below_drewN|apply below_drew1|refine below_set ?_ GE371.out|refine below_set ?_ GE372.out|refine below_set ?_ GE387.out)|exact HB.out)));(case aF=>exact (fun k_ hk=>Kd.fresh' (Kd.R_lt (by (with_reducible repeat (first|apply Kd.R_alloc|apply Kd.R_drewN|apply Kd.R_drew));exact HO_388005.out)) k_ hk));(case aO=>exact (by (with_reducible repeat (first|apply Kd.R_alloc|apply Kd.R_drewN|apply Kd.R_drew));exact HO_388004.out));(case aS=>exact (below_size (by repeat (first|(with_reducible first|exact HB.out|apply below_alloc|apply pw_below_drewN|apply below_drew1|refine below_set ?_ GE371.out|refine below_set ?_ GE372.out|refine below_set ?_ GE387.out)|exact HB.out))));(case aL=>have:=LMc136.out;omega);intro v431 w143 ho hb hg hat;rw [← Ny430.out] at ho;have n0_:=Aside0.mk (Kd.R_after (ok:=(fun _=>True)) (by (with_reducible repeat (first|apply Kd.R_alloc|apply Kd.R_drewN|apply Kd.R_drew));exact Kd.R_mono HO_388005.out (fun _ hk=>⟨trivial,hk⟩)) hg hat);have n1_:=Aside0.mk (Kd.R_over' (by (with_reducible repeat (first|apply Kd.R_alloc|apply Kd.R_drewN|apply Kd.R_drew));exact HO_388006.out) (Kd.R_typed (by (with_reducible repeat (first|apply Kd.R_alloc|apply Kd.R_drewN|apply Kd.R_drew));exact HO_388004.out)) (by decide) hg);have n2_:=Aside0.mk (blk_grown (g:=gb371) (o:=.cells #[.int .i64 a0_0,.int .i64 a0_1,.int .i64 a0_2,.string a0_3,.slice A0_4 l0_4.length c0_4,.slice A0_5 l0_5.length c0_5,.slice (some ad388) l0_6.length c0_6] 25 (0,0)) (by (with_reducible repeat (first|refine blk_drewN ?_ _|refine blk_drew ?_|refine blk_alloc ?_ _));exact BK371.out) hg (Kd.R_ne HO_388004.out BK371.out (by decide)));have n3_:=Aside0.mk (blk_grown (g:=gb372) (o:=.cells #[.int .i64 x373000_1,.int .i64 x373001_1,.int .i64 x373002_1,.string x373003_1,.slice none 0 0,.slice none 0 0,.slice none 0 0] 25 (0,0)) (by (with_reducible repeat (first|refine blk_drewN ?_ _|refine blk_drew ?_|refine blk_alloc ?_ _));exact BK372.out) hg (Kd.R_ne HO_388004.out BK372.out (by decide)));have n4_:=Aside0.mk (blk_grown (g:=gb387) (o:=.cells #[.int .i64 t374,.int .i64 t375,.int .i64 t376,.string t377,u388004,.slice Ao21 t381.length co21,u388006] 25 (0,0)) (by (with_reducible repeat (first|refine blk_drewN ?_ _|refine blk_drew ?_|refine blk_alloc ?_ _));exact BK387.out) hg (Kd.R_ne HO_388004.out BK387.out (by decide)));have n5_:=Aside0.mk (hb);have n6_:=Aside0.mk (ho);clear HO_388005;clear HO_388006;clear BK371;clear BK372;clear BK387;clear HB;clear HO_388004;have HO_388005:=n0_;have HO_388006:=n1_;have BK371:=n2_;have BK372:=n3_;have BK387:=n4_;have HB:=n5_;have HO432:=n6_;clear n0_ n1_ n2_ n3_ n4_ n5_ n6_;clear ho hb hg hat;obtain ⟨Ao144,co144,eo144⟩:=Kd.R_slice HO432.out;subst eo144;have hcz145_0:w143.cell? ⟨gb387,0,none⟩=some (.int .i64 t374):=(blk_cell BK387.out 0).trans rfl;have hcz145_1:w143.cell? ⟨gb387,1,none⟩=some (.int .i64 t375):=(blk_cell BK387.out 1).trans rfl;have hcz145_2:w143.cell? ⟨gb387,2,none⟩=some (.int .i64 t376):=(blk_cell BK387.out 2).trans rfl;have hcz145_3:w143.cell? ⟨gb387,3,none⟩=some (.string t377):=(blk_cell BK387.out 3).trans rfl;have hcz145_4:w143.cell? ⟨gb387,4,none⟩=some (u388004):=(blk_cell BK387.out 4).trans rfl;have hcz145_5:w143.cell? ⟨gb387,5,none⟩=some (.slice Ao21 t381.length co21):=(blk_cell BK387.out 5).trans rfl;have hcz145_6:w143.cell? ⟨gb387,6,none⟩=some (u388006):=(blk_cell BK387.out 6).trans rfl;have hfz145_0:=blk_frozen BK387.out 0;have hfz145_1:=blk_frozen BK387.out 1;have hfz145_2:=blk_frozen BK387.out 2;have hfz145_3:=blk_frozen BK387.out 3;have hfz145_4:=blk_frozen BK387.out 4;have hfz145_5:=blk_frozen BK387.out 5;have hfz145_6:=blk_frozen BK387.out 6)|((with_reducible refine gate_builtin (b:=.append) (xs:=#[.tmp 99,.tmp 101]) rfl ?_);at_builtin;refine Kd.R_append (Kd.int .i64) (w0:=w) w.heap.size rfl (.tmp 99) (.tmp 101) 23 3 (.int .i64 0) 8 rfl Try.underlying23 info3 rfl (by decide) (by omega) u388006 x388006_1 a2 [.int .i64 a2] (fun _=>True) (fun _=>False) rfl (by first|(go_simp;done)|(go_simp;rfl)) ?aP (fun _ hk=>hk.elim) ?aF ?aO ?aB ?aS ?aL ?_;(case aP=>exact rfl);(case aB=>exact (by repeat (first|(with_reducible first|exact HB.out|apply below_alloc|apply pw_below_drewN|apply below_drew1|refine below_set ?_ GE371.out|refine below_set ?_ GE372.out|refine below_set ?_ GE387.out)|exact HB.out)));(case aF=>exact (fun _ _=>trivial));(case aO=>exact (by (with_reducible repeat (first|apply Kd.R_alloc|apply Kd.R_drewN|apply Kd.R_drew));exact Kd.R_mono (Kd.R_far (p:=⟨gb387,4,none⟩) (Kd.R_types HO_388006.out BK387.out (by decide)) (fun _ hk=>hk.2) (.slice Ao144 y430.length co144)) (fun _ hk=>trivial)));(case aS=>exact (below_size (by repeat (first|(with_reducible first|exact HB.out|apply below_alloc|apply pw_below_drewN|apply below_drew1|refine below_set ?_ GE371.out|refine below_set ?_ GE372.out|refine below_set ?_ GE387.out)|exact HB.out))));(case aL=>have:=LMc137.out;omega);intro v434 w146 ho hb hg hat;rw [← Ny433.out] at ho;have n0_:=Aside0.mk (Kd.R_over' (by (with_reducible repeat (first|apply Kd.R_alloc|apply Kd.R_drewN|apply Kd.R_drew));exact (Kd.R_mono (Kd.R_far (p:=⟨gb387,4,none⟩) (Kd.R_types HO_388005.out BK387.out (by decide)) (fun _ hk=>hk.2) (.slice Ao144 y430.length co144)) (fun _ h_=>h_.1))) (Kd.R_typed (by (with_reducible repeat (first|apply Kd.R_alloc|apply Kd.R_drewN|apply Kd.R_drew));exact (Kd.R_mono (Kd.R_far (p:=⟨gb387,4,none⟩) (Kd.R_types HO_388006.out BK387.out (by decide)) (fun _ hk=>hk.2) (.slice Ao144 y430.length co144)) (fun _ h_=>h_.1)))) (by decide) hg);have n1_:=Aside0.mk (blk_grown (g:=gb371) (o:=.cells #[.int .i64 a0_0,.int .i64 a0_1,.int .i64 a0_2,.string a0_3,.slice A0_4 l0_4.length c0_4,.slice A0_5 l0_5.length c0_5,.slice (some ad388) l0_6.length c0_6] 25 (0,0)) (by (with_reducible repeat (first|refine blk_drewN ?_ _|refine blk_drew ?_|refine blk_alloc ?_ _));refine blk_far ?_ NB371_387.out _;(with_reducible repeat (first|refine blk_drewN ?_ _|refine blk_drew ?_|refine blk_alloc ?_ _));exact BK371.out) hg (Kd.R_ne HO_388006.out BK371.out (by decide)));have n2_:=Aside0.mk (blk_grown (g:=gb372) (o:=.cells #[.int .i64 x373000_1,.int .i64 x373001_1,.int .i64 x373002_1,.string x373003_1,.slice none 0 0,.slice none 0 0,.slice none 0 0] 25 (0,0)) (by (with_reducible repeat (first|refine blk_drewN ?_ _|refine blk_drew ?_|refine blk_alloc ?_ _));refine blk_far ?_ NB372_387.out _;(with_reducible repeat (first|refine blk_drewN ?_ _|refine blk_drew ?_|refine blk_alloc ?_ _));exact BK372.out) hg (Kd.R_ne HO_388006.out BK372.out (by decide)));have n3_:=Aside0.mk (blk_grown (g:=gb387) (o:=.cells #[.int .i64 t374,.int .i64 t375,.int .i64 t376,.string t377,.slice Ao144 y430.length co144,.slice Ao21 t381.length co21,u388006] 25 (0,0)) (by (with_reducible repeat (first|refine blk_drewN ?_ _|refine blk_drew ?_|refine blk_alloc ?_ _));refine blk_put (cs:=#[.int .i64 t374,.int .i64 t375,.int .i64 t376,.string t377,u388004,.slice Ao21 t381.length co21,u388006]) ?_ 4 _ rfl;(with_reducible repeat (first|refine blk_drewN ?_ _|refine blk_drew ?_|refine blk_alloc ?_ _));exact BK387.out) hg (Kd.R_ne HO_388006.out BK387.out (by decide)));have n4_:=Aside0.mk (Kd.R_over' (by (with_reducible repeat (first|apply Kd.R_alloc|apply Kd.R_drewN|apply Kd.R_drew));exact (Kd.R_mono (Kd.R_far (p:=⟨gb387,4,none⟩) (Kd.R_types HO432.out BK387.out (by decide)) (fun _ hk=>hk.2) (.slice Ao144 y430.length co144)) (fun _ h_=>h_.1))) (Kd.R_typed (by (with_reducible repeat (first|apply Kd.R_alloc|apply Kd.R_drewN|apply Kd.R_drew));exact (Kd.R_mono (Kd.R_far (p:=⟨gb387,4,none⟩) (Kd.R_types HO_388006.out BK387.out (by decide)) (fun _ hk=>hk.2) (.slice Ao144 y430.length co144)) (fun _ h_=>h_.1)))) (by decide) hg);have n5_:=Aside0.mk (hb);have n6_:=Aside0.mk (ho);clear HO_388005;clear BK371;clear BK372;clear BK387;clear HO432;clear HB;clear HO_388006;have HO_388005:=n0_;have BK371:=n1_;have BK372:=n2_;have BK387:=n3_;have HO432:=n4_;have HB:=n5_;have HO435:=n6_;clear n0_ n1_ n2_ n3_ n4_ n5_ n6_;clear ho hb hg hat;obtain ⟨Ao147,co147,eo147⟩:=Kd.R_slice HO435.out;subst eo147;have hcz148_0:w146.cell? ⟨gb387,0,none⟩=some (.int .i64 t374):=(blk_cell BK387.out 0).trans rfl;have hcz148_1:w146.cell? ⟨gb387,1,none⟩=some (.int .i64 t375):=(blk_cell BK387.out 1).trans rfl;have hcz148_2:w146.cell? ⟨gb387,2,none⟩=some (.int .i64 t376):=(blk_cell BK387.out 2).trans rfl;have hcz148_3:w146.cell? ⟨gb387,3,none⟩=some (.string t377):=(blk_cell BK387.out 3).trans rfl;have hcz148_4:w146.cell? ⟨gb387,4,none⟩=some (.slice Ao144 y430.length co144):=(blk_cell BK387.out 4).trans rfl;have hcz148_5:w146.cell? ⟨gb387,5,none⟩=some (.slice Ao21 t381.length co21):=(blk_cell BK387.out 5).trans rfl;have hcz148_6:w146.cell? ⟨gb387,6,none⟩=some (u388006):=(blk_cell BK387.out 6).trans rfl;have hfz148_0:=blk_frozen BK387.out 0;have hfz148_1:=blk_frozen BK387.out 1;have hfz148_2:=blk_frozen BK387.out 2;have hfz148_3:=blk_frozen BK387.out 3;have hfz148_4:=blk_frozen BK387.out 4;have hfz148_5:=blk_frozen BK387.out 5;have hfz148_6:=blk_frozen BK387.out 6)|((with_reducible refine gate_callee (f:=24) rfl ?_);refine goesL_ (some 105) rfl rfl Try.func24 (by kernel_rfl) rfl #[.agg #[.int .i64 t374,.int .i64 t375,.int .i64 t376,.string t377,.slice Ao144 y430.length co144,.slice Ao21 t381.length co21,.slice Ao147 y433.length co147]] rfl (by (try simp only [List.map_toArray,List.map_cons,List.map_nil]);first|done|rfl|(simp only [List.length_drop,List.length_take];rfl)) ?_;(with_reducible refine (latticeref06_Right.calls k1 t374 t375 t376 t377 _ _ y430 _ _ t381 _ _ y433 true _ ?side1 ?side2 ?side3 ?side4 ?side5 ?side6 A138.out).mono ?_);(case side1=>refine (Kd.R_reads' (e:=9) (base:=w.heap.size) (ok:=fun k_=>some k_≠(.slice Ao21 t381.length co21:Value).ownBlock) (n:=y430.length) (c:=co144) ?_).2.2;exact (by (with_reducible repeat (first|apply Kd.R_alloc|apply Kd.R_drewN|apply Kd.R_drew));exact (Kd.R_mono (Kd.R_far (p:=⟨gb387,6,none⟩) (Kd.R_types HO432.out BK387.out (by decide)) (fun _ hk=>hk.2) (.slice Ao147 y433.length co147)) (fun _ h_=>h_.1))));(case side2=>exact (Kd.R_reads' HO432.out).2.1);(case side3=>refine (Kd.R_reads' (e:=9) (base:=w.heap.size) (ok:=fun k_=>(True∧some k_≠(.slice Ao144 y430.length co144:Value).ownBlock)) (n:=t381.length) (c:=co21) ?_).2.2;exact (by (with_reducible repeat (first|apply Kd.R_alloc|apply Kd.R_drewN|apply Kd.R_drew));exact (Kd.R_mono (Kd.R_far (p:=⟨gb387,6,none⟩) (Kd.R_types HO_388005.out BK387.out (by decide)) (fun _ hk=>hk.2) (.slice Ao147 y433.length co147)) (fun _ h_=>h_.1))));(case side4=>exact (Kd.R_reads' HO_388005.out).2.1);(case side5=>refine (Kd.R_reads' (e:=3) (base:=w.heap.size) (ok:=fun k_=>True) (n:=y433.length) (c:=co147) ?_).2.2;exact (by (with_reducible repeat (first|apply Kd.R_alloc|apply Kd.R_drewN|apply Kd.R_drew));exact (Kd.R_mono (Kd.R_far (p:=⟨gb387,6,none⟩) (Kd.R_types HO435.out BK387.out (by decide)) (fun _ hk=>hk.2) (.slice Ao147 y433.length co147)) (fun _ h_=>h_.1))));(case side6=>exact (Kd.R_reads' HO435.out).2.1);rintro e w149 ⟨rfl,hb⟩;refine ⟨_,rfl,?_⟩;have n0_:=Aside0.mk (Kd.R_below (by (with_reducible repeat (first|apply Kd.R_alloc|apply Kd.R_drewN|apply Kd.R_drew));exact (Kd.R_mono (Kd.R_far (p:=⟨gb387,6,none⟩) (Kd.R_types HO_388005.out BK387.out (by decide)) (fun _ hk=>hk.2) (.slice Ao147 y433.length co147)) (fun _ h_=>h_.1))) hb);have n1_:=Aside0.mk (Kd.R_below (by (with_reducible repeat (first|apply Kd.R_alloc|apply Kd.R_drewN|apply Kd.R_drew));exact (Kd.R_mono (Kd.R_far (p:=⟨gb387,6,none⟩) (Kd.R_types HO432.out BK387.out (by decide)) (fun _ hk=>hk.2) (.slice Ao147 y433.length co147)) (fun _ h_=>h_.1))) hb);have n2_:=Aside0.mk (Kd.R_below (by (with_reducible repeat (first|apply Kd.R_alloc|apply Kd.R_drewN|apply Kd.R_drew));exact (Kd.R_mono (Kd.R_far (p:=⟨gb387,6,none⟩) (Kd.R_types HO435.out BK387.out (by decide)) (fun _ hk=>hk.2) (.slice Ao147 y433.length co147)) (fun _ h_=>h_.1))) hb);have n3_:=Aside0.mk (blk_below (g:=gb371) (o:=.cells #[.int .i64 a0_0,.int .i64 a0_1,.int .i64 a0_2,.string a0_3,.slice A0_4 l0_4.length c0_4,.slice A0_5 l0_5.length c0_5,.slice (some ad388) l0_6.length c0_6] 25 (0,0)) (by (with_reducible repeat (first|refine blk_drewN ?_ _|refine blk_drew ?_|refine blk_alloc ?_ _));refine blk_far ?_ NB371_387.out _;(with_reducible repeat (first|refine blk_drewN ?_ _|refine blk_drew ?_|refine blk_alloc ?_ _));exact BK371.out) hb);have n4_:=Aside0.mk (blk_below (g:=gb372) (o:=.cells #[.int .i64 x373000_1,.int .i64 x373001_1,.int .i64 x373002_1,.string x373003_1,.slice none 0 0,.slice none 0 0,.slice none 0 0] 25 (0,0)) (by (with_reducible repeat (first|refine blk_drewN ?_ _|refine blk_drew ?_|refine blk_alloc ?_ _));refine blk_far ?_ NB372_387.out _;(with_reducible repeat (first|refine blk_drewN ?_ _|refine blk_drew ?_|refine blk_alloc ?_ _));exact BK372.out) hb);have n5_:=Aside0.mk (blk_below (g:=gb387) (o:=.cells #[.int .i64 t374,.int .i64 t375,.int .i64 t376,.string t377,.slice Ao144 y430.length co144,.slice Ao21 t381.length co21,.slice Ao147 y433.length co147] 25 (0,0)) (by (with_reducible repeat (first|refine blk_drewN ?_ _|refine blk_drew ?_|refine blk_alloc ?_ _));refine blk_put (cs:=#[.int .i64 t374,.int .i64 t375,.int .i64 t376,.string t377,.slice Ao144 y430.length co144,.slice Ao21 t381.length co21,u388006]) ?_ 6 _ rfl;(with_reducible repeat (first|refine blk_drewN ?_ _|refine blk_drew ?_|refine blk_alloc ?_ _));exact BK387.out) hb);have n6_:=Aside0.mk (below_step (by repeat (first|(with_reducible first|exact HB.out|apply below_alloc|apply pw_below_drewN|apply below_drew1|refine below_set ?_ GE371.out|refine below_set ?_ GE372.out|refine below_set ?_ GE387.out)|exact HB.out)) hb);clear HO_388005;clear HO432;clear HO435;clear BK371;clear BK372;clear BK387;clear HB;have HO_388005:=n0_;have HO432:=n1_;have HO435:=n2_;have BK371:=n3_;have BK372:=n4_;have BK387:=n5_;have HB:=n6_;clear n0_ n1_ n2_ n3_ n4_ n5_ n6_;(try clear hb);(try clear hb2);(try clear hk);(try clear hi);have hcz150_0:w149.cell? ⟨gb387,0,none⟩=some (.int .i64 t374):=(blk_cell BK387.out 0).trans rfl;have hcz150_1:w149.cell? ⟨gb387,1,none⟩=some (.int .i64 t375):=(blk_cell BK387.out 1).trans rfl;have hcz150_2:w149.cell? ⟨gb387,2,none⟩=some (.int .i64 t376):=(blk_cell BK387.out 2).trans rfl;have hcz150_3:w149.cell? ⟨gb387,3,none⟩=some (.string t377):=(blk_cell BK387.out 3).trans rfl;have hcz150_4:w149.cell? ⟨gb387,4,none⟩=some (.slice Ao144 y430.length co144):=(blk_cell BK387.out 4).trans rfl;have hcz150_5:w149.cell? ⟨gb387,5,none⟩=some (.slice Ao21 t381.length co21):=(blk_cell BK387.out 5).trans rfl;have hcz150_6:w149.cell? ⟨gb387,6,none⟩=some (.slice Ao147 y433.length co147):=(blk_cell BK387.out 6).trans rfl;have hfz150_0:=blk_frozen BK387.out 0;have hfz150_1:=blk_frozen BK387.out 1;have hfz150_2:=blk_frozen BK387.out 2;have hfz150_3:=blk_frozen BK387.out 3;have hfz150_4:=blk_frozen BK387.out 4;have hfz150_5:=blk_frozen BK387.out 5;have hfz150_6:=blk_frozen BK387.out 6;have hnb151:=NB372_371.out;have hnc151:=NB371_372.out;have hcz152_0:w149.cell? ⟨gb372,0,none⟩=some (.int .i64 x373000_1):=(blk_cell BK372.out 0).trans rfl;have hcz152_1:w149.cell? ⟨gb372,1,none⟩=some (.int .i64 x373001_1):=(blk_cell BK372.out 1).trans rfl;have hcz152_2:w149.cell? ⟨gb372,2,none⟩=some (.int .i64 x373002_1):=(blk_cell BK372.out 2).trans rfl;have hcz152_3:w149.cell? ⟨gb372,3,none⟩=some (.string x373003_1):=(blk_cell BK372.out 3).trans rfl;have hcz152_4:w149.cell? ⟨gb372,4,none⟩=some (.slice none 0 0):=(blk_cell BK372.out 4).trans rfl;have hcz152_5:w149.cell? ⟨gb372,5,none⟩=some (.slice none 0 0):=(blk_cell BK372.out 5).trans rfl;have hcz152_6:w149.cell? ⟨gb372,6,none⟩=some (.slice none 0 0):=(blk_cell BK372.out 6).trans rfl;have hfz152_0:=blk_frozen BK372.out 0;have hfz152_1:=blk_frozen BK372.out 1;have hfz152_2:=blk_frozen BK372.out 2;have hfz152_3:=blk_frozen BK372.out 3;have hfz152_4:=blk_frozen BK372.out 4;have hfz152_5:=blk_frozen BK372.out 5;have hfz152_6:=blk_frozen BK372.out 6))
           refine bodyPost_ret (results_ct rfl _ _ gb372 25 #[.int .i64 t374,.int .i64 t375,.int .i64 t376,.string t377,.slice Ao144 y430.length co144,.slice Ao21 t381.length co21,.slice Ao147 y433.length co147] (0,0) _ rfl (by (with_reducible repeat (first|refine blk_drewN ?_ _|refine blk_drew ?_|refine blk_alloc ?_ _));refine blk_put (cs:=#[.int .i64 t374,.int .i64 t375,.int .i64 t376,.string t377,.slice Ao144 y430.length co144,.slice Ao21 t381.length co21,.slice none 0 0]) ?_ 6 _ rfl;(with_reducible repeat (first|refine blk_drewN ?_ _|refine blk_drew ?_|refine blk_alloc ?_ _));refine blk_put (cs:=#[.int .i64 t374,.int .i64 t375,.int .i64 t376,.string t377,.slice Ao144 y430.length co144,.slice none 0 0,.slice none 0 0]) ?_ 5 _ rfl;(with_reducible repeat (first|refine blk_drewN ?_ _|refine blk_drew ?_|refine blk_alloc ?_ _));refine blk_put (cs:=#[.int .i64 t374,.int .i64 t375,.int .i64 t376,.string t377,.slice none 0 0,.slice none 0 0,.slice none 0 0]) ?_ 4 _ rfl;(with_reducible repeat (first|refine blk_drewN ?_ _|refine blk_drew ?_|refine blk_alloc ?_ _));refine blk_put (cs:=#[.int .i64 t374,.int .i64 t375,.int .i64 t376,.string x373003_1,.slice none 0 0,.slice none 0 0,.slice none 0 0]) ?_ 3 _ rfl;(with_reducible repeat (first|refine blk_drewN ?_ _|refine blk_drew ?_|refine blk_alloc ?_ _));refine blk_put (cs:=#[.int .i64 t374,.int .i64 t375,.int .i64 x373002_1,.string x373003_1,.slice none 0 0,.slice none 0 0,.slice none 0 0]) ?_ 2 _ rfl;(with_reducible repeat (first|refine blk_drewN ?_ _|refine blk_drew ?_|refine blk_alloc ?_ _));refine blk_put (cs:=#[.int .i64 t374,.int .i64 x373001_1,.int .i64 x373002_1,.string x373003_1,.slice none 0 0,.slice none 0 0,.slice none 0 0]) ?_ 1 _ rfl;(with_reducible repeat (first|refine blk_drewN ?_ _|refine blk_drew ?_|refine blk_alloc ?_ _));refine blk_put (cs:=#[.int .i64 x373000_1,.int .i64 x373001_1,.int .i64 x373002_1,.string x373003_1,.slice none 0 0,.slice none 0 0,.slice none 0 0]) ?_ 0 _ rfl;(with_reducible repeat (first|refine blk_drewN ?_ _|refine blk_drew ?_|refine blk_alloc ?_ _));exact BK372.out) Try.underlying25 rfl (by kernel_rfl)) rfl ?_
           exact ⟨_,_,_,by first|rfl|(simp [errW_none,errW_some] <;> rfl)|(simp [*,errW_none,errW_some] <;> rfl),by (with_reducible repeat (first|apply Kd.R_alloc|apply Kd.R_drewN|apply Kd.R_drew));exact Kd.R_mono (Kd.R_far (p:=⟨gb372,6,none⟩) (Kd.R_far (p:=⟨gb372,5,none⟩) (Kd.R_far (p:=⟨gb372,4,none⟩) (Kd.R_far (p:=⟨gb372,3,none⟩) (Kd.R_far (p:=⟨gb372,2,none⟩) (Kd.R_far (p:=⟨gb372,1,none⟩) (Kd.R_far (p:=⟨gb372,0,none⟩) (Kd.R_types HO432.out BK372.out (by decide)) (fun _ hk=>hk.2) (.int .i64 t374)) (fun _ hk=>hk.2) (.int .i64 t375)) (fun _ hk=>hk.2) (.int .i64 t376)) (fun _ hk=>hk.2) (.string t377)) (fun _ hk=>hk.2) (.slice Ao144 y430.length co144)) (fun _ hk=>hk.2) (.slice Ao21 t381.length co21)) (fun _ hk=>hk.2) (.slice Ao147 y433.length co147)) (fun _ hk=>hk.1),by (with_reducible repeat (first|apply Kd.R_alloc|apply Kd.R_drewN|apply Kd.R_drew));exact Kd.R_mono (Kd.R_far (p:=⟨gb372,6,none⟩) (Kd.R_far (p:=⟨gb372,5,none⟩) (Kd.R_far (p:=⟨gb372,4,none⟩) (Kd.R_far (p:=⟨gb372,3,none⟩) (Kd.R_far (p:=⟨gb372,2,none⟩) (Kd.R_far (p:=⟨gb372,1,none⟩) (Kd.R_far (p:=⟨gb372,0,none⟩) (Kd.R_types HO_388005.out BK372.out (by decide)) (fun _ hk=>hk.2) (.int .i64 t374)) (fun _ hk=>hk.2) (.int .i64 t375)) (fun _ hk=>hk.2) (.int .i64 t376)) (fun _ hk=>hk.2) (.string t377)) (fun _ hk=>hk.2) (.slice Ao144 y430.length co144)) (fun _ hk=>hk.2) (.slice Ao21 t381.length co21)) (fun _ hk=>hk.2) (.slice Ao147 y433.length co147)) (fun _ hk=>hk.1.2),by (with_reducible repeat (first|apply Kd.R_alloc|apply Kd.R_drewN|apply Kd.R_drew));exact Kd.R_mono (Kd.R_far (p:=⟨gb372,6,none⟩) (Kd.R_far (p:=⟨gb372,5,none⟩) (Kd.R_far (p:=⟨gb372,4,none⟩) (Kd.R_far (p:=⟨gb372,3,none⟩) (Kd.R_far (p:=⟨gb372,2,none⟩) (Kd.R_far (p:=⟨gb372,1,none⟩) (Kd.R_far (p:=⟨gb372,0,none⟩) (Kd.R_types HO435.out BK372.out (by decide)) (fun _ hk=>hk.2) (.int .i64 t374)) (fun _ hk=>hk.2) (.int .i64 t375)) (fun _ hk=>hk.2) (.int .i64 t376)) (fun _ hk=>hk.2) (.string t377)) (fun _ hk=>hk.2) (.slice Ao144 y430.length co144)) (fun _ hk=>hk.2) (.slice Ao21 t381.length co21)) (fun _ hk=>hk.2) (.slice Ao147 y433.length co147)) (fun _ hk=>trivial),by repeat (first|(with_reducible first|exact HB.out|apply below_alloc|apply pw_below_drewN|apply below_drew1|refine below_set ?_ GE371.out|refine below_set ?_ GE372.out|refine below_set ?_ GE387.out)|exact HB.out)⟩
          ·replace c139:=Bool.eq_false_iff.mpr c139
           subst c139
           have H1:(some (0,0,0,(⟨#[]⟩:ByteArray),([]:List ByteArray),([]:List ByteArray),([]:List Int),5))=some (r1,r2,r3,r4,r5,r6,r7,r8):=by rw [if_neg (show ¬ (false=true) by decide)] at H;exact H
           clear H
           have H:=H1
           clear H1
           simp only [Option.some.injEq,Prod.mk.injEq] at H
           obtain ⟨rfl,rfl,rfl,rfl,rfl,rfl,rfl,rfl⟩:=H
           have hnb153:=NB387_371.out
           have hnc153:=NB371_387.out
           have hnb154:=NB387_372.out
           have hnc154:=NB372_387.out
           have hcz155_0:wr.cell? ⟨gb387,0,none⟩=some (.int .i64 t374):=(blk_cell BK387.out 0).trans rfl
           have hcz155_1:wr.cell? ⟨gb387,1,none⟩=some (.int .i64 t375):=(blk_cell BK387.out 1).trans rfl
           have hcz155_2:wr.cell? ⟨gb387,2,none⟩=some (.int .i64 t376):=(blk_cell BK387.out 2).trans rfl
           have hcz155_3:wr.cell? ⟨gb387,3,none⟩=some (.string t377):=(blk_cell BK387.out 3).trans rfl
           have hcz155_4:wr.cell? ⟨gb387,4,none⟩=some (u388004):=(blk_cell BK387.out 4).trans rfl
           have hcz155_5:wr.cell? ⟨gb387,5,none⟩=some (.slice Ao21 t381.length co21):=(blk_cell BK387.out 5).trans rfl
           have hcz155_6:wr.cell? ⟨gb387,6,none⟩=some (u388006):=(blk_cell BK387.out 6).trans rfl
           have hfz155_0:=blk_frozen BK387.out 0
           have hfz155_1:=blk_frozen BK387.out 1
           have hfz155_2:=blk_frozen BK387.out 2
           have hfz155_3:=blk_frozen BK387.out 3
           have hfz155_4:=blk_frozen BK387.out 4
           have hfz155_5:=blk_frozen BK387.out 5
           have hfz155_6:=blk_frozen BK387.out 6
           go_wp2_with (first|((with_reducible refine gate_builtin (b:=.append) (xs:=#[.tmp 93,.tmp 95]) rfl ?_);at_builtin;refine Kd.R_append Kd.string (w0:=w) w.heap.size rfl (.tmp 93) (.tmp 95) 22 9 (.string ⟨#[]⟩) 16 rfl Try.underlying22 info9 rfl (by decide) (by omega) u388004 x388004_1 a1 [.string a1] (fun k_=>some k_≠(.slice Ao21 t381.length co21:Value).ownBlock) (fun _=>False) rfl rfl ?aP (fun _ hk=>hk.elim) ?aF ?aO ?aB ?aS ?aL ?_;(case aP=>exact rfl);(case aB=>exact (by repeat (first|(with_reducible first|exact HB.out|apply below_alloc|apply pw_below_drewN|apply below_drew1|refine below_set ?_ GE371.out|refine below_set ?_ GE372.out|refine below_set ?_ GE387.out)|exact HB.out)));(case aF=>exact (fun k_ hk=>Kd.fresh' (Kd.R_lt (by (with_reducible repeat (first|apply Kd.R_alloc|apply Kd.R_drewN|apply Kd.R_drew));exact HO_388005.out)) k_ hk));(case aO=>exact (by (with_reducible repeat (first|apply Kd.R_alloc|apply Kd.R_drewN|apply Kd.R_drew));exact HO_388004.out));(case aS=>exact (below_size (by repeat (first|(with_reducible first|exact HB.out|apply below_alloc|apply pw_below_drewN|apply below_drew1|refine below_set ?_ GE371.out|refine below_set ?_ GE372.out|refine below_set ?_ GE387.out)|exact HB.out))));(case aL=>have:=LMc136.out;omega);intro v431 w156 ho hb hg hat;rw [← Ny430.out] at ho;have n0_:=Aside0.mk (Kd.R_after (ok:=(fun _=>True)) (by (with_reducible repeat (first|apply Kd.R_alloc|apply Kd.R_drewN|apply Kd.R_drew));exact Kd.R_mono HO_388005.out (fun _ hk=>⟨trivial,hk⟩)) hg hat);have n1_:=Aside0.mk (Kd.R_over' (by (with_reducible repeat (first|apply Kd.R_alloc|apply Kd.R_drewN|apply Kd.R_drew));exact HO_388006.out) (Kd.R_typed (by (with_reducible repeat (first|apply Kd.R_alloc|apply Kd.R_drewN|apply Kd.R_drew));exact HO_388004.out)) (by decide) hg);have n2_:=Aside0.mk (blk_grown (g:=gb371) (o:=.cells #[.int .i64 a0_0,.int .i64 a0_1,.int .i64 a0_2,.string a0_3,.slice A0_4 l0_4.length c0_4,.slice A0_5 l0_5.length c0_5,.slice (some ad388) l0_6.length c0_6] 25 (0,0)) (by (with_reducible repeat (first|refine blk_drewN ?_ _|refine blk_drew ?_|refine blk_alloc ?_ _));exact BK371.out) hg (Kd.R_ne HO_388004.out BK371.out (by decide)));have n3_:=Aside0.mk (blk_grown (g:=gb372) (o:=.cells #[.int .i64 x373000_1,.int .i64 x373001_1,.int .i64 x373002_1,.string x373003_1,.slice none 0 0,.slice none 0 0,.slice none 0 0] 25 (0,0)) (by (with_reducible repeat (first|refine blk_drewN ?_ _|refine blk_drew ?_|refine blk_alloc ?_ _));exact BK372.out) hg (Kd.R_ne HO_388004.out BK372.out (by decide)));have n4_:=Aside0.mk (blk_grown (g:=gb387) (o:=.cells #[.int .i64 t374,.int .i64 t375,.int .i64 t376,.string t377,u388004,.slice Ao21 t381.length co21,u388006] 25 (0,0)) (by (with_reducible repeat (first|refine blk_drewN ?_ _|refine blk_drew ?_|refine blk_alloc ?_ _));exact BK387.out) hg (Kd.R_ne HO_388004.out BK387.out (by decide)));have n5_:=Aside0.mk (hb);have n6_:=Aside0.mk (ho);clear HO_388005;clear HO_388006;clear BK371;clear BK372;clear BK387;clear HB;clear HO_388004;have HO_388005:=n0_;have HO_388006:=n1_;have BK371:=n2_;have BK372:=n3_;have BK387:=n4_;have HB:=n5_;have HO432:=n6_;clear n0_ n1_ n2_ n3_ n4_ n5_ n6_;clear ho hb hg hat;obtain ⟨Ao157,co157,eo157⟩:=Kd.R_slice HO432.out;subst eo157;have hcz158_0:w156.cell? ⟨gb387,0,none⟩=some (.int .i64 t374):=(blk_cell BK387.out 0).trans rfl;have hcz158_1:w156.cell? ⟨gb387,1,none⟩=some (.int .i64 t375):=(blk_cell BK387.out 1).trans rfl;have hcz158_2:w156.cell? ⟨gb387,2,none⟩=some (.int .i64 t376):=(blk_cell BK387.out 2).trans rfl;have hcz158_3:w156.cell? ⟨gb387,3,none⟩=some (.string t377):=(blk_cell BK387.out 3).trans rfl;have hcz158_4:w156.cell? ⟨gb387,4,none⟩=some (u388004):=(blk_cell BK387.out 4).trans rfl;have hcz158_5:w156.cell? ⟨gb387,5,none⟩=some (.slice Ao21 t381.length co21):=(blk_cell BK387.out 5).trans rfl;have hcz158_6:w156.cell? ⟨gb387,6,none⟩=some (u388006):=(blk_cell BK387.out 6).trans rfl;have hfz158_0:=blk_frozen BK387.out 0;have hfz158_1:=blk_frozen BK387.out 1;have hfz158_2:=blk_frozen BK387.out 2;have hfz158_3:=blk_frozen BK387.out 3;have hfz158_4:=blk_frozen BK387.out 4;have hfz158_5:=blk_frozen BK387.out 5;have hfz158_6:=blk_frozen BK387.out 6)|((with_reducible refine gate_builtin (b:=.append) (xs:=#[.tmp 99,.tmp 101]) rfl ?_);at_builtin;refine Kd.R_append (Kd.int .i64) (w0:=w) w.heap.size rfl (.tmp 99) (.tmp 101) 23 3 (.int .i64 0) 8 rfl Try.underlying23 info3 rfl (by decide) (by omega) u388006 x388006_1 a2 [.int .i64 a2] (fun _=>True) (fun _=>False) rfl (by first|(go_simp;done)|(go_simp;rfl)) ?aP (fun _ hk=>hk.elim) ?aF ?aO ?aB ?aS ?aL ?_;(case aP=>exact rfl);(case aB=>exact (by repeat (first|(with_reducible first|exact HB.out|apply below_alloc|apply pw_below_drewN|apply below_drew1|refine below_set ?_ GE371.out|refine below_set ?_ GE372.out|refine below_set ?_ GE387.out)|exact HB.out)));(case aF=>exact (fun _ _=>trivial));(case aO=>exact (by (with_reducible repeat (first|apply Kd.R_alloc|apply Kd.R_drewN|apply Kd.R_drew));exact Kd.R_mono (Kd.R_far (p:=⟨gb387,4,none⟩) (Kd.R_types HO_388006.out BK387.out (by decide)) (fun _ hk=>hk.2) (.slice Ao157 y430.length co157)) (fun _ hk=>trivial)));(case aS=>exact (below_size (by repeat (first|(with_reducible first|exact HB.out|apply below_alloc|apply pw_below_drewN|apply below_drew1|refine below_set ?_ GE371.out|refine below_set ?_ GE372.out|refine below_set ?_ GE387.out)|exact HB.out))));(case aL=>have:=LMc137.out;omega);intro v434 w159 ho hb hg hat;rw [← Ny433.out] at ho;have n0_:=Aside0.mk (Kd.R_over' (by (with_reducible repeat (first|apply Kd.R_alloc|apply Kd.R_drewN|apply Kd.R_drew));exact (Kd.R_mono (Kd.R_far (p:=⟨gb387,4,none⟩) (Kd.R_types HO_388005.out BK387.out (by decide)) (fun _ hk=>hk.2) (.slice Ao157 y430.length co157)) (fun _ h_=>h_.1))) (Kd.R_typed (by (with_reducible repeat (first|apply Kd.R_alloc|apply Kd.R_drewN|apply Kd.R_drew));exact (Kd.R_mono (Kd.R_far (p:=⟨gb387,4,none⟩) (Kd.R_types HO_388006.out BK387.out (by decide)) (fun _ hk=>hk.2) (.slice Ao157 y430.length co157)) (fun _ h_=>h_.1)))) (by decide) hg);have n1_:=Aside0.mk (blk_grown (g:=gb371) (o:=.cells #[.int .i64 a0_0,.int .i64 a0_1,.int .i64 a0_2,.string a0_3,.slice A0_4 l0_4.length c0_4,.slice A0_5 l0_5.length c0_5,.slice (some ad388) l0_6.length c0_6] 25 (0,0)) (by (with_reducible repeat (first|refine blk_drewN ?_ _|refine blk_drew ?_|refine blk_alloc ?_ _));refine blk_far ?_ NB371_387.out _;(with_reducible repeat (first|refine blk_drewN ?_ _|refine blk_drew ?_|refine blk_alloc ?_ _));exact BK371.out) hg (Kd.R_ne HO_388006.out BK371.out (by decide)));have n2_:=Aside0.mk (blk_grown (g:=gb372) (o:=.cells #[.int .i64 x373000_1,.int .i64 x373001_1,.int .i64 x373002_1,.string x373003_1,.slice none 0 0,.slice none 0 0,.slice none 0 0] 25 (0,0)) (by (with_reducible repeat (first|refine blk_drewN ?_ _|refine blk_drew ?_|refine blk_alloc ?_ _));refine blk_far ?_ NB372_387.out _;(with_reducible repeat (first|refine blk_drewN ?_ _|refine blk_drew ?_|refine blk_alloc ?_ _));exact BK372.out) hg (Kd.R_ne HO_388006.out BK372.out (by decide)));have n3_:=Aside0.mk (blk_grown (g:=gb387) (o:=.cells #[.int .i64 t374,.int .i64 t375,.int .i64 t376,.string t377,.slice Ao157 y430.length co157,.slice Ao21 t381.length co21,u388006] 25 (0,0)) (by (with_reducible repeat (first|refine blk_drewN ?_ _|refine blk_drew ?_|refine blk_alloc ?_ _));refine blk_put (cs:=#[.int .i64 t374,.int .i64 t375,.int .i64 t376,.string t377,u388004,.slice Ao21 t381.length co21,u388006]) ?_ 4 _ rfl;(with_reducible repeat (first|refine blk_drewN ?_ _|refine blk_drew ?_|refine blk_alloc ?_ _));exact BK387.out) hg (Kd.R_ne HO_388006.out BK387.out (by decide)));have n4_:=Aside0.mk (Kd.R_over' (by (with_reducible repeat (first|apply Kd.R_alloc|apply Kd.R_drewN|apply Kd.R_drew));exact (Kd.R_mono (Kd.R_far (p:=⟨gb387,4,none⟩) (Kd.R_types HO432.out BK387.out (by decide)) (fun _ hk=>hk.2) (.slice Ao157 y430.length co157)) (fun _ h_=>h_.1))) (Kd.R_typed (by (with_reducible repeat (first|apply Kd.R_alloc|apply Kd.R_drewN|apply Kd.R_drew));exact (Kd.R_mono (Kd.R_far (p:=⟨gb387,4,none⟩) (Kd.R_types HO_388006.out BK387.out (by decide)) (fun _ hk=>hk.2) (.slice Ao157 y430.length co157)) (fun _ h_=>h_.1)))) (by decide) hg);have n5_:=Aside0.mk (hb);have n6_:=Aside0.mk (ho);clear HO_388005;clear BK371;clear BK372;clear BK387;clear HO432;clear HB;clear HO_388006;have HO_388005:=n0_;have BK371:=n1_;have BK372:=n2_;have BK387:=n3_;have HO432:=n4_;have HB:=n5_;have HO435:=n6_;clear n0_ n1_ n2_ n3_ n4_ n5_ n6_;clear ho hb hg hat;obtain ⟨Ao160,co160,eo160⟩:=Kd.R_slice HO435.out;subst eo160;have hcz161_0:w159.cell? ⟨gb387,0,none⟩=some (.int .i64 t374):=(blk_cell BK387.out 0).trans rfl;have hcz161_1:w159.cell? ⟨gb387,1,none⟩=some (.int .i64 t375):=(blk_cell BK387.out 1).trans rfl;have hcz161_2:w159.cell? ⟨gb387,2,none⟩=some (.int .i64 t376):=(blk_cell BK387.out 2).trans rfl;have hcz161_3:w159.cell? ⟨gb387,3,none⟩=some (.string t377):=(blk_cell BK387.out 3).trans rfl;have hcz161_4:w159.cell? ⟨gb387,4,none⟩=some (.slice Ao157 y430.length co157):=(blk_cell BK387.out 4).trans rfl;have hcz161_5:w159.cell? ⟨gb387,5,none⟩=some (.slice Ao21 t381.length co21):=(blk_cell BK387.out 5).trans rfl;have hcz161_6:w159.cell? ⟨gb387,6,none⟩=some (u388006):=(blk_cell BK387.out 6).trans rfl;have hfz161_0:=blk_frozen BK387.out 0;have hfz161_1:=blk_frozen BK387.out 1;have hfz161_2:=blk_frozen BK387.out 2;have hfz161_3:=blk_frozen BK387.out 3;have hfz161_4:=blk_frozen BK387.out 4;have hfz161_5:=blk_frozen BK387.out 5;have hfz161_6:=blk_frozen BK387.out 6)|((with_reducible refine gate_callee (f:=24) rfl ?_);refine goesL_ (some 105) rfl rfl Try.func24 (by kernel_rfl) rfl #[.agg #[.int .i64 t374,.int .i64 t375,.int .i64 t376,.string t377,.slice Ao157 y430.length co157,.slice Ao21 t381.length co21,.slice Ao160 y433.length co160]] rfl (by (try simp only [List.map_toArray,List.map_cons,List.map_nil]);first|done|rfl|(simp only [List.length_drop,List.length_take];rfl)) ?_;(with_reducible refine (latticeref06_Right.calls k1 t374 t375 t376 t377 _ _ y430 _ _ t381 _ _ y433 false _ ?side1 ?side2 ?side3 ?side4 ?side5 ?side6 A138.out).mono ?_);(case side1=>refine (Kd.R_reads' (e:=9) (base:=w.heap.size) (ok:=fun k_=>some k_≠(.slice Ao21 t381.length co21:Value).ownBlock) (n:=y430.length) (c:=co157) ?_).2.2;exact (by (with_reducible repeat (first|apply Kd.R_alloc|apply Kd.R_drewN|apply Kd.R_drew));exact (Kd.R_mono (Kd.R_far (p:=⟨gb387,6,none⟩) (Kd.R_types HO432.out BK387.out (by decide)) (fun _ hk=>hk.2) (.slice Ao160 y433.length co160)) (fun _ h_=>h_.1))));(case side2=>exact (Kd.R_reads' HO432.out).2.1);(case side3=>refine (Kd.R_reads' (e:=9) (base:=w.heap.size) (ok:=fun k_=>(True∧some k_≠(.slice Ao157 y430.length co157:Value).ownBlock)) (n:=t381.length) (c:=co21) ?_).2.2;exact (by (with_reducible repeat (first|apply Kd.R_alloc|apply Kd.R_drewN|apply Kd.R_drew));exact (Kd.R_mono (Kd.R_far (p:=⟨gb387,6,none⟩) (Kd.R_types HO_388005.out BK387.out (by decide)) (fun _ hk=>hk.2) (.slice Ao160 y433.length co160)) (fun _ h_=>h_.1))));(case side4=>exact (Kd.R_reads' HO_388005.out).2.1);(case side5=>refine (Kd.R_reads' (e:=3) (base:=w.heap.size) (ok:=fun k_=>True) (n:=y433.length) (c:=co160) ?_).2.2;exact (by (with_reducible repeat (first|apply Kd.R_alloc|apply Kd.R_drewN|apply Kd.R_drew));exact (Kd.R_mono (Kd.R_far (p:=⟨gb387,6,none⟩) (Kd.R_types HO435.out BK387.out (by decide)) (fun _ hk=>hk.2) (.slice Ao160 y433.length co160)) (fun _ h_=>h_.1))));(case side6=>exact (Kd.R_reads' HO435.out).2.1);rintro e w162 ⟨rfl,hb⟩;refine ⟨_,rfl,?_⟩;have n0_:=Aside0.mk (Kd.R_below (by (with_reducible repeat (first|apply Kd.R_alloc|apply Kd.R_drewN|apply Kd.R_drew));exact (Kd.R_mono (Kd.R_far (p:=⟨gb387,6,none⟩) (Kd.R_types HO_388005.out BK387.out (by decide)) (fun _ hk=>hk.2) (.slice Ao160 y433.length co160)) (fun _ h_=>h_.1))) hb);have n1_:=Aside0.mk (Kd.R_below (by (with_reducible repeat (first|apply Kd.R_alloc|apply Kd.R_drewN|apply Kd.R_drew));exact (Kd.R_mono (Kd.R_far (p:=⟨gb387,6,none⟩) (Kd.R_types HO432.out BK387.out (by decide)) (fun _ hk=>hk.2) (.slice Ao160 y433.length co160)) (fun _ h_=>h_.1))) hb);have n2_:=Aside0.mk (Kd.R_below (by (with_reducible repeat (first|apply Kd.R_alloc|apply Kd.R_drewN|apply Kd.R_drew));exact (Kd.R_mono (Kd.R_far (p:=⟨gb387,6,none⟩) (Kd.R_types HO435.out BK387.out (by decide)) (fun _ hk=>hk.2) (.slice Ao160 y433.length co160)) (fun _ h_=>h_.1))) hb);have n3_:=Aside0.mk (blk_below (g:=gb371) (o:=.cells #[.int .i64 a0_0,.int .i64 a0_1,.int .i64 a0_2,.string a0_3,.slice A0_4 l0_4.length c0_4,.slice A0_5 l0_5.length c0_5,.slice (some ad388) l0_6.length c0_6] 25 (0,0)) (by (with_reducible repeat (first|refine blk_drewN ?_ _|refine blk_drew ?_|refine blk_alloc ?_ _));refine blk_far ?_ NB371_387.out _;(with_reducible repeat (first|refine blk_drewN ?_ _|refine blk_drew ?_|refine blk_alloc ?_ _));exact BK371.out) hb);have n4_:=Aside0.mk (blk_below (g:=gb372) (o:=.cells #[.int .i64 x373000_1,.int .i64 x373001_1,.int .i64 x373002_1,.string x373003_1,.slice none 0 0,.slice none 0 0,.slice none 0 0] 25 (0,0)) (by (with_reducible repeat (first|refine blk_drewN ?_ _|refine blk_drew ?_|refine blk_alloc ?_ _));refine blk_far ?_ NB372_387.out _;(with_reducible repeat (first|refine blk_drewN ?_ _|refine blk_drew ?_|refine blk_alloc ?_ _));exact BK372.out) hb);have n5_:=Aside0.mk (blk_below (g:=gb387) (o:=.cells #[.int .i64 t374,.int .i64 t375,.int .i64 t376,.string t377,.slice Ao157 y430.length co157,.slice Ao21 t381.length co21,.slice Ao160 y433.length co160] 25 (0,0)) (by (with_reducible repeat (first|refine blk_drewN ?_ _|refine blk_drew ?_|refine blk_alloc ?_ _));refine blk_put (cs:=#[.int .i64 t374,.int .i64 t375,.int .i64 t376,.string t377,.slice Ao157 y430.length co157,.slice Ao21 t381.length co21,u388006]) ?_ 6 _ rfl;(with_reducible repeat (first|refine blk_drewN ?_ _|refine blk_drew ?_|refine blk_alloc ?_ _));exact BK387.out) hb);have n6_:=Aside0.mk (below_step (by repeat (first|(with_reducible first|exact HB.out|apply below_alloc|apply pw_below_drewN|apply below_drew1|refine below_set ?_ GE371.out|refine below_set ?_ GE372.out|refine below_set ?_ GE387.out)|exact HB.out)) hb);clear HO_388005;clear HO432;clear HO435;clear BK371;clear BK372;clear BK387;clear HB;have HO_388005:=n0_;have HO432:=n1_;have HO435:=n2_;have BK371:=n3_;have BK372:=n4_;have BK387:=n5_;have HB:=n6_;clear n0_ n1_ n2_ n3_ n4_ n5_ n6_;(try clear hb);(try clear hb2);(try clear hk);(try clear hi);have hnb163:=NB372_371.out;have hnc163:=NB371_372.out;have hcz164_0:w162.cell? ⟨gb372,0,none⟩=some (.int .i64 x373000_1):=(blk_cell BK372.out 0).trans rfl;have hcz164_1:w162.cell? ⟨gb372,1,none⟩=some (.int .i64 x373001_1):=(blk_cell BK372.out 1).trans rfl;have hcz164_2:w162.cell? ⟨gb372,2,none⟩=some (.int .i64 x373002_1):=(blk_cell BK372.out 2).trans rfl;have hcz164_3:w162.cell? ⟨gb372,3,none⟩=some (.string x373003_1):=(blk_cell BK372.out 3).trans rfl;have hcz164_4:w162.cell? ⟨gb372,4,none⟩=some (.slice none 0 0):=(blk_cell BK372.out 4).trans rfl;have hcz164_5:w162.cell? ⟨gb372,5,none⟩=some (.slice none 0 0):=(blk_cell BK372.out 5).trans rfl;have hcz164_6:w162.cell? ⟨gb372,6,none⟩=some (.slice none 0 0):=(blk_cell BK372.out 6).trans rfl;have hfz164_0:=blk_frozen BK372.out 0;have hfz164_1:=blk_frozen BK372.out 1;have hfz164_2:=blk_frozen BK372.out 2;have hfz164_3:=blk_frozen BK372.out 3;have hfz164_4:=blk_frozen BK372.out 4;have hfz164_5:=blk_frozen BK372.out 5;have hfz164_6:=blk_frozen BK372.out 6))
           refine bodyPost_ret (results_ct rfl _ _ gb372 25 #[.int .i64 0,.int .i64 0,.int .i64 0,.string (⟨#[]⟩:ByteArray),.slice none 0 0,.slice none 0 0,.slice none 0 0] (0,0) _ rfl (by (with_reducible repeat (first|refine blk_drewN ?_ _|refine blk_drew ?_|refine blk_alloc ?_ _));refine blk_put (cs:=#[.int .i64 0,.int .i64 0,.int .i64 0,.string (⟨#[]⟩:ByteArray),.slice none 0 0,.slice none 0 0,.slice none 0 0]) ?_ 6 _ rfl;(with_reducible repeat (first|refine blk_drewN ?_ _|refine blk_drew ?_|refine blk_alloc ?_ _));refine blk_put (cs:=#[.int .i64 0,.int .i64 0,.int .i64 0,.string (⟨#[]⟩:ByteArray),.slice none 0 0,.slice none 0 0,.slice none 0 0]) ?_ 5 _ rfl;(with_reducible repeat (first|refine blk_drewN ?_ _|refine blk_drew ?_|refine blk_alloc ?_ _));refine blk_put (cs:=#[.int .i64 0,.int .i64 0,.int .i64 0,.string (⟨#[]⟩:ByteArray),.slice none 0 0,.slice none 0 0,.slice none 0 0]) ?_ 4 _ rfl;(with_reducible repeat (first|refine blk_drewN ?_ _|refine blk_drew ?_|refine blk_alloc ?_ _));refine blk_put (cs:=#[.int .i64 0,.int .i64 0,.int .i64 0,.string x373003_1,.slice none 0 0,.slice none 0 0,.slice none 0 0]) ?_ 3 _ rfl;(with_reducible repeat (first|refine blk_drewN ?_ _|refine blk_drew ?_|refine blk_alloc ?_ _));refine blk_put (cs:=#[.int .i64 0,.int .i64 0,.int .i64 x373002_1,.string x373003_1,.slice none 0 0,.slice none 0 0,.slice none 0 0]) ?_ 2 _ rfl;(with_reducible repeat (first|refine blk_drewN ?_ _|refine blk_drew ?_|refine blk_alloc ?_ _));refine blk_put (cs:=#[.int .i64 0,.int .i64 x373001_1,.int .i64 x373002_1,.string x373003_1,.slice none 0 0,.slice none 0 0,.slice none 0 0]) ?_ 1 _ rfl;(with_reducible repeat (first|refine blk_drewN ?_ _|refine blk_drew ?_|refine blk_alloc ?_ _));refine blk_put (cs:=#[.int .i64 x373000_1,.int .i64 x373001_1,.int .i64 x373002_1,.string x373003_1,.slice none 0 0,.slice none 0 0,.slice none 0 0]) ?_ 0 _ rfl;(with_reducible repeat (first|refine blk_drewN ?_ _|refine blk_drew ?_|refine blk_alloc ?_ _));exact BK372.out) Try.underlying25 rfl (by kernel_rfl)) rfl ?_
           exact ⟨_,_,_,by first|rfl|(simp [errW_none,errW_some] <;> rfl)|(simp [*,errW_none,errW_some] <;> rfl),by first|exact Kd.R_nil _ _ _ _ _|exact Kd.N_nil _ _ _ _ _|exact Kd.V_nil _ _ _ _ _|exact Kd.Q_nil _ _ _ _ _|exact Kd.S_nil _ _ _ _ _,by first|exact Kd.R_nil _ _ _ _ _|exact Kd.N_nil _ _ _ _ _|exact Kd.V_nil _ _ _ _ _|exact Kd.Q_nil _ _ _ _ _|exact Kd.S_nil _ _ _ _ _,by first|exact Kd.R_nil _ _ _ _ _|exact Kd.N_nil _ _ _ _ _|exact Kd.V_nil _ _ _ _ _|exact Kd.Q_nil _ _ _ _ _|exact Kd.S_nil _ _ _ _ _,by repeat (first|(with_reducible first|exact HB.out|apply below_alloc|apply pw_below_drewN|apply below_drew1|refine below_set ?_ GE371.out|refine below_set ?_ GE372.out|refine below_set ?_ GE387.out)|exact HB.out)⟩
         ·rw [if_neg c137] at H
          exact absurd H (by simp)
        ·rw [if_neg c136] at H
         exact absurd H (by simp)
   ·rw [if_neg c8] at H
    exact absurd H (by simp)
  ·rw [if_neg c7] at H
   exact absurd H (by simp)
 ·rw [if_neg c5] at H
  have c5b0:(t373==0)=false:=beq_eq_false_iff_ne.mpr c5
  have c5b1:(t373 != 0)=true:=bne_iff_ne.mpr c5
  simp only [Option.some.injEq,Prod.mk.injEq] at H
  obtain ⟨rfl,rfl,rfl,rfl,rfl,rfl,rfl,rfl⟩:=H
  go_enter Try.func27,Try.ntmps27
  go_wp2_with (first|((with_reducible refine gate_dst (N:=3) rfl ?_);refine box_event ?hg (N:=3) ?hd (cs:=#[.int .i64 a0_0,.int .i64 a0_1,.int .i64 a0_2,.string a0_3,.slice A0_4 l0_4.length c0_4,.slice A0_5 l0_5.length c0_5,.slice A0_6 l0_6.length c0_6]) (t:=25) ?hr ?_;(case hd=>rfl);(case hg=>rfl);(case hr=>first|(go_simp;done)|(go_simp;rfl));intro gb371 hg w165 hbox hb;have n0_:=Aside0.mk (below_step (by repeat (first|(with_reducible first|exact HB.out|apply below_alloc|apply pw_below_drewN|apply below_drew1)|exact HB.out)) hb);have n1_:=Aside0.mk (hbox);have n2_:=Aside0.mk ((by rw [hg];exact (below_size (by repeat (first|(with_reducible first|exact HB.out|apply below_alloc|apply pw_below_drewN|apply below_drew1)|exact HB.out))):w.heap.size≤gb371));have n3_:=Aside0.mk ((by rw [hg];exact (below_size (by repeat (first|(with_reducible first|exact HB.out|apply below_alloc|apply pw_below_drewN|apply below_drew1)|exact HB.out))):w.heap.size≤gb371));clear HB;have HB:=n0_;have BK371:=n1_;have GW371:=n2_;have GE371:=n3_;clear n0_ n1_ n2_ n3_;clear hb hbox hg)|((with_reducible refine gate_dst (N:=6) rfl ?_);refine box_event ?hg (N:=6) ?hd (cs:=#[.int .i64 0,.int .i64 0,.int .i64 0,.string (⟨#[]⟩:ByteArray),.slice none 0 0,.slice none 0 0,.slice none 0 0]) (t:=25) ?hr ?_;(case hd=>rfl);(case hg=>rfl);(case hr=>first|(go_simp;done)|(go_simp;rfl));intro gb372 hg w166 hbox hb;have n0_:=Aside0.mk (blk_below (g:=gb371) (o:=.cells #[.int .i64 a0_0,.int .i64 a0_1,.int .i64 a0_2,.string a0_3,.slice A0_4 l0_4.length c0_4,.slice A0_5 l0_5.length c0_5,.slice A0_6 l0_6.length c0_6] 25 (0,0)) (by (with_reducible repeat (first|refine blk_drewN ?_ _|refine blk_drew ?_|refine blk_alloc ?_ _));exact BK371.out) hb);have n1_:=Aside0.mk (below_step (by repeat (first|(with_reducible first|exact HB.out|apply below_alloc|apply pw_below_drewN|apply below_drew1|refine below_set ?_ GE371.out)|exact HB.out)) hb);have n2_:=Aside0.mk (hbox);have n3_:=Aside0.mk ((by rw [hg];exact (below_size (by repeat (first|(with_reducible first|exact HB.out|apply below_alloc|apply pw_below_drewN|apply below_drew1|refine below_set ?_ GE371.out)|exact HB.out))):w.heap.size≤gb372));have n4_:=Aside0.mk ((by rw [hg];exact (below_size (by repeat (first|(with_reducible first|exact HB.out|apply below_alloc|apply pw_below_drewN|apply below_drew1|refine below_set ?_ GE371.out)|exact HB.out))):w.heap.size≤gb372));have n5_:=Aside0.mk ((by rw [hg];exact Nat.ne_of_lt (blk_lt (g:=gb371) (o:=.cells #[.int .i64 a0_0,.int .i64 a0_1,.int .i64 a0_2,.string a0_3,.slice A0_4 l0_4.length c0_4,.slice A0_5 l0_5.length c0_5,.slice A0_6 l0_6.length c0_6] 25 (0,0)) (by (with_reducible repeat (first|refine blk_drewN ?_ _|refine blk_drew ?_|refine blk_alloc ?_ _));exact BK371.out)):gb371≠gb372));have n6_:=Aside0.mk ((by rw [hg];exact Nat.ne_of_gt (blk_lt (g:=gb371) (o:=.cells #[.int .i64 a0_0,.int .i64 a0_1,.int .i64 a0_2,.string a0_3,.slice A0_4 l0_4.length c0_4,.slice A0_5 l0_5.length c0_5,.slice A0_6 l0_6.length c0_6] 25 (0,0)) (by (with_reducible repeat (first|refine blk_drewN ?_ _|refine blk_drew ?_|refine blk_alloc ?_ _));exact BK371.out)):gb372≠gb371));clear BK371;clear HB;have BK371:=n0_;have HB:=n1_;have BK372:=n2_;have GW372:=n3_;have GE372:=n4_;have NB371_372:=n5_;have NB372_371:=n6_;clear n0_ n1_ n2_ n3_ n4_ n5_ n6_;clear hb hbox hg;have hnb167:=NB371_372.out;have hnc167:=NB372_371.out;have hcz168_0:w166.cell? ⟨gb371,0,none⟩=some (.int .i64 a0_0):=(blk_cell BK371.out 0).trans rfl;have hcz168_1:w166.cell? ⟨gb371,1,none⟩=some (.int .i64 a0_1):=(blk_cell BK371.out 1).trans rfl;have hcz168_2:w166.cell? ⟨gb371,2,none⟩=some (.int .i64 a0_2):=(blk_cell BK371.out 2).trans rfl;have hcz168_3:w166.cell? ⟨gb371,3,none⟩=some (.string a0_3):=(blk_cell BK371.out 3).trans rfl;have hcz168_4:w166.cell? ⟨gb371,4,none⟩=some (.slice A0_4 l0_4.length c0_4):=(blk_cell BK371.out 4).trans rfl;have hcz168_5:w166.cell? ⟨gb371,5,none⟩=some (.slice A0_5 l0_5.length c0_5):=(blk_cell BK371.out 5).trans rfl;have hcz168_6:w166.cell? ⟨gb371,6,none⟩=some (.slice A0_6 l0_6.length c0_6):=(blk_cell BK371.out 6).trans rfl;have hfz168_0:=blk_frozen BK371.out 0;have hfz168_1:=blk_frozen BK371.out 1;have hfz168_2:=blk_frozen BK371.out 2;have hfz168_3:=blk_frozen BK371.out 3;have hfz168_4:=blk_frozen BK371.out 4;have hfz168_5:=blk_frozen BK371.out 5;have hfz168_6:=blk_frozen BK371.out 6)|((with_reducible refine gate_callee (f:=46) rfl ?_);refine goesL_ (some 16) rfl rfl Try.func46 (by kernel_rfl) rfl #[.agg #[.int .i64 a0_0,.int .i64 a0_1,.int .i64 a0_2,.string a0_3,.slice A0_4 l0_4.length c0_4,.slice A0_5 l0_5.length c0_5,.slice A0_6 l0_6.length c0_6],.string a1,.string (⟨#[]⟩:ByteArray),.int .i64 a2,.int .i64 1] rfl (by (try simp only [List.map_toArray,List.map_cons,List.map_nil]);first|done|rfl|(simp only [List.length_drop,List.length_take];rfl)) ?_;(with_reducible refine (latticeref07_asked.calls k a0_0 a0_1 a0_2 a0_3 _ _ l0_4 _ _ l0_5 _ _ l0_6 a1 (⟨#[]⟩:ByteArray) a2 1 t373 _ ?side1 ?side2 ?side3 ?side4 ?side5 ?side6 A4.out).mono ?_);(case side1=>repeat (first|exact (Kd.C_below HR0_4.out HB.out)|(with_reducible refine Kd.C_alloc ?_ _)|(with_reducible refine Kd.C_drewN ?_ _)|(with_reducible refine Kd.C_drew ?_)));(case side2=>exact HC0_4.out);(case side3=>repeat (first|exact (Kd.C_below HR0_5.out HB.out)|(with_reducible refine Kd.C_alloc ?_ _)|(with_reducible refine Kd.C_drewN ?_ _)|(with_reducible refine Kd.C_drew ?_)));(case side4=>exact HC0_5.out);(case side5=>repeat (first|exact (Kd.C_below HR0_6.out HB.out)|(with_reducible refine Kd.C_alloc ?_ _)|(with_reducible refine Kd.C_drewN ?_ _)|(with_reducible refine Kd.C_drew ?_)));(case side6=>exact HC0_6.out);rintro e w169 ⟨rfl,hb⟩;refine ⟨_,rfl,?_⟩;have n0_:=Aside0.mk (blk_below (g:=gb371) (o:=.cells #[.int .i64 a0_0,.int .i64 a0_1,.int .i64 a0_2,.string a0_3,.slice A0_4 l0_4.length c0_4,.slice A0_5 l0_5.length c0_5,.slice A0_6 l0_6.length c0_6] 25 (0,0)) (by (with_reducible repeat (first|refine blk_drewN ?_ _|refine blk_drew ?_|refine blk_alloc ?_ _));exact BK371.out) hb);have n1_:=Aside0.mk (blk_below (g:=gb372) (o:=.cells #[.int .i64 0,.int .i64 0,.int .i64 0,.string (⟨#[]⟩:ByteArray),.slice none 0 0,.slice none 0 0,.slice none 0 0] 25 (0,0)) (by (with_reducible repeat (first|refine blk_drewN ?_ _|refine blk_drew ?_|refine blk_alloc ?_ _));exact BK372.out) hb);have n2_:=Aside0.mk (below_step (by repeat (first|(with_reducible first|exact HB.out|apply below_alloc|apply pw_below_drewN|apply below_drew1|refine below_set ?_ GE371.out|refine below_set ?_ GE372.out)|exact HB.out)) hb);clear BK371;clear BK372;clear HB;have BK371:=n0_;have BK372:=n1_;have HB:=n2_;clear n0_ n1_ n2_;(try clear hb);(try clear hb2);(try clear hk);(try clear hi);have hcz170_0:w169.cell? ⟨gb372,0,none⟩=some (.int .i64 0):=(blk_cell BK372.out 0).trans rfl;have hcz170_1:w169.cell? ⟨gb372,1,none⟩=some (.int .i64 0):=(blk_cell BK372.out 1).trans rfl;have hcz170_2:w169.cell? ⟨gb372,2,none⟩=some (.int .i64 0):=(blk_cell BK372.out 2).trans rfl;have hcz170_3:w169.cell? ⟨gb372,3,none⟩=some (.string (⟨#[]⟩:ByteArray)):=(blk_cell BK372.out 3).trans rfl;have hcz170_4:w169.cell? ⟨gb372,4,none⟩=some (.slice none 0 0):=(blk_cell BK372.out 4).trans rfl;have hcz170_5:w169.cell? ⟨gb372,5,none⟩=some (.slice none 0 0):=(blk_cell BK372.out 5).trans rfl;have hcz170_6:w169.cell? ⟨gb372,6,none⟩=some (.slice none 0 0):=(blk_cell BK372.out 6).trans rfl;have hfz170_0:=blk_frozen BK372.out 0;have hfz170_1:=blk_frozen BK372.out 1;have hfz170_2:=blk_frozen BK372.out 2;have hfz170_3:=blk_frozen BK372.out 3;have hfz170_4:=blk_frozen BK372.out 4;have hfz170_5:=blk_frozen BK372.out 5;have hfz170_6:=blk_frozen BK372.out 6))
  refine bodyPost_ret (results_ct rfl _ _ gb372 25 #[.int .i64 0,.int .i64 0,.int .i64 0,.string (⟨#[]⟩:ByteArray),.slice none 0 0,.slice none 0 0,.slice none 0 0] (0,0) _ rfl (by (with_reducible repeat (first|refine blk_drewN ?_ _|refine blk_drew ?_|refine blk_alloc ?_ _));refine blk_put (cs:=#[.int .i64 0,.int .i64 0,.int .i64 0,.string (⟨#[]⟩:ByteArray),.slice none 0 0,.slice none 0 0,.slice none 0 0]) ?_ 6 _ rfl;(with_reducible repeat (first|refine blk_drewN ?_ _|refine blk_drew ?_|refine blk_alloc ?_ _));refine blk_put (cs:=#[.int .i64 0,.int .i64 0,.int .i64 0,.string (⟨#[]⟩:ByteArray),.slice none 0 0,.slice none 0 0,.slice none 0 0]) ?_ 5 _ rfl;(with_reducible repeat (first|refine blk_drewN ?_ _|refine blk_drew ?_|refine blk_alloc ?_ _));refine blk_put (cs:=#[.int .i64 0,.int .i64 0,.int .i64 0,.string (⟨#[]⟩:ByteArray),.slice none 0 0,.slice none 0 0,.slice none 0 0]) ?_ 4 _ rfl;(with_reducible repeat (first|refine blk_drewN ?_ _|refine blk_drew ?_|refine blk_alloc ?_ _));refine blk_put (cs:=#[.int .i64 0,.int .i64 0,.int .i64 0,.string (⟨#[]⟩:ByteArray),.slice none 0 0,.slice none 0 0,.slice none 0 0]) ?_ 3 _ rfl;(with_reducible repeat (first|refine blk_drewN ?_ _|refine blk_drew ?_|refine blk_alloc ?_ _));refine blk_put (cs:=#[.int .i64 0,.int .i64 0,.int .i64 0,.string (⟨#[]⟩:ByteArray),.slice none 0 0,.slice none 0 0,.slice none 0 0]) ?_ 2 _ rfl;(with_reducible repeat (first|refine blk_drewN ?_ _|refine blk_drew ?_|refine blk_alloc ?_ _));refine blk_put (cs:=#[.int .i64 0,.int .i64 0,.int .i64 0,.string (⟨#[]⟩:ByteArray),.slice none 0 0,.slice none 0 0,.slice none 0 0]) ?_ 1 _ rfl;(with_reducible repeat (first|refine blk_drewN ?_ _|refine blk_drew ?_|refine blk_alloc ?_ _));refine blk_put (cs:=#[.int .i64 0,.int .i64 0,.int .i64 0,.string (⟨#[]⟩:ByteArray),.slice none 0 0,.slice none 0 0,.slice none 0 0]) ?_ 0 _ rfl;(with_reducible repeat (first|refine blk_drewN ?_ _|refine blk_drew ?_|refine blk_alloc ?_ _));exact BK372.out) Try.underlying25 rfl (by kernel_rfl)) rfl ?_
  exact ⟨_,_,_,by first|rfl|(simp [errW_none,errW_some] <;> rfl)|(simp [*,errW_none,errW_some] <;> rfl),by first|exact Kd.R_nil _ _ _ _ _|exact Kd.N_nil _ _ _ _ _|exact Kd.V_nil _ _ _ _ _|exact Kd.Q_nil _ _ _ _ _|exact Kd.S_nil _ _ _ _ _,by first|exact Kd.R_nil _ _ _ _ _|exact Kd.N_nil _ _ _ _ _|exact Kd.V_nil _ _ _ _ _|exact Kd.Q_nil _ _ _ _ _|exact Kd.S_nil _ _ _ _ _,by first|exact Kd.R_nil _ _ _ _ _|exact Kd.N_nil _ _ _ _ _|exact Kd.V_nil _ _ _ _ _|exact Kd.Q_nil _ _ _ _ _|exact Kd.S_nil _ _ _ _ _,by repeat (first|(with_reducible first|exact HB.out|apply below_alloc|apply pw_below_drewN|apply below_drew1|refine below_set ?_ GE371.out|refine below_set ?_ GE372.out)|exact HB.out)⟩
end Go.Proofs.Ytcocmpblmkdmjaa.Pr
