-- A part of the text Prx9, thinned by a program of this session.
import Derived.Test.YtcocmpblmkdmjaaTNodeHalvesPrx0
import Derived.Test.YtcocmpblmkdmjaaTNodeHalvesPrx1
import Derived.Test.YtcocmpblmkdmjaaTNodeHalvesPrx2
import Derived.Test.YtcocmpblmkdmjaaTNodeHalvesPrx8
namespace Go.Proofs.Ytcocmpblmkdmjaa.Pr
open Go.RowKit Go.Proofs.YtcocmpblmkdmjaaW.PrintWords Go.Proofs.YtcocmpblmkdmjaaW.PrintLast Go.Proofs.YtcocmpblmkdmjaaW.PrintMore
attribute [local go_sem] max2_int min2_int max_two min_two max_three min_three max_four min_four
set_option linter.unusedVariables false
set_option linter.unusedSimpArgs false
mutual
def node_asked.j0:Nat→ByteArray→Int→Bool→Int→Int→Int→ByteArray→List ByteArray→List ByteArray→List Int→Option (Int)
 | 0,_,_,_,_,_,_,_,_,_,_=>none
 | k+1,x1,x4,x33,x167000,x167001,x167002,x167003,x167004,x167005,x167006=>if x33=true then (some 1) else (if x4=0 then (node_asked.j1 k x1 x4 (decide (x167000 > 0)) x167000 x167001 x167002 x167003 x167004 x167005 x167006) else (node_asked.j1 k x1 x4 false x167000 x167001 x167002 x167003 x167004 x167005 x167006))
def node_asked.j1:Nat→ByteArray→Int→Bool→Int→Int→Int→ByteArray→List ByteArray→List ByteArray→List Int→Option (Int)
 | 0,_,_,_,_,_,_,_,_,_,_=>none
 | k+1,x1,x4,x34,x167000,x167001,x167002,x167003,x167004,x167005,x167006=>if x34=true then (some 7) else (if x4=1 then (node_asked.j2 k x1 (x167000==0) x167000 x167001 x167002 x167003 x167004 x167005 x167006) else (node_asked.j2 k x1 false x167000 x167001 x167002 x167003 x167004 x167005 x167006))
def node_asked.j2:Nat→ByteArray→Bool→Int→Int→Int→ByteArray→List ByteArray→List ByteArray→List Int→Option (Int)
 | 0,_,_,_,_,_,_,_,_,_=>none
 | k+1,x1,x42,x167000,x167001,x167002,x167003,x167004,x167005,x167006=>if x42=true then (some 7) else ((node_Further.f x167000 x167001 x167002 x167003 x167004 x167005 x167006 x1).bind fun t170=>(if t170=true then (some 71) else (some 0)))
end
def node_asked.f (k:Nat) (a0_0:Int) (a0_1:Int) (a0_2:Int) (a0_3:ByteArray) (l0_4:List ByteArray) (l0_5:List ByteArray) (l0_6:List Int) (a1:ByteArray) (a2:ByteArray) (a3:Int) (a4:Int):Option (Int):=(page_Check.f k a0_0 a0_1 a0_2 a0_3 l0_4 l0_5 l0_6).bind fun t167=>(if t167=0 then ((key_Check.f a1).bind fun t168=>(if t168=0 then ((key_Value.f a2).bind fun t169=>(if t169=0 then (if a3 < 1 then (node_asked.j0 k a1 a4 true a0_0 a0_1 a0_2 a0_3 l0_4 l0_5 l0_6) else (node_asked.j0 k a1 a4 (decide (a3 > 4096)) a0_0 a0_1 a0_2 a0_3 l0_4 l0_5 l0_6)) else (some t169))) else (some t168))) else (some 70))
set_option maxHeartbeats 8000000 in
set_option maxRecDepth 100000 in
theorem node_asked.calls (k:Nat) (a0_0:Int) (a0_1:Int) (a0_2:Int) (a0_3:ByteArray) (A0_4:Option Addr) (c0_4:Nat) (l0_4:List ByteArray) (A0_5:Option Addr) (c0_5:Nat) (l0_5:List ByteArray) (A0_6:Option Addr) (c0_6:Nat) (l0_6:List Int) (a1:ByteArray) (a2:ByteArray) (a3:Int) (a4:Int) (r:Int) (w:World) (hr0_4:Kd.C Kd.string w A0_4 l0_4.length l0_4) (hc0_4:l0_4.length≤c0_4) (hr0_5:Kd.C Kd.string w A0_5 l0_5.length l0_5) (hc0_5:l0_5.length≤c0_5) (hr0_6:Kd.C (Kd.int .i64) w A0_6 l0_6.length l0_6) (hc0_6:l0_6.length≤c0_6) (h:node_asked.f k a0_0 a0_1 a0_2 a0_3 l0_4 l0_5 l0_6 a1 a2 a3 a4=some r) :
  Calls Try.prog 44 #[.agg #[.int .i64 a0_0,.int .i64 a0_1,.int .i64 a0_2,.string a0_3,.slice A0_4 l0_4.length c0_4,.slice A0_5 l0_5.length c0_5,.slice A0_6 l0_6.length c0_6],.string a1,.string a2,.int .i64 a3,.int .i64 a4] w fun e w'=>e=.returned (.int .i64 r)∧Below w.heap.size w w':=by
 have hu25:=Try.underlying25
 have HR0_4:=Aside0.mk hr0_4
 have HC0_4:=Aside0.mk hc0_4
 clear hr0_4 hc0_4
 have HR0_5:=Aside0.mk hr0_5
 have HC0_5:=Aside0.mk hc0_5
 clear hr0_5 hc0_5
 have HR0_6:=Aside0.mk hr0_6
 have HC0_6:=Aside0.mk hc0_6
 clear hr0_6 hc0_6
 have HB:=Aside0.mk (Below.refl w.heap.size w)
 have H:((page_Check.f k a0_0 a0_1 a0_2 a0_3 l0_4 l0_5 l0_6).bind fun t167=>(if t167=0 then ((key_Check.f a1).bind fun t168=>(if t168=0 then ((key_Value.f a2).bind fun t169=>(if t169=0 then (if a3 < 1 then (node_asked.j0 k a1 a4 true a0_0 a0_1 a0_2 a0_3 l0_4 l0_5 l0_6) else (node_asked.j0 k a1 a4 (decide (a3 > 4096)) a0_0 a0_1 a0_2 a0_3 l0_4 l0_5 l0_6)) else (some t169))) else (some t168))) else (some 70)))=some r:=h
 clear h
 replace H:=Option.bind_eq_some_iff.mp H
 obtain ⟨t167,A60,H⟩:=H
 try dsimp only at H
 have A6:=Aside0.mk A60
 clear A60
 by_cases c7:t167=0
 ·rw [if_pos c7] at H
  have c7b0:(t167==0)=true:=beq_iff_eq.mpr c7
  have c7b1:(t167 != 0)=false:=bne_eq_false_iff_eq.mpr c7
  clear c7
  replace H:=Option.bind_eq_some_iff.mp H
  obtain ⟨t168,A80,H⟩:=H
  try dsimp only at H
  have A8:=Aside0.mk A80
  clear A80
  by_cases c9:t168=0
  ·rw [if_pos c9] at H
   have c9b0:(t168==0)=true:=beq_iff_eq.mpr c9
   have c9b1:(t168 != 0)=false:=bne_eq_false_iff_eq.mpr c9
   clear c9
   replace H:=Option.bind_eq_some_iff.mp H
   obtain ⟨t169,A100,H⟩:=H
   try dsimp only at H
   have A10:=Aside0.mk A100
   clear A100
   by_cases c11:t169=0
   ·rw [if_pos c11] at H
    have c11b0:(t169==0)=true:=beq_iff_eq.mpr c11
    have c11b1:(t169 != 0)=false:=bne_eq_false_iff_eq.mpr c11
    clear c11
    have HC12:=Aside0.mk H
    clear H
    go_enter Try.func44,Try.ntmps44
    go_upto_region 10 with (first|((with_reducible refine gate_dst (N:=5) rfl ?_);refine box_event ?hg (N:=5) ?hd (cs:=#[.int .i64 a0_0,.int .i64 a0_1,.int .i64 a0_2,.string a0_3,.slice A0_4 l0_4.length c0_4,.slice A0_5 l0_5.length c0_5,.slice A0_6 l0_6.length c0_6]) (t:=25) ?hr ?_;(case hd=>rfl);(case hg=>rfl);(case hr=>first|(go_simp;done)|(go_simp;rfl));intro gb166 hg w13 hbox hb;have n0_:=Aside0.mk (below_step (by repeat (first|(with_reducible first|exact HB.out|apply below_alloc|apply pw_below_drewN|apply below_drew1)|exact HB.out)) hb);have n1_:=Aside0.mk (hbox);have n2_:=Aside0.mk ((by rw [hg];exact (below_size (by repeat (first|(with_reducible first|exact HB.out|apply below_alloc|apply pw_below_drewN|apply below_drew1)|exact HB.out))):w.heap.size≤gb166));have n3_:=Aside0.mk ((by rw [hg];exact (below_size (by repeat (first|(with_reducible first|exact HB.out|apply below_alloc|apply pw_below_drewN|apply below_drew1)|exact HB.out))):w.heap.size≤gb166));clear HB;have HB:=n0_;have BK166:=n1_;have GW166:=n2_;have GE166:=n3_;clear n0_ n1_ n2_ n3_;clear hb hbox hg;have hcz14_0:w13.cell? ⟨gb166,0,none⟩=some (.int .i64 a0_0):=(blk_cell BK166.out 0).trans rfl;have hcz14_1:w13.cell? ⟨gb166,1,none⟩=some (.int .i64 a0_1):=(blk_cell BK166.out 1).trans rfl;have hcz14_2:w13.cell? ⟨gb166,2,none⟩=some (.int .i64 a0_2):=(blk_cell BK166.out 2).trans rfl;have hcz14_3:w13.cell? ⟨gb166,3,none⟩=some (.string a0_3):=(blk_cell BK166.out 3).trans rfl;have hcz14_4:w13.cell? ⟨gb166,4,none⟩=some (.slice A0_4 l0_4.length c0_4):=(blk_cell BK166.out 4).trans rfl;have hcz14_5:w13.cell? ⟨gb166,5,none⟩=some (.slice A0_5 l0_5.length c0_5):=(blk_cell BK166.out 5).trans rfl;have hcz14_6:w13.cell? ⟨gb166,6,none⟩=some (.slice A0_6 l0_6.length c0_6):=(blk_cell BK166.out 6).trans rfl;have hfz14_0:=blk_frozen BK166.out 0;have hfz14_1:=blk_frozen BK166.out 1;have hfz14_2:=blk_frozen BK166.out 2;have hfz14_3:=blk_frozen BK166.out 3;have hfz14_4:=blk_frozen BK166.out 4;have hfz14_5:=blk_frozen BK166.out 5;have hfz14_6:=blk_frozen BK166.out 6)|((with_reducible refine gate_callee (f:=32) rfl ?_);refine goesL_ (some 15) rfl rfl Try.func32 (by kernel_rfl) rfl #[.agg #[.int .i64 a0_0,.int .i64 a0_1,.int .i64 a0_2,.string a0_3,.slice A0_4 l0_4.length c0_4,.slice A0_5 l0_5.length c0_5,.slice A0_6 l0_6.length c0_6]] rfl (by (try simp only [List.map_toArray,List.map_cons,List.map_nil]);first|done|rfl|(simp only [List.length_drop,List.length_take];rfl)) ?_;(with_reducible refine (page_Check.calls k a0_0 a0_1 a0_2 a0_3 _ _ l0_4 _ _ l0_5 _ _ l0_6 t167 _ ?side1 ?side2 ?side3 ?side4 ?side5 ?side6 A6.out).mono ?_);(case side1=>repeat (first|exact (Kd.C_below HR0_4.out HB.out)|(with_reducible refine Kd.C_alloc ?_ _)|(with_reducible refine Kd.C_drewN ?_ _)|(with_reducible refine Kd.C_drew ?_)));(case side2=>exact HC0_4.out);(case side3=>repeat (first|exact (Kd.C_below HR0_5.out HB.out)|(with_reducible refine Kd.C_alloc ?_ _)|(with_reducible refine Kd.C_drewN ?_ _)|(with_reducible refine Kd.C_drew ?_)));(case side4=>exact HC0_5.out);(case side5=>repeat (first|exact (Kd.C_below HR0_6.out HB.out)|(with_reducible refine Kd.C_alloc ?_ _)|(with_reducible refine Kd.C_drewN ?_ _)|(with_reducible refine Kd.C_drew ?_)));(case side6=>exact HC0_6.out);rintro e w15 ⟨rfl,hb⟩;refine ⟨_,rfl,?_⟩;have n0_:=Aside0.mk (blk_below (g:=gb166) (o:=.cells #[.int .i64 a0_0,.int .i64 a0_1,.int .i64 a0_2,.string a0_3,.slice A0_4 l0_4.length c0_4,.slice A0_5 l0_5.length c0_5,.slice A0_6 l0_6.length c0_6] 25 (0,0)) (by (with_reducible repeat (first|refine blk_drewN ?_ _|refine blk_drew ?_|refine blk_alloc ?_ _));exact BK166.out) hb);have n1_:=Aside0.mk (below_step (by repeat (first|(with_reducible first|exact HB.out|apply below_alloc|apply pw_below_drewN|apply below_drew1|refine below_set ?_ GE166.out)|exact HB.out)) hb);clear BK166;clear HB;have BK166:=n0_;have HB:=n1_;clear n0_ n1_;(try clear hb);(try clear hb2);(try clear hk);(try clear hi))|((with_reducible refine gate_callee (f:=54) rfl ?_);refine goesL_ (some 19) rfl rfl Try.func54 (by kernel_rfl) rfl #[.string a1] rfl (by (try simp only [List.map_toArray,List.map_cons,List.map_nil]);first|done|rfl|(simp only [List.length_drop,List.length_take];rfl)) ?_;(with_reducible refine (key_Check.calls a1 t168 _ A8.out).mono ?_);rintro e w' ⟨rfl,⟨nd,rfl⟩⟩;refine ⟨_,rfl,?_⟩)|((with_reducible refine gate_callee (f:=60) rfl ?_);refine goesL_ (some 24) rfl rfl Try.func60 (by kernel_rfl) rfl #[.string a2] rfl (by (try simp only [List.map_toArray,List.map_cons,List.map_nil]);first|done|rfl|(simp only [List.length_drop,List.length_take];rfl)) ?_;(with_reducible refine (key_Value.calls a2 t169 _ A10.out).mono ?_);rintro e w' ⟨rfl,⟨nd,rfl⟩⟩;refine ⟨_,rfl,?_⟩))
    (try simp only [Act.put,List.setIfInBounds_toArray,List.set_cons_zero,List.set_cons_succ])
    go_cut [33] (fun v33 wc=>∃ (kq:Nat) (x33_11:Bool),v33=.bool x33_11∧Aside0 (node_asked.j0 kq a1 a4 x33_11 a0_0 a0_1 a0_2 a0_3 l0_4 l0_5 l0_6=some r)∧Aside0 (kq≤k)∧Aside0 (wc.heap[gb166]?=some (.cells #[.int .i64 a0_0,.int .i64 a0_1,.int .i64 a0_2,.string a0_3,(.slice A0_4 l0_4.length c0_4),(.slice A0_5 l0_5.length c0_5),(.slice A0_6 l0_6.length c0_6)] 25 (0,0)))∧Aside0 (Below w.heap.size w wc))
    case first =>
     have H:=HC12.out
     clear HC12
     by_cases c16:a3 < 1
     ·rw [if_pos c16] at H
      have c16b0:decide (a3 < 1)=true:=decide_eq_true c16
      clear c16
      (first|rw [c16b0]|(simp only [i64_w,i32_w];rw [c16b0])|skip)
      have H':=Aside0.mk H
      clear H
      go_wp2
      go_meet
      case rel=>exact ⟨_,(true),(by first|rfl|(simp;done)|(simp [*];done)),H',⟨by first|omega|exact Nat.le_refl _⟩,⟨by (with_reducible repeat (first|refine blk_drewN ?_ _|refine blk_drew ?_|refine blk_alloc ?_ _));exact BK166.out⟩,⟨by repeat (first|(with_reducible first|exact HB.out|apply below_alloc|apply pw_below_drewN|apply below_drew1|refine below_set ?_ GE166.out)|exact HB.out)⟩⟩
     ·rw [if_neg c16] at H
      have c16b0:decide (a3 < 1)=false:=decide_eq_false c16
      clear c16
      (first|rw [c16b0]|(simp only [i64_w,i32_w];rw [c16b0])|skip)
      have H':=Aside0.mk H
      clear H
      go_wp2
      go_meet
      case rel=>exact ⟨_,(decide (a3 > 4096)),(by first|rfl|(simp;done)|(simp [*];done)),H',⟨by first|omega|exact Nat.le_refl _⟩,⟨by (with_reducible repeat (first|refine blk_drewN ?_ _|refine blk_drew ?_|refine blk_alloc ?_ _));exact BK166.out⟩,⟨by repeat (first|(with_reducible first|exact HB.out|apply below_alloc|apply pw_below_drewN|apply below_drew1|refine below_set ?_ GE166.out)|exact HB.out)⟩⟩
    case rest =>
     clear HC12
     try clear c1
     try clear p2
     try clear c3
     try clear c4
     try clear c5
     try clear c6
     try clear c7
     try clear c7b0
     try clear c7b1
     try clear c9
     try clear c9b0
     try clear c9b1
     try clear c11
     try clear c11b0
     try clear c11b1
     try clear c16
     try clear c16b0
     try clear hcz14_0
     try clear hcz14_1
     try clear hcz14_2
     try clear hcz14_3
     try clear hcz14_4
     try clear hcz14_5
     try clear hcz14_6
     try clear hfz14_0
     try clear hfz14_1
     try clear hfz14_2
     try clear hfz14_3
     try clear hfz14_4
     try clear hfz14_5
     try clear hfz14_6
     obtain ⟨kq,x33_11,rfl,HA,HJ11,BK166,HB⟩:=hcut
     cases kq with
     | zero=>exact absurd HA.out (by simp [node_asked.j0])
     | succ kj11 =>
      have H:=HA.out
      clear HA
      simp only [node_asked.j0] at H
      by_cases c17:x33_11=true
      ·subst c17
       have H1:(some 1)=some r:=by rw [if_pos rfl] at H;exact H
       clear H
       have H:=H1
       clear H1
       obtain rfl:=Option.some.inj H
       go_wp2
       go_ret
       exact ⟨by first|rfl|(simp [errW_none,errW_some] <;> rfl)|(simp [*,errW_none,errW_some] <;> rfl),by repeat (first|(with_reducible first|exact HB.out|apply below_alloc|apply pw_below_drewN|apply below_drew1|refine below_set ?_ GE166.out)|exact HB.out)⟩
      ·replace c17:=Bool.eq_false_iff.mpr c17
       subst c17
       have H1:(if a4=0 then (node_asked.j1 kj11 a1 a4 (decide (a0_0 > 0)) a0_0 a0_1 a0_2 a0_3 l0_4 l0_5 l0_6) else (node_asked.j1 kj11 a1 a4 false a0_0 a0_1 a0_2 a0_3 l0_4 l0_5 l0_6))=some r:=by rw [if_neg (show ¬ (false=true) by decide)] at H;exact H
       clear H
       have H:=H1
       clear H1
       have HC18:=Aside0.mk H
       clear H
       go_upto_region 12 with (fail)
       go_cut [34] (fun v34 wc=>∃ (kq:Nat) (x34_17:Bool),v34=.bool x34_17∧Aside0 (node_asked.j1 kq a1 a4 x34_17 a0_0 a0_1 a0_2 a0_3 l0_4 l0_5 l0_6=some r)∧Aside0 (kq≤kj11)∧Aside0 (wc.heap[gb166]?=some (.cells #[.int .i64 a0_0,.int .i64 a0_1,.int .i64 a0_2,.string a0_3,(.slice A0_4 l0_4.length c0_4),(.slice A0_5 l0_5.length c0_5),(.slice A0_6 l0_6.length c0_6)] 25 (0,0)))∧Aside0 (Below w.heap.size w wc))
       case first =>
        have H:=HC18.out
        clear HC18
        by_cases c19:a4=0
        ·rw [if_pos c19] at H
         have c19b0:(a4==0)=true:=beq_iff_eq.mpr c19
         have c19b1:(a4 != 0)=false:=bne_eq_false_iff_eq.mpr c19
         clear c19
         (first|rw [c19b0]|(simp only [i64_w,i32_w];rw [c19b0])|skip)
         have H':=Aside0.mk H
         clear H
         have hcz20_0:wc.cell? ⟨gb166,0,none⟩=some (.int .i64 a0_0):=(blk_cell BK166.out 0).trans rfl
         have hcz20_1:wc.cell? ⟨gb166,1,none⟩=some (.int .i64 a0_1):=(blk_cell BK166.out 1).trans rfl
         have hcz20_2:wc.cell? ⟨gb166,2,none⟩=some (.int .i64 a0_2):=(blk_cell BK166.out 2).trans rfl
         have hcz20_3:wc.cell? ⟨gb166,3,none⟩=some (.string a0_3):=(blk_cell BK166.out 3).trans rfl
         have hcz20_4:wc.cell? ⟨gb166,4,none⟩=some (.slice A0_4 l0_4.length c0_4):=(blk_cell BK166.out 4).trans rfl
         have hcz20_5:wc.cell? ⟨gb166,5,none⟩=some (.slice A0_5 l0_5.length c0_5):=(blk_cell BK166.out 5).trans rfl
         have hcz20_6:wc.cell? ⟨gb166,6,none⟩=some (.slice A0_6 l0_6.length c0_6):=(blk_cell BK166.out 6).trans rfl
         have hfz20_0:=blk_frozen BK166.out 0
         have hfz20_1:=blk_frozen BK166.out 1
         have hfz20_2:=blk_frozen BK166.out 2
         have hfz20_3:=blk_frozen BK166.out 3
         have hfz20_4:=blk_frozen BK166.out 4
         have hfz20_5:=blk_frozen BK166.out 5
         have hfz20_6:=blk_frozen BK166.out 6
         go_wp2
         go_meet
         case rel=>exact ⟨_,(decide (a0_0 > 0)),(by first|rfl|(simp;done)|(simp [*];done)),H',⟨by have:=HJ11.out;first|omega|exact Nat.le_refl _⟩,⟨by (with_reducible repeat (first|refine blk_drewN ?_ _|refine blk_drew ?_|refine blk_alloc ?_ _));exact BK166.out⟩,⟨by repeat (first|(with_reducible first|exact HB.out|apply below_alloc|apply pw_below_drewN|apply below_drew1|refine below_set ?_ GE166.out)|exact HB.out)⟩⟩
        ·rw [if_neg c19] at H
         have c19b0:(a4==0)=false:=beq_eq_false_iff_ne.mpr c19
         have c19b1:(a4 != 0)=true:=bne_iff_ne.mpr c19
         (first|rw [c19b0]|(simp only [i64_w,i32_w];rw [c19b0])|skip)
         have H':=Aside0.mk H
         clear H
         go_wp2
         go_meet
         case rel=>exact ⟨_,(false),(by first|rfl|(simp;done)|(simp [*];done)),H',⟨by have:=HJ11.out;first|omega|exact Nat.le_refl _⟩,⟨by (with_reducible repeat (first|refine blk_drewN ?_ _|refine blk_drew ?_|refine blk_alloc ?_ _));exact BK166.out⟩,⟨by repeat (first|(with_reducible first|exact HB.out|apply below_alloc|apply pw_below_drewN|apply below_drew1|refine below_set ?_ GE166.out)|exact HB.out)⟩⟩
       case rest =>
        clear HC18
        try clear c1
        try clear p2
        try clear c3
        try clear c4
        try clear c5
        try clear c6
        try clear c7
        try clear c7b0
        try clear c7b1
        try clear c9
        try clear c9b0
        try clear c9b1
        try clear c11
        try clear c11b0
        try clear c11b1
        try clear c16
        try clear c16b0
        try clear c17
        try clear c19
        try clear c19b0
        try clear c19b1
        try clear hcz14_0
        try clear hcz14_1
        try clear hcz14_2
        try clear hcz14_3
        try clear hcz14_4
        try clear hcz14_5
        try clear hcz14_6
        try clear hcz20_0
        try clear hcz20_1
        try clear hcz20_2
        try clear hcz20_3
        try clear hcz20_4
        try clear hcz20_5
        try clear hcz20_6
        try clear hfz14_0
        try clear hfz14_1
        try clear hfz14_2
        try clear hfz14_3
        try clear hfz14_4
        try clear hfz14_5
        try clear hfz14_6
        try clear hfz20_0
        try clear hfz20_1
        try clear hfz20_2
        try clear hfz20_3
        try clear hfz20_4
        try clear hfz20_5
        try clear hfz20_6
        try clear p2
        obtain ⟨kq,x34_17,rfl,HA,HJ17,BK166,HB⟩:=hcut
        cases kq with
        | zero=>exact absurd HA.out (by simp [node_asked.j1])
        | succ kj17 =>
         have H:=HA.out
         clear HA
         simp only [node_asked.j1] at H
         by_cases c21:x34_17=true
         ·subst c21
          have H1:(some 7)=some r:=by rw [if_pos rfl] at H;exact H
          clear H
          have H:=H1
          clear H1
          obtain rfl:=Option.some.inj H
          go_wp2
          go_ret
          exact ⟨by first|rfl|(simp [errW_none,errW_some] <;> rfl)|(simp [*,errW_none,errW_some] <;> rfl),by repeat (first|(with_reducible first|exact HB.out|apply below_alloc|apply pw_below_drewN|apply below_drew1|refine below_set ?_ GE166.out)|exact HB.out)⟩
         ·replace c21:=Bool.eq_false_iff.mpr c21
          subst c21
          have H1:(if a4=1 then (node_asked.j2 kj17 a1 (a0_0==0) a0_0 a0_1 a0_2 a0_3 l0_4 l0_5 l0_6) else (node_asked.j2 kj17 a1 false a0_0 a0_1 a0_2 a0_3 l0_4 l0_5 l0_6))=some r:=by rw [if_neg (show ¬ (false=true) by decide)] at H;exact H
          clear H
          have H:=H1
          clear H1
          have HC22:=Aside0.mk H
          clear H
          go_upto_region 13 with (fail)
          go_cut [42] (fun v42 wc=>∃ (kq:Nat) (x42_21:Bool),v42=.bool x42_21∧Aside0 (node_asked.j2 kq a1 x42_21 a0_0 a0_1 a0_2 a0_3 l0_4 l0_5 l0_6=some r)∧Aside0 (kq≤kj17)∧Aside0 (wc.heap[gb166]?=some (.cells #[.int .i64 a0_0,.int .i64 a0_1,.int .i64 a0_2,.string a0_3,(.slice A0_4 l0_4.length c0_4),(.slice A0_5 l0_5.length c0_5),(.slice A0_6 l0_6.length c0_6)] 25 (0,0)))∧Aside0 (Below w.heap.size w wc))
          case first =>
           have H:=HC22.out
           clear HC22
           by_cases c23:a4=1
           ·rw [if_pos c23] at H
            have c23b0:(a4==1)=true:=beq_iff_eq.mpr c23
            have c23b1:(a4 != 1)=false:=bne_eq_false_iff_eq.mpr c23
            clear c23
            (first|rw [c23b0]|(simp only [i64_w,i32_w];rw [c23b0])|skip)
            have H':=Aside0.mk H
            clear H
            have hcz24_0:wc.cell? ⟨gb166,0,none⟩=some (.int .i64 a0_0):=(blk_cell BK166.out 0).trans rfl
            have hcz24_1:wc.cell? ⟨gb166,1,none⟩=some (.int .i64 a0_1):=(blk_cell BK166.out 1).trans rfl
            have hcz24_2:wc.cell? ⟨gb166,2,none⟩=some (.int .i64 a0_2):=(blk_cell BK166.out 2).trans rfl
            have hcz24_3:wc.cell? ⟨gb166,3,none⟩=some (.string a0_3):=(blk_cell BK166.out 3).trans rfl
            have hcz24_4:wc.cell? ⟨gb166,4,none⟩=some (.slice A0_4 l0_4.length c0_4):=(blk_cell BK166.out 4).trans rfl
            have hcz24_5:wc.cell? ⟨gb166,5,none⟩=some (.slice A0_5 l0_5.length c0_5):=(blk_cell BK166.out 5).trans rfl
            have hcz24_6:wc.cell? ⟨gb166,6,none⟩=some (.slice A0_6 l0_6.length c0_6):=(blk_cell BK166.out 6).trans rfl
            have hfz24_0:=blk_frozen BK166.out 0
            have hfz24_1:=blk_frozen BK166.out 1
            have hfz24_2:=blk_frozen BK166.out 2
            have hfz24_3:=blk_frozen BK166.out 3
            have hfz24_4:=blk_frozen BK166.out 4
            have hfz24_5:=blk_frozen BK166.out 5
            have hfz24_6:=blk_frozen BK166.out 6
            go_wp2
            go_meet
            case rel=>exact ⟨_,((a0_0==0)),(by first|rfl|(simp;done)|(simp [*];done)),H',⟨by have:=HJ11.out;have:=HJ17.out;first|omega|exact Nat.le_refl _⟩,⟨by (with_reducible repeat (first|refine blk_drewN ?_ _|refine blk_drew ?_|refine blk_alloc ?_ _));exact BK166.out⟩,⟨by repeat (first|(with_reducible first|exact HB.out|apply below_alloc|apply pw_below_drewN|apply below_drew1|refine below_set ?_ GE166.out)|exact HB.out)⟩⟩
           ·rw [if_neg c23] at H
            have c23b0:(a4==1)=false:=beq_eq_false_iff_ne.mpr c23
            have c23b1:(a4 != 1)=true:=bne_iff_ne.mpr c23
            (first|rw [c23b0]|(simp only [i64_w,i32_w];rw [c23b0])|skip)
            have H':=Aside0.mk H
            clear H
            go_wp2
            go_meet
            case rel=>exact ⟨_,(false),(by first|rfl|(simp;done)|(simp [*];done)),H',⟨by have:=HJ11.out;have:=HJ17.out;first|omega|exact Nat.le_refl _⟩,⟨by (with_reducible repeat (first|refine blk_drewN ?_ _|refine blk_drew ?_|refine blk_alloc ?_ _));exact BK166.out⟩,⟨by repeat (first|(with_reducible first|exact HB.out|apply below_alloc|apply pw_below_drewN|apply below_drew1|refine below_set ?_ GE166.out)|exact HB.out)⟩⟩
          case rest =>
           clear HC22
           try clear c1
           try clear c2
           try clear p2
           try clear c3
           try clear c4
           try clear c5
           try clear c6
           try clear c7
           try clear c7b0
           try clear c7b1
           try clear c9
           try clear c9b0
           try clear c9b1
           try clear c11
           try clear c11b0
           try clear c11b1
           try clear c16
           try clear c16b0
           try clear c17
           try clear c19
           try clear c19b0
           try clear c19b1
           try clear c21
           try clear c23
           try clear c23b0
           try clear c23b1
           try clear hcz14_0
           try clear hcz14_1
           try clear hcz14_2
           try clear hcz14_3
           try clear hcz14_4
           try clear hcz14_5
           try clear hcz14_6
           try clear hcz20_0
           try clear hcz20_1
           try clear hcz20_2
           try clear hcz20_3
           try clear hcz20_4
           try clear hcz20_5
           try clear hcz20_6
           try clear hcz24_0
           try clear hcz24_1
           try clear hcz24_2
           try clear hcz24_3
           try clear hcz24_4
           try clear hcz24_5
           try clear hcz24_6
           try clear hfz14_0
           try clear hfz14_1
           try clear hfz14_2
           try clear hfz14_3
           try clear hfz14_4
           try clear hfz14_5
           try clear hfz14_6
           try clear hfz20_0
           try clear hfz20_1
           try clear hfz20_2
           try clear hfz20_3
           try clear hfz20_4
           try clear hfz20_5
           try clear hfz20_6
           try clear hfz24_0
           try clear hfz24_1
           try clear hfz24_2
           try clear hfz24_3
           try clear hfz24_4
           try clear hfz24_5
           try clear hfz24_6
           try clear p2
           obtain ⟨kq,x42_21,rfl,HA,HJ21,BK166,HB⟩:=hcut
           cases kq with
           | zero=>exact absurd HA.out (by simp [node_asked.j2])
           | succ kj21 =>
            have H:=HA.out
            clear HA
            simp only [node_asked.j2] at H
            by_cases c25:x42_21=true
            ·subst c25
             have H1:(some 7)=some r:=by rw [if_pos rfl] at H;exact H
             clear H
             have H:=H1
             clear H1
             obtain rfl:=Option.some.inj H
             go_wp2
             go_ret
             exact ⟨by first|rfl|(simp [errW_none,errW_some] <;> rfl)|(simp [*,errW_none,errW_some] <;> rfl),by repeat (first|(with_reducible first|exact HB.out|apply below_alloc|apply pw_below_drewN|apply below_drew1|refine below_set ?_ GE166.out)|exact HB.out)⟩
            ·replace c25:=Bool.eq_false_iff.mpr c25
             subst c25
             have H1:((node_Further.f a0_0 a0_1 a0_2 a0_3 l0_4 l0_5 l0_6 a1).bind fun t170=>(if t170=true then (some 71) else (some 0)))=some r:=by rw [if_neg (show ¬ (false=true) by decide)] at H;exact H
             clear H
             have H:=H1
             clear H1
             replace H:=Option.bind_eq_some_iff.mp H
             obtain ⟨t170,A260,H⟩:=H
             try dsimp only at H
             have A26:=Aside0.mk A260
             clear A260
             by_cases c27:t170=true
             ·subst c27
              have H1:(some 71)=some r:=by rw [if_pos rfl] at H;exact H
              clear H
              have H:=H1
              clear H1
              obtain rfl:=Option.some.inj H
              have hcz28_0:wc.cell? ⟨gb166,0,none⟩=some (.int .i64 a0_0):=(blk_cell BK166.out 0).trans rfl
              have hcz28_1:wc.cell? ⟨gb166,1,none⟩=some (.int .i64 a0_1):=(blk_cell BK166.out 1).trans rfl
              have hcz28_2:wc.cell? ⟨gb166,2,none⟩=some (.int .i64 a0_2):=(blk_cell BK166.out 2).trans rfl
              have hcz28_3:wc.cell? ⟨gb166,3,none⟩=some (.string a0_3):=(blk_cell BK166.out 3).trans rfl
              have hcz28_4:wc.cell? ⟨gb166,4,none⟩=some (.slice A0_4 l0_4.length c0_4):=(blk_cell BK166.out 4).trans rfl
              have hcz28_5:wc.cell? ⟨gb166,5,none⟩=some (.slice A0_5 l0_5.length c0_5):=(blk_cell BK166.out 5).trans rfl
              have hcz28_6:wc.cell? ⟨gb166,6,none⟩=some (.slice A0_6 l0_6.length c0_6):=(blk_cell BK166.out 6).trans rfl
              have hfz28_0:=blk_frozen BK166.out 0
              have hfz28_1:=blk_frozen BK166.out 1
              have hfz28_2:=blk_frozen BK166.out 2
              have hfz28_3:=blk_frozen BK166.out 3
              have hfz28_4:=blk_frozen BK166.out 4
              have hfz28_5:=blk_frozen BK166.out 5
              have hfz28_6:=blk_frozen BK166.out 6
              go_wp2_with (first|((with_reducible refine gate_callee (f:=22) rfl ?_);refine goesL_ (some 53) rfl rfl Try.func22 (by kernel_rfl) rfl #[.agg #[.int .i64 a0_0,.int .i64 a0_1,.int .i64 a0_2,.string a0_3,.slice A0_4 l0_4.length c0_4,.slice A0_5 l0_5.length c0_5,.slice A0_6 l0_6.length c0_6],.string a1] rfl (by (try simp only [List.map_toArray,List.map_cons,List.map_nil]);first|done|rfl|(simp only [List.length_drop,List.length_take];rfl)) ?_;(with_reducible refine (node_Further.calls a0_0 a0_1 a0_2 a0_3 _ _ l0_4 _ _ l0_5 _ _ l0_6 a1 true _ ?side1 ?side2 ?side3 ?side4 ?side5 ?side6 A26.out).mono ?_);(case side1=>repeat (first|exact (Kd.C_below HR0_4.out HB.out)|(with_reducible refine Kd.C_alloc ?_ _)|(with_reducible refine Kd.C_drewN ?_ _)|(with_reducible refine Kd.C_drew ?_)));(case side2=>exact HC0_4.out);(case side3=>repeat (first|exact (Kd.C_below HR0_5.out HB.out)|(with_reducible refine Kd.C_alloc ?_ _)|(with_reducible refine Kd.C_drewN ?_ _)|(with_reducible refine Kd.C_drew ?_)));(case side4=>exact HC0_5.out);(case side5=>repeat (first|exact (Kd.C_below HR0_6.out HB.out)|(with_reducible refine Kd.C_alloc ?_ _)|(with_reducible refine Kd.C_drewN ?_ _)|(with_reducible refine Kd.C_drew ?_)));(case side6=>exact HC0_6.out);rintro e w29 ⟨rfl,hb⟩;refine ⟨_,rfl,?_⟩;have n0_:=Aside0.mk (blk_below (g:=gb166) (o:=.cells #[.int .i64 a0_0,.int .i64 a0_1,.int .i64 a0_2,.string a0_3,.slice A0_4 l0_4.length c0_4,.slice A0_5 l0_5.length c0_5,.slice A0_6 l0_6.length c0_6] 25 (0,0)) (by (with_reducible repeat (first|refine blk_drewN ?_ _|refine blk_drew ?_|refine blk_alloc ?_ _));exact BK166.out) hb);have n1_:=Aside0.mk (below_step (by repeat (first|(with_reducible first|exact HB.out|apply below_alloc|apply pw_below_drewN|apply below_drew1|refine below_set ?_ GE166.out)|exact HB.out)) hb);clear BK166;clear HB;have BK166:=n0_;have HB:=n1_;clear n0_ n1_;(try clear hb);(try clear hb2);(try clear hk);(try clear hi)))
              go_ret
              exact ⟨by first|rfl|(simp [errW_none,errW_some] <;> rfl)|(simp [*,errW_none,errW_some] <;> rfl),by repeat (first|(with_reducible first|exact HB.out|apply below_alloc|apply pw_below_drewN|apply below_drew1|refine below_set ?_ GE166.out)|exact HB.out)⟩
             ·replace c27:=Bool.eq_false_iff.mpr c27
              subst c27
              have H1:(some 0)=some r:=by rw [if_neg (show ¬ (false=true) by decide)] at H;exact H
              clear H
              have H:=H1
              clear H1
              obtain rfl:=Option.some.inj H
              have hcz30_0:wc.cell? ⟨gb166,0,none⟩=some (.int .i64 a0_0):=(blk_cell BK166.out 0).trans rfl
              have hcz30_1:wc.cell? ⟨gb166,1,none⟩=some (.int .i64 a0_1):=(blk_cell BK166.out 1).trans rfl
              have hcz30_2:wc.cell? ⟨gb166,2,none⟩=some (.int .i64 a0_2):=(blk_cell BK166.out 2).trans rfl
              have hcz30_3:wc.cell? ⟨gb166,3,none⟩=some (.string a0_3):=(blk_cell BK166.out 3).trans rfl
              have hcz30_4:wc.cell? ⟨gb166,4,none⟩=some (.slice A0_4 l0_4.length c0_4):=(blk_cell BK166.out 4).trans rfl
              have hcz30_5:wc.cell? ⟨gb166,5,none⟩=some (.slice A0_5 l0_5.length c0_5):=(blk_cell BK166.out 5).trans rfl
              have hcz30_6:wc.cell? ⟨gb166,6,none⟩=some (.slice A0_6 l0_6.length c0_6):=(blk_cell BK166.out 6).trans rfl
              have hfz30_0:=blk_frozen BK166.out 0
              have hfz30_1:=blk_frozen BK166.out 1
              have hfz30_2:=blk_frozen BK166.out 2
              have hfz30_3:=blk_frozen BK166.out 3
              have hfz30_4:=blk_frozen BK166.out 4
              have hfz30_5:=blk_frozen BK166.out 5
              have hfz30_6:=blk_frozen BK166.out 6
              go_wp2_with (first|((with_reducible refine gate_callee (f:=22) rfl ?_);refine goesL_ (some 53) rfl rfl Try.func22 (by kernel_rfl) rfl #[.agg #[.int .i64 a0_0,.int .i64 a0_1,.int .i64 a0_2,.string a0_3,.slice A0_4 l0_4.length c0_4,.slice A0_5 l0_5.length c0_5,.slice A0_6 l0_6.length c0_6],.string a1] rfl (by (try simp only [List.map_toArray,List.map_cons,List.map_nil]);first|done|rfl|(simp only [List.length_drop,List.length_take];rfl)) ?_;(with_reducible refine (node_Further.calls a0_0 a0_1 a0_2 a0_3 _ _ l0_4 _ _ l0_5 _ _ l0_6 a1 false _ ?side1 ?side2 ?side3 ?side4 ?side5 ?side6 A26.out).mono ?_);(case side1=>repeat (first|exact (Kd.C_below HR0_4.out HB.out)|(with_reducible refine Kd.C_alloc ?_ _)|(with_reducible refine Kd.C_drewN ?_ _)|(with_reducible refine Kd.C_drew ?_)));(case side2=>exact HC0_4.out);(case side3=>repeat (first|exact (Kd.C_below HR0_5.out HB.out)|(with_reducible refine Kd.C_alloc ?_ _)|(with_reducible refine Kd.C_drewN ?_ _)|(with_reducible refine Kd.C_drew ?_)));(case side4=>exact HC0_5.out);(case side5=>repeat (first|exact (Kd.C_below HR0_6.out HB.out)|(with_reducible refine Kd.C_alloc ?_ _)|(with_reducible refine Kd.C_drewN ?_ _)|(with_reducible refine Kd.C_drew ?_)));(case side6=>exact HC0_6.out);rintro e w31 ⟨rfl,hb⟩;refine ⟨_,rfl,?_⟩;have n0_:=Aside0.mk (blk_below (g:=gb166) (o:=.cells #[.int .i64 a0_0,.int .i64 a0_1,.int .i64 a0_2,.string a0_3,.slice A0_4 l0_4.length c0_4,.slice A0_5 l0_5.length c0_5,.slice A0_6 l0_6.length c0_6] 25 (0,0)) (by (with_reducible repeat (first|refine blk_drewN ?_ _|refine blk_drew ?_|refine blk_alloc ?_ _));exact BK166.out) hb);have n1_:=Aside0.mk (below_step (by repeat (first|(with_reducible first|exact HB.out|apply below_alloc|apply pw_below_drewN|apply below_drew1|refine below_set ?_ GE166.out)|exact HB.out)) hb);clear BK166;clear HB;have BK166:=n0_;have HB:=n1_;clear n0_ n1_;(try clear hb);(try clear hb2);(try clear hk);(try clear hi)))
              go_ret
              exact ⟨by first|rfl|(simp [errW_none,errW_some] <;> rfl)|(simp [*,errW_none,errW_some] <;> rfl),by repeat (first|(with_reducible first|exact HB.out|apply below_alloc|apply pw_below_drewN|apply below_drew1|refine below_set ?_ GE166.out)|exact HB.out)⟩
   ·rw [if_neg c11] at H
    have c11b0:(t169==0)=false:=beq_eq_false_iff_ne.mpr c11
    have c11b1:(t169 != 0)=true:=bne_iff_ne.mpr c11
    obtain rfl:=Option.some.inj H
    go_enter Try.func44,Try.ntmps44
    go_wp2_with (first|((with_reducible refine gate_dst (N:=5) rfl ?_);refine box_event ?hg (N:=5) ?hd (cs:=#[.int .i64 a0_0,.int .i64 a0_1,.int .i64 a0_2,.string a0_3,.slice A0_4 l0_4.length c0_4,.slice A0_5 l0_5.length c0_5,.slice A0_6 l0_6.length c0_6]) (t:=25) ?hr ?_;(case hd=>rfl);(case hg=>rfl);(case hr=>first|(go_simp;done)|(go_simp;rfl));intro gb166 hg w32 hbox hb;have n0_:=Aside0.mk (below_step (by repeat (first|(with_reducible first|exact HB.out|apply below_alloc|apply pw_below_drewN|apply below_drew1)|exact HB.out)) hb);have n1_:=Aside0.mk (hbox);have n2_:=Aside0.mk ((by rw [hg];exact (below_size (by repeat (first|(with_reducible first|exact HB.out|apply below_alloc|apply pw_below_drewN|apply below_drew1)|exact HB.out))):w.heap.size≤gb166));have n3_:=Aside0.mk ((by rw [hg];exact (below_size (by repeat (first|(with_reducible first|exact HB.out|apply below_alloc|apply pw_below_drewN|apply below_drew1)|exact HB.out))):w.heap.size≤gb166));clear HB;have HB:=n0_;have BK166:=n1_;have GW166:=n2_;have GE166:=n3_;clear n0_ n1_ n2_ n3_;clear hb hbox hg;have hcz33_0:w32.cell? ⟨gb166,0,none⟩=some (.int .i64 a0_0):=(blk_cell BK166.out 0).trans rfl;have hcz33_1:w32.cell? ⟨gb166,1,none⟩=some (.int .i64 a0_1):=(blk_cell BK166.out 1).trans rfl;have hcz33_2:w32.cell? ⟨gb166,2,none⟩=some (.int .i64 a0_2):=(blk_cell BK166.out 2).trans rfl;have hcz33_3:w32.cell? ⟨gb166,3,none⟩=some (.string a0_3):=(blk_cell BK166.out 3).trans rfl;have hcz33_4:w32.cell? ⟨gb166,4,none⟩=some (.slice A0_4 l0_4.length c0_4):=(blk_cell BK166.out 4).trans rfl;have hcz33_5:w32.cell? ⟨gb166,5,none⟩=some (.slice A0_5 l0_5.length c0_5):=(blk_cell BK166.out 5).trans rfl;have hcz33_6:w32.cell? ⟨gb166,6,none⟩=some (.slice A0_6 l0_6.length c0_6):=(blk_cell BK166.out 6).trans rfl;have hfz33_0:=blk_frozen BK166.out 0;have hfz33_1:=blk_frozen BK166.out 1;have hfz33_2:=blk_frozen BK166.out 2;have hfz33_3:=blk_frozen BK166.out 3;have hfz33_4:=blk_frozen BK166.out 4;have hfz33_5:=blk_frozen BK166.out 5;have hfz33_6:=blk_frozen BK166.out 6)|((with_reducible refine gate_callee (f:=32) rfl ?_);refine goesL_ (some 15) rfl rfl Try.func32 (by kernel_rfl) rfl #[.agg #[.int .i64 a0_0,.int .i64 a0_1,.int .i64 a0_2,.string a0_3,.slice A0_4 l0_4.length c0_4,.slice A0_5 l0_5.length c0_5,.slice A0_6 l0_6.length c0_6]] rfl (by (try simp only [List.map_toArray,List.map_cons,List.map_nil]);first|done|rfl|(simp only [List.length_drop,List.length_take];rfl)) ?_;(with_reducible refine (page_Check.calls k a0_0 a0_1 a0_2 a0_3 _ _ l0_4 _ _ l0_5 _ _ l0_6 t167 _ ?side1 ?side2 ?side3 ?side4 ?side5 ?side6 A6.out).mono ?_);(case side1=>repeat (first|exact (Kd.C_below HR0_4.out HB.out)|(with_reducible refine Kd.C_alloc ?_ _)|(with_reducible refine Kd.C_drewN ?_ _)|(with_reducible refine Kd.C_drew ?_)));(case side2=>exact HC0_4.out);(case side3=>repeat (first|exact (Kd.C_below HR0_5.out HB.out)|(with_reducible refine Kd.C_alloc ?_ _)|(with_reducible refine Kd.C_drewN ?_ _)|(with_reducible refine Kd.C_drew ?_)));(case side4=>exact HC0_5.out);(case side5=>repeat (first|exact (Kd.C_below HR0_6.out HB.out)|(with_reducible refine Kd.C_alloc ?_ _)|(with_reducible refine Kd.C_drewN ?_ _)|(with_reducible refine Kd.C_drew ?_)));(case side6=>exact HC0_6.out);rintro e w34 ⟨rfl,hb⟩;refine ⟨_,rfl,?_⟩;have n0_:=Aside0.mk (blk_below (g:=gb166) (o:=.cells #[.int .i64 a0_0,.int .i64 a0_1,.int .i64 a0_2,.string a0_3,.slice A0_4 l0_4.length c0_4,.slice A0_5 l0_5.length c0_5,.slice A0_6 l0_6.length c0_6] 25 (0,0)) (by (with_reducible repeat (first|refine blk_drewN ?_ _|refine blk_drew ?_|refine blk_alloc ?_ _));exact BK166.out) hb);have n1_:=Aside0.mk (below_step (by repeat (first|(with_reducible first|exact HB.out|apply below_alloc|apply pw_below_drewN|apply below_drew1|refine below_set ?_ GE166.out)|exact HB.out)) hb);clear BK166;clear HB;have BK166:=n0_;have HB:=n1_;clear n0_ n1_;(try clear hb);(try clear hb2);(try clear hk);(try clear hi))|((with_reducible refine gate_callee (f:=54) rfl ?_);refine goesL_ (some 19) rfl rfl Try.func54 (by kernel_rfl) rfl #[.string a1] rfl (by (try simp only [List.map_toArray,List.map_cons,List.map_nil]);first|done|rfl|(simp only [List.length_drop,List.length_take];rfl)) ?_;(with_reducible refine (key_Check.calls a1 t168 _ A8.out).mono ?_);rintro e w' ⟨rfl,⟨nd,rfl⟩⟩;refine ⟨_,rfl,?_⟩)|((with_reducible refine gate_callee (f:=60) rfl ?_);refine goesL_ (some 24) rfl rfl Try.func60 (by kernel_rfl) rfl #[.string a2] rfl (by (try simp only [List.map_toArray,List.map_cons,List.map_nil]);first|done|rfl|(simp only [List.length_drop,List.length_take];rfl)) ?_;(with_reducible refine (key_Value.calls a2 t169 _ A10.out).mono ?_);rintro e w' ⟨rfl,⟨nd,rfl⟩⟩;refine ⟨_,rfl,?_⟩))
    go_ret
    exact ⟨by first|rfl|(simp [errW_none,errW_some] <;> rfl)|(simp [*,errW_none,errW_some] <;> rfl),by repeat (first|(with_reducible first|exact HB.out|apply below_alloc|apply pw_below_drewN|apply below_drew1|refine below_set ?_ GE166.out)|exact HB.out)⟩
  ·rw [if_neg c9] at H
   have c9b0:(t168==0)=false:=beq_eq_false_iff_ne.mpr c9
   have c9b1:(t168 != 0)=true:=bne_iff_ne.mpr c9
   obtain rfl:=Option.some.inj H
   go_enter Try.func44,Try.ntmps44
   go_wp2_with (first|((with_reducible refine gate_dst (N:=5) rfl ?_);refine box_event ?hg (N:=5) ?hd (cs:=#[.int .i64 a0_0,.int .i64 a0_1,.int .i64 a0_2,.string a0_3,.slice A0_4 l0_4.length c0_4,.slice A0_5 l0_5.length c0_5,.slice A0_6 l0_6.length c0_6]) (t:=25) ?hr ?_;(case hd=>rfl);(case hg=>rfl);(case hr=>first|(go_simp;done)|(go_simp;rfl));intro gb166 hg w35 hbox hb;have n0_:=Aside0.mk (below_step (by repeat (first|(with_reducible first|exact HB.out|apply below_alloc|apply pw_below_drewN|apply below_drew1)|exact HB.out)) hb);have n1_:=Aside0.mk (hbox);have n2_:=Aside0.mk ((by rw [hg];exact (below_size (by repeat (first|(with_reducible first|exact HB.out|apply below_alloc|apply pw_below_drewN|apply below_drew1)|exact HB.out))):w.heap.size≤gb166));have n3_:=Aside0.mk ((by rw [hg];exact (below_size (by repeat (first|(with_reducible first|exact HB.out|apply below_alloc|apply pw_below_drewN|apply below_drew1)|exact HB.out))):w.heap.size≤gb166));clear HB;have HB:=n0_;have BK166:=n1_;have GW166:=n2_;have GE166:=n3_;clear n0_ n1_ n2_ n3_;clear hb hbox hg;have hcz36_0:w35.cell? ⟨gb166,0,none⟩=some (.int .i64 a0_0):=(blk_cell BK166.out 0).trans rfl;have hcz36_1:w35.cell? ⟨gb166,1,none⟩=some (.int .i64 a0_1):=(blk_cell BK166.out 1).trans rfl;have hcz36_2:w35.cell? ⟨gb166,2,none⟩=some (.int .i64 a0_2):=(blk_cell BK166.out 2).trans rfl;have hcz36_3:w35.cell? ⟨gb166,3,none⟩=some (.string a0_3):=(blk_cell BK166.out 3).trans rfl;have hcz36_4:w35.cell? ⟨gb166,4,none⟩=some (.slice A0_4 l0_4.length c0_4):=(blk_cell BK166.out 4).trans rfl;have hcz36_5:w35.cell? ⟨gb166,5,none⟩=some (.slice A0_5 l0_5.length c0_5):=(blk_cell BK166.out 5).trans rfl;have hcz36_6:w35.cell? ⟨gb166,6,none⟩=some (.slice A0_6 l0_6.length c0_6):=(blk_cell BK166.out 6).trans rfl;have hfz36_0:=blk_frozen BK166.out 0;have hfz36_1:=blk_frozen BK166.out 1;have hfz36_2:=blk_frozen BK166.out 2;have hfz36_3:=blk_frozen BK166.out 3;have hfz36_4:=blk_frozen BK166.out 4;have hfz36_5:=blk_frozen BK166.out 5;have hfz36_6:=blk_frozen BK166.out 6)|((with_reducible refine gate_callee (f:=32) rfl ?_);refine goesL_ (some 15) rfl rfl Try.func32 (by kernel_rfl) rfl #[.agg #[.int .i64 a0_0,.int .i64 a0_1,.int .i64 a0_2,.string a0_3,.slice A0_4 l0_4.length c0_4,.slice A0_5 l0_5.length c0_5,.slice A0_6 l0_6.length c0_6]] rfl (by (try simp only [List.map_toArray,List.map_cons,List.map_nil]);first|done|rfl|(simp only [List.length_drop,List.length_take];rfl)) ?_;(with_reducible refine (page_Check.calls k a0_0 a0_1 a0_2 a0_3 _ _ l0_4 _ _ l0_5 _ _ l0_6 t167 _ ?side1 ?side2 ?side3 ?side4 ?side5 ?side6 A6.out).mono ?_);(case side1=>repeat (first|exact (Kd.C_below HR0_4.out HB.out)|(with_reducible refine Kd.C_alloc ?_ _)|(with_reducible refine Kd.C_drewN ?_ _)|(with_reducible refine Kd.C_drew ?_)));(case side2=>exact HC0_4.out);(case side3=>repeat (first|exact (Kd.C_below HR0_5.out HB.out)|(with_reducible refine Kd.C_alloc ?_ _)|(with_reducible refine Kd.C_drewN ?_ _)|(with_reducible refine Kd.C_drew ?_)));(case side4=>exact HC0_5.out);(case side5=>repeat (first|exact (Kd.C_below HR0_6.out HB.out)|(with_reducible refine Kd.C_alloc ?_ _)|(with_reducible refine Kd.C_drewN ?_ _)|(with_reducible refine Kd.C_drew ?_)));(case side6=>exact HC0_6.out);rintro e w37 ⟨rfl,hb⟩;refine ⟨_,rfl,?_⟩;have n0_:=Aside0.mk (blk_below (g:=gb166) (o:=.cells #[.int .i64 a0_0,.int .i64 a0_1,.int .i64 a0_2,.string a0_3,.slice A0_4 l0_4.length c0_4,.slice A0_5 l0_5.length c0_5,.slice A0_6 l0_6.length c0_6] 25 (0,0)) (by (with_reducible repeat (first|refine blk_drewN ?_ _|refine blk_drew ?_|refine blk_alloc ?_ _));exact BK166.out) hb);have n1_:=Aside0.mk (below_step (by repeat (first|(with_reducible first|exact HB.out|apply below_alloc|apply pw_below_drewN|apply below_drew1|refine below_set ?_ GE166.out)|exact HB.out)) hb);clear BK166;clear HB;have BK166:=n0_;have HB:=n1_;clear n0_ n1_;(try clear hb);(try clear hb2);(try clear hk);(try clear hi))|((with_reducible refine gate_callee (f:=54) rfl ?_);refine goesL_ (some 19) rfl rfl Try.func54 (by kernel_rfl) rfl #[.string a1] rfl (by (try simp only [List.map_toArray,List.map_cons,List.map_nil]);first|done|rfl|(simp only [List.length_drop,List.length_take];rfl)) ?_;(with_reducible refine (key_Check.calls a1 t168 _ A8.out).mono ?_);rintro e w' ⟨rfl,⟨nd,rfl⟩⟩;refine ⟨_,rfl,?_⟩))
   go_ret
   exact ⟨by first|rfl|(simp [errW_none,errW_some] <;> rfl)|(simp [*,errW_none,errW_some] <;> rfl),by repeat (first|(with_reducible first|exact HB.out|apply below_alloc|apply pw_below_drewN|apply below_drew1|refine below_set ?_ GE166.out)|exact HB.out)⟩
 ·rw [if_neg c7] at H
  have c7b0:(t167==0)=false:=beq_eq_false_iff_ne.mpr c7
  have c7b1:(t167 != 0)=true:=bne_iff_ne.mpr c7
  obtain rfl:=Option.some.inj H
  go_enter Try.func44,Try.ntmps44
  go_wp2_with (first|((with_reducible refine gate_dst (N:=5) rfl ?_);refine box_event ?hg (N:=5) ?hd (cs:=#[.int .i64 a0_0,.int .i64 a0_1,.int .i64 a0_2,.string a0_3,.slice A0_4 l0_4.length c0_4,.slice A0_5 l0_5.length c0_5,.slice A0_6 l0_6.length c0_6]) (t:=25) ?hr ?_;(case hd=>rfl);(case hg=>rfl);(case hr=>first|(go_simp;done)|(go_simp;rfl));intro gb166 hg w38 hbox hb;have n0_:=Aside0.mk (below_step (by repeat (first|(with_reducible first|exact HB.out|apply below_alloc|apply pw_below_drewN|apply below_drew1)|exact HB.out)) hb);have n1_:=Aside0.mk (hbox);have n2_:=Aside0.mk ((by rw [hg];exact (below_size (by repeat (first|(with_reducible first|exact HB.out|apply below_alloc|apply pw_below_drewN|apply below_drew1)|exact HB.out))):w.heap.size≤gb166));have n3_:=Aside0.mk ((by rw [hg];exact (below_size (by repeat (first|(with_reducible first|exact HB.out|apply below_alloc|apply pw_below_drewN|apply below_drew1)|exact HB.out))):w.heap.size≤gb166));clear HB;have HB:=n0_;have BK166:=n1_;have GW166:=n2_;have GE166:=n3_;clear n0_ n1_ n2_ n3_;clear hb hbox hg;have hcz39_0:w38.cell? ⟨gb166,0,none⟩=some (.int .i64 a0_0):=(blk_cell BK166.out 0).trans rfl;have hcz39_1:w38.cell? ⟨gb166,1,none⟩=some (.int .i64 a0_1):=(blk_cell BK166.out 1).trans rfl;have hcz39_2:w38.cell? ⟨gb166,2,none⟩=some (.int .i64 a0_2):=(blk_cell BK166.out 2).trans rfl;have hcz39_3:w38.cell? ⟨gb166,3,none⟩=some (.string a0_3):=(blk_cell BK166.out 3).trans rfl;have hcz39_4:w38.cell? ⟨gb166,4,none⟩=some (.slice A0_4 l0_4.length c0_4):=(blk_cell BK166.out 4).trans rfl;have hcz39_5:w38.cell? ⟨gb166,5,none⟩=some (.slice A0_5 l0_5.length c0_5):=(blk_cell BK166.out 5).trans rfl;have hcz39_6:w38.cell? ⟨gb166,6,none⟩=some (.slice A0_6 l0_6.length c0_6):=(blk_cell BK166.out 6).trans rfl;have hfz39_0:=blk_frozen BK166.out 0;have hfz39_1:=blk_frozen BK166.out 1;have hfz39_2:=blk_frozen BK166.out 2;have hfz39_3:=blk_frozen BK166.out 3;have hfz39_4:=blk_frozen BK166.out 4;have hfz39_5:=blk_frozen BK166.out 5;have hfz39_6:=blk_frozen BK166.out 6)|((with_reducible refine gate_callee (f:=32) rfl ?_);refine goesL_ (some 15) rfl rfl Try.func32 (by kernel_rfl) rfl #[.agg #[.int .i64 a0_0,.int .i64 a0_1,.int .i64 a0_2,.string a0_3,.slice A0_4 l0_4.length c0_4,.slice A0_5 l0_5.length c0_5,.slice A0_6 l0_6.length c0_6]] rfl (by (try simp only [List.map_toArray,List.map_cons,List.map_nil]);first|done|rfl|(simp only [List.length_drop,List.length_take];rfl)) ?_;(with_reducible refine (page_Check.calls k a0_0 a0_1 a0_2 a0_3 _ _ l0_4 _ _ l0_5 _ _ l0_6 t167 _ ?side1 ?side2 ?side3 ?side4 ?side5 ?side6 A6.out).mono ?_);(case side1=>repeat (first|exact (Kd.C_below HR0_4.out HB.out)|(with_reducible refine Kd.C_alloc ?_ _)|(with_reducible refine Kd.C_drewN ?_ _)|(with_reducible refine Kd.C_drew ?_)));(case side2=>exact HC0_4.out);(case side3=>repeat (first|exact (Kd.C_below HR0_5.out HB.out)|(with_reducible refine Kd.C_alloc ?_ _)|(with_reducible refine Kd.C_drewN ?_ _)|(with_reducible refine Kd.C_drew ?_)));(case side4=>exact HC0_5.out);(case side5=>repeat (first|exact (Kd.C_below HR0_6.out HB.out)|(with_reducible refine Kd.C_alloc ?_ _)|(with_reducible refine Kd.C_drewN ?_ _)|(with_reducible refine Kd.C_drew ?_)));(case side6=>exact HC0_6.out);rintro e w40 ⟨rfl,hb⟩;refine ⟨_,rfl,?_⟩;have n0_:=Aside0.mk (blk_below (g:=gb166) (o:=.cells #[.int .i64 a0_0,.int .i64 a0_1,.int .i64 a0_2,.string a0_3,.slice A0_4 l0_4.length c0_4,.slice A0_5 l0_5.length c0_5,.slice A0_6 l0_6.length c0_6] 25 (0,0)) (by (with_reducible repeat (first|refine blk_drewN ?_ _|refine blk_drew ?_|refine blk_alloc ?_ _));exact BK166.out) hb);have n1_:=Aside0.mk (below_step (by repeat (first|(with_reducible first|exact HB.out|apply below_alloc|apply pw_below_drewN|apply below_drew1|refine below_set ?_ GE166.out)|exact HB.out)) hb);clear BK166;clear HB;have BK166:=n0_;have HB:=n1_;clear n0_ n1_;(try clear hb);(try clear hb2);(try clear hk);(try clear hi)))
  go_ret
  exact ⟨by first|rfl|(simp [errW_none,errW_some] <;> rfl)|(simp [*,errW_none,errW_some] <;> rfl),by repeat (first|(with_reducible first|exact HB.out|apply below_alloc|apply pw_below_drewN|apply below_drew1|refine below_set ?_ GE166.out)|exact HB.out)⟩
theorem place_pred (k x:ByteArray) (B:Nat) (w:World) (hc:w.cell? ⟨B,0,none⟩=some (.string k)) :
  Calls Try.prog 62 #[.string x,.pointer (some ⟨B,0,none⟩)] w fun e w'=>e=.returned (.bool (!(Op.bytesLess x.toList k.toList)))∧∃ q,w'=w.drewN q:=by
 go_enter Try.func62,Try.ntmps62
 go_wp2
 go_ret
 exact ⟨rfl,0,rfl⟩
def geB (k x:ByteArray):Bool:=!(Op.bytesLess x.toList k.toList)
def findGe (k:ByteArray):List ByteArray→Int
 | [] => -1
 | x::r=>if geB k x=true then 0 else (if findGe k r = -1 then -1 else findGe k r+1)
theorem findGe_hit (k:ByteArray):∀ (l:List ByteArray) (i:Nat),i < l.length→geB k (rdOf ByteArray.empty l i)=true→(∀ j,j < i→geB k (rdOf ByteArray.empty l j)=false)→findGe k l=i
 | [],i,h,_,_=>by simp at h
 | x::r,0,h,h1,h2=>by
  have:geB k x=true:=h1
  simp [findGe,this]
 | x::r,i+1,h,h1,h2=>by
  have h0:geB k x=false:=h2 0 (by omega)
  have ih:=findGe_hit k r i (by simpa using h) (by simpa [rdOf] using h1) (fun j hj=>by simpa [rdOf] using h2 (j+1) (by omega))
  simp only [findGe,h0,ih]
  rw [if_neg (by decide),if_neg (by omega)]
  omega
theorem findGe_miss (k:ByteArray):∀ (l:List ByteArray),(∀ j,j < l.length→geB k (rdOf ByteArray.empty l (j:Nat))=false)→findGe k l = -1
 | [],_=>rfl
 | x::r,h=>by
  have h0:geB k x=false:=h 0 (by simp)
  have ih:=findGe_miss k r (fun j hj=>by simpa [rdOf] using h (j+1) (by simpa using hj))
  simp [findGe,h0,ih]
set_option maxHeartbeats 4000000 in
set_option maxRecDepth 100000 in
theorem indexFunc_calls (B:Nat) (k:ByteArray) (A:Option Addr) (c:Nat) (l:List ByteArray) (w:World) (hk:w.cell? ⟨B,0,none⟩=some (.string k)) (hr:Kd.C Kd.string w A l.length l) :
  Calls Try.prog 61 #[.slice A l.length c,.func (.func 62) #[] #[.pointer (some ⟨B,0,none⟩)]] w fun e w'=>e=.returned (.int .i64 (findGe k l))∧Drawn0 w w':=by
 have hlen:l.length≤9223372036854775807:=hr.2.1
 have HR:=Aside0.mk hr
 clear hr
 have eg:∀ args w,(callFunc 62 args).run Try.prog w=.ok (.enter 62 args) w:=Go.Proofs.enters_of Try.func62 (by kernel_rfl) rfl
 go_enter Try.func61,Try.ntmps61
 go_wp2
 go_loopg [5,8] l.length (fun gg _ s8 wr=>∃ kk q:Nat,kk≤l.length∧l.length - kk≤gg∧s8=.int .i64 kk∧wr=w.drewN q∧Aside0 (∀ j,j < kk→geB k (rdOf ByteArray.empty l (j:Nat))=false))
 case atStart=>exact ⟨0,0,Nat.zero_le _,by omega,rfl,rfl,⟨fun j hj=>absurd hj (Nat.not_lt_zero _)⟩⟩
 case round =>
  obtain ⟨kk,q,hkk,hg,rfl,rfl,AS⟩:=hrel
  by_cases hlt:kk < l.length
  ·have hltz:(kk:Int) < (l.length:Int):=by omega
   obtain ⟨ad,rfl,hcell⟩:=Kd.at_string HR.out (kk:Int) (by omega) (by omega)
   rw [Int.toNat_natCast] at hcell
   generalize hy:rdOf ByteArray.empty l (kk:Int)=y at hcell
   have HY:=Aside0.mk hy
   clear hy
   obtain ⟨ab,ao,aa⟩:=ad
   have hcall:=place_pred k y B
   cases hq:geB k y with
   | true =>
    have hq':(!(Op.bytesLess y.toList k.toList))=true:=hq
    rw [hq'] at hcall
    go_wp2_with (go_at_fn 62;refine (hcall _ (by first|exact hk|simpa using hk)).mono ?_;rintro e w' ⟨rfl,q',rfl⟩)
    go_ret
    refine ⟨?_,⟨⟨_,rfl⟩⟩⟩
    rw [findGe_hit k l kk hlt (by rw [HY.out];exact hq) AS.out]
    rfl
   | false =>
    have hq':(!(Op.bytesLess y.toList k.toList))=false:=hq
    rw [hq'] at hcall
    go_wp2_with (go_at_fn 62;refine (hcall _ (by first|exact hk|simpa using hk)).mono ?_;rintro e w' ⟨rfl,q',rfl⟩)
    go_roundg (l.length - (kk+1))
    case measure=>omega
    case rel =>
     refine ⟨kk+1,_,by omega,by omega,by go_num,rfl,⟨fun j hj=>?_⟩⟩
     by_cases e:j=kk
     ·subst e
      rw [HY.out];exact hq
     ·exact AS.out j (by omega)
  ·have hltz:¬ (kk:Int) < (l.length:Int):=by omega
   go_wp2
   go_ret
   have:kk=l.length:=by omega
   subst this
   exact ⟨by rw [findGe_miss k l AS.out];rfl,⟨⟨q,rfl⟩⟩⟩
theorem findGe_range (k:ByteArray):∀ l:List ByteArray,findGe k l = -1∨(0≤findGe k l∧findGe k l < l.length)
 | []=>.inl rfl
 | x::r=>by
  have ih:=findGe_range k r
  simp only [findGe]
  split
  ·exact .inr ⟨by omega,by simp⟩
  ·split
   ·exact .inl rfl
   ·refine .inr ⟨by omega,?_⟩
    simp only [List.length_cons]
    omega
def key_Place.f (l0:List ByteArray) (a1:ByteArray):Option (Int×Bool) :=
 if findGe a1 l0 < 0 then some ((l0.length:Int),false) else some (findGe a1 l0,((rdOf ByteArray.empty l0 (findGe a1 l0)).toList==a1.toList))
set_option maxHeartbeats 4000000 in
set_option maxRecDepth 100000 in
theorem key_Place.calls (A0:Option Addr) (c0:Nat) (l0:List ByteArray) (a1:ByteArray) (r1:Int) (r2:Bool) (w:World) (hr0:Kd.C Kd.string w A0 l0.length l0) (hc0:l0.length≤c0) (h:key_Place.f l0 a1=some (r1,r2)) :
  Calls Try.prog 45 #[.slice A0 l0.length c0,.string a1] w fun e w'=>e=.returned (.tuple #[.int .i64 r1,.bool r2])∧Below w.heap.size w w':=by
 have hlen:l0.length≤9223372036854775807:=hr0.2.1
 have hrg:=findGe_range a1 l0
 have hcall:=indexFunc_calls w.heap.size a1 A0 c0 l0 (w.alloc (.cells #[.string a1] 9)) (by simp) (Kd.C_below hr0 ((Below.refl _ _).alloc (Nat.le_refl _) _))
 have HR:=Aside0.mk hr0
 clear hr0
 unfold key_Place.f at h
 generalize findGe a1 l0=i at hrg hcall h
 by_cases hi:i < 0
 ·rw [if_pos hi] at h
  simp only [Option.some.injEq,Prod.mk.injEq] at h
  obtain ⟨rfl,rfl⟩:=h
  go_enter Try.func45,Try.ntmps45
  go_wp2_with (go_at_call 61;refine hcall.mono ?_;rintro e w' ⟨rfl,⟨q,rfl⟩⟩)
  go_ret2
  exact ⟨rfl,pw_below_drewN ((Below.refl _ w).alloc (Nat.le_refl _) _) q⟩
 ·rw [if_neg hi] at h
  simp only [Option.some.injEq,Prod.mk.injEq] at h
  obtain ⟨e1,e2⟩:=h
  subst e1
  have H2:=Aside0.mk e2
  clear e2
  have h0:0≤i:=by omega
  have h1:i < (l0.length:Int):=by omega
  clear hrg
  have HR1:=Kd.C_below HR.out ((Below.refl w.heap.size w).alloc (Nat.le_refl _) (.cells #[.string a1] 9))
  obtain ⟨ad,rfl,hcell⟩:=Kd.at_string HR1 i h0 h1
  clear HR1
  generalize rdOf ByteArray.empty l0 i=y at hcell H2
  go_enter Try.func45,Try.ntmps45
  go_wp2_with (go_at_call 61;refine hcall.mono ?_;rintro e w' ⟨rfl,⟨q,rfl⟩⟩)
  go_quiet (fail)
  go_wp2
  go_ret2
  exact ⟨by rw [← H2.out];rfl,pw_below_drewN (pw_below_drewN ((Below.refl _ w).alloc (Nat.le_refl _) _) _) _⟩
def node_parted.f (k:Nat) (a0_0:Int) (a0_1:Int) (a0_2:Int) (a0_3:ByteArray) (l0_4:List ByteArray) (l0_5:List ByteArray) (l0_6:List Int) (a1:ByteArray) (a2:Int):Option (Int×Int):=(node_asked.f k a0_0 a0_1 a0_2 a0_3 l0_4 l0_5 l0_6 a1 (⟨#[]⟩:ByteArray) a2 2).bind fun t172=>(if t172=0 then ((key_Place.f l0_4 a1).bind fun bt173=>(if a0_0 > 0 then (if bt173.2=true then (some (bt173.1,0)) else (some (0,6))) else (some (bt173.1,0)))) else (some (0,t172)))
set_option maxHeartbeats 8000000 in
set_option maxRecDepth 100000 in
theorem node_parted.calls (k:Nat) (a0_0:Int) (a0_1:Int) (a0_2:Int) (a0_3:ByteArray) (A0_4:Option Addr) (c0_4:Nat) (l0_4:List ByteArray) (A0_5:Option Addr) (c0_5:Nat) (l0_5:List ByteArray) (A0_6:Option Addr) (c0_6:Nat) (l0_6:List Int) (a1:ByteArray) (a2:Int) (r1:Int) (r2:Int) (w:World) (hr0_4:Kd.C Kd.string w A0_4 l0_4.length l0_4) (hc0_4:l0_4.length≤c0_4) (hr0_5:Kd.C Kd.string w A0_5 l0_5.length l0_5) (hc0_5:l0_5.length≤c0_5) (hr0_6:Kd.C (Kd.int .i64) w A0_6 l0_6.length l0_6) (hc0_6:l0_6.length≤c0_6) (h:node_parted.f k a0_0 a0_1 a0_2 a0_3 l0_4 l0_5 l0_6 a1 a2=some (r1,r2)) :
  Calls Try.prog 37 #[.agg #[.int .i64 a0_0,.int .i64 a0_1,.int .i64 a0_2,.string a0_3,.slice A0_4 l0_4.length c0_4,.slice A0_5 l0_5.length c0_5,.slice A0_6 l0_6.length c0_6],.string a1,.int .i64 a2] w fun e w'=>e=.returned (.tuple #[.int .i64 r1,.int .i64 r2])∧Below w.heap.size w w':=by
 have hu25:=Try.underlying25
 have HR0_4:=Aside0.mk hr0_4
 have HC0_4:=Aside0.mk hc0_4
 clear hr0_4 hc0_4
 have HR0_5:=Aside0.mk hr0_5
 have HC0_5:=Aside0.mk hc0_5
 clear hr0_5 hc0_5
 have HR0_6:=Aside0.mk hr0_6
 have HC0_6:=Aside0.mk hc0_6
 clear hr0_6 hc0_6
 have HB:=Aside0.mk (Below.refl w.heap.size w)
 have H:((node_asked.f k a0_0 a0_1 a0_2 a0_3 l0_4 l0_5 l0_6 a1 (⟨#[]⟩:ByteArray) a2 2).bind fun t172=>(if t172=0 then ((key_Place.f l0_4 a1).bind fun bt173=>(if a0_0 > 0 then (if bt173.2=true then (some (bt173.1,0)) else (some (0,6))) else (some (bt173.1,0)))) else (some (0,t172))))=some (r1,r2):=h
 clear h
 replace H:=Option.bind_eq_some_iff.mp H
 obtain ⟨t172,A40,H⟩:=H
 try dsimp only at H
 have A4:=Aside0.mk A40
 clear A40
 by_cases c5:t172=0
 ·rw [if_pos c5] at H
  have c5b0:(t172==0)=true:=beq_iff_eq.mpr c5
  have c5b1:(t172 != 0)=false:=bne_eq_false_iff_eq.mpr c5
  clear c5
  replace H:=Option.bind_eq_some_iff.mp H
  obtain ⟨⟨t173,t174⟩,A60,H⟩:=H
  try dsimp only at H
  have A6:=Aside0.mk A60
  clear A60
  by_cases c7:a0_0 > 0
  ·rw [if_pos c7] at H
   have c7b0:decide (0 < a0_0)=true:=decide_eq_true c7
   clear c7
   by_cases c8:t174=true
   ·subst c8
    have H1:(some (t173,0))=some (r1,r2):=by rw [if_pos rfl] at H;exact H
    clear H
    have H:=H1
    clear H1
    simp only [Option.some.injEq,Prod.mk.injEq] at H
    obtain ⟨rfl,rfl⟩:=H
    go_enter Try.func37,Try.ntmps37
    go_wp2_with (first|((with_reducible refine gate_dst (N:=3) rfl ?_);refine box_event ?hg (N:=3) ?hd (cs:=#[.int .i64 a0_0,.int .i64 a0_1,.int .i64 a0_2,.string a0_3,.slice A0_4 l0_4.length c0_4,.slice A0_5 l0_5.length c0_5,.slice A0_6 l0_6.length c0_6]) (t:=25) ?hr ?_;(case hd=>rfl);(case hg=>rfl);(case hr=>first|(go_simp;done)|(go_simp;rfl));intro gb171 hg w9 hbox hb;have n0_:=Aside0.mk (below_step (by repeat (first|(with_reducible first|exact HB.out|apply below_alloc|apply pw_below_drewN|apply below_drew1)|exact HB.out)) hb);have n1_:=Aside0.mk (hbox);have n2_:=Aside0.mk ((by rw [hg];exact (below_size (by repeat (first|(with_reducible first|exact HB.out|apply below_alloc|apply pw_below_drewN|apply below_drew1)|exact HB.out))):w.heap.size≤gb171));have n3_:=Aside0.mk ((by rw [hg];exact (below_size (by repeat (first|(with_reducible first|exact HB.out|apply below_alloc|apply pw_below_drewN|apply below_drew1)|exact HB.out))):w.heap.size≤gb171));clear HB;have HB:=n0_;have BK171:=n1_;have GW171:=n2_;have GE171:=n3_;clear n0_ n1_ n2_ n3_;clear hb hbox hg;have hcz10_0:w9.cell? ⟨gb171,0,none⟩=some (.int .i64 a0_0):=(blk_cell BK171.out 0).trans rfl;have hcz10_1:w9.cell? ⟨gb171,1,none⟩=some (.int .i64 a0_1):=(blk_cell BK171.out 1).trans rfl;have hcz10_2:w9.cell? ⟨gb171,2,none⟩=some (.int .i64 a0_2):=(blk_cell BK171.out 2).trans rfl;have hcz10_3:w9.cell? ⟨gb171,3,none⟩=some (.string a0_3):=(blk_cell BK171.out 3).trans rfl;have hcz10_4:w9.cell? ⟨gb171,4,none⟩=some (.slice A0_4 l0_4.length c0_4):=(blk_cell BK171.out 4).trans rfl;have hcz10_5:w9.cell? ⟨gb171,5,none⟩=some (.slice A0_5 l0_5.length c0_5):=(blk_cell BK171.out 5).trans rfl;have hcz10_6:w9.cell? ⟨gb171,6,none⟩=some (.slice A0_6 l0_6.length c0_6):=(blk_cell BK171.out 6).trans rfl;have hfz10_0:=blk_frozen BK171.out 0;have hfz10_1:=blk_frozen BK171.out 1;have hfz10_2:=blk_frozen BK171.out 2;have hfz10_3:=blk_frozen BK171.out 3;have hfz10_4:=blk_frozen BK171.out 4;have hfz10_5:=blk_frozen BK171.out 5;have hfz10_6:=blk_frozen BK171.out 6)|((with_reducible refine gate_callee (f:=44) rfl ?_);refine goesL_ (some 14) rfl rfl Try.func44 (by kernel_rfl) rfl #[.agg #[.int .i64 a0_0,.int .i64 a0_1,.int .i64 a0_2,.string a0_3,.slice A0_4 l0_4.length c0_4,.slice A0_5 l0_5.length c0_5,.slice A0_6 l0_6.length c0_6],.string a1,.string (⟨#[]⟩:ByteArray),.int .i64 a2,.int .i64 2] rfl (by (try simp only [List.map_toArray,List.map_cons,List.map_nil]);first|done|rfl|(simp only [List.length_drop,List.length_take];rfl)) ?_;(with_reducible refine (node_asked.calls k a0_0 a0_1 a0_2 a0_3 _ _ l0_4 _ _ l0_5 _ _ l0_6 a1 (⟨#[]⟩:ByteArray) a2 2 t172 _ ?side1 ?side2 ?side3 ?side4 ?side5 ?side6 A4.out).mono ?_);(case side1=>repeat (first|exact (Kd.C_below HR0_4.out HB.out)|(with_reducible refine Kd.C_alloc ?_ _)|(with_reducible refine Kd.C_drewN ?_ _)|(with_reducible refine Kd.C_drew ?_)));(case side2=>exact HC0_4.out);(case side3=>repeat (first|exact (Kd.C_below HR0_5.out HB.out)|(with_reducible refine Kd.C_alloc ?_ _)|(with_reducible refine Kd.C_drewN ?_ _)|(with_reducible refine Kd.C_drew ?_)));(case side4=>exact HC0_5.out);(case side5=>repeat (first|exact (Kd.C_below HR0_6.out HB.out)|(with_reducible refine Kd.C_alloc ?_ _)|(with_reducible refine Kd.C_drewN ?_ _)|(with_reducible refine Kd.C_drew ?_)));(case side6=>exact HC0_6.out);rintro e w11 ⟨rfl,hb⟩;refine ⟨_,rfl,?_⟩;have n0_:=Aside0.mk (blk_below (g:=gb171) (o:=.cells #[.int .i64 a0_0,.int .i64 a0_1,.int .i64 a0_2,.string a0_3,.slice A0_4 l0_4.length c0_4,.slice A0_5 l0_5.length c0_5,.slice A0_6 l0_6.length c0_6] 25 (0,0)) (by (with_reducible repeat (first|refine blk_drewN ?_ _|refine blk_drew ?_|refine blk_alloc ?_ _));exact BK171.out) hb);have n1_:=Aside0.mk (below_step (by repeat (first|(with_reducible first|exact HB.out|apply below_alloc|apply pw_below_drewN|apply below_drew1|refine below_set ?_ GE171.out)|exact HB.out)) hb);clear BK171;clear HB;have BK171:=n0_;have HB:=n1_;clear n0_ n1_;(try clear hb);(try clear hb2);(try clear hk);(try clear hi);have hcz12_0:w11.cell? ⟨gb171,0,none⟩=some (.int .i64 a0_0):=(blk_cell BK171.out 0).trans rfl;have hcz12_1:w11.cell? ⟨gb171,1,none⟩=some (.int .i64 a0_1):=(blk_cell BK171.out 1).trans rfl;have hcz12_2:w11.cell? ⟨gb171,2,none⟩=some (.int .i64 a0_2):=(blk_cell BK171.out 2).trans rfl;have hcz12_3:w11.cell? ⟨gb171,3,none⟩=some (.string a0_3):=(blk_cell BK171.out 3).trans rfl;have hcz12_4:w11.cell? ⟨gb171,4,none⟩=some (.slice A0_4 l0_4.length c0_4):=(blk_cell BK171.out 4).trans rfl;have hcz12_5:w11.cell? ⟨gb171,5,none⟩=some (.slice A0_5 l0_5.length c0_5):=(blk_cell BK171.out 5).trans rfl;have hcz12_6:w11.cell? ⟨gb171,6,none⟩=some (.slice A0_6 l0_6.length c0_6):=(blk_cell BK171.out 6).trans rfl;have hfz12_0:=blk_frozen BK171.out 0;have hfz12_1:=blk_frozen BK171.out 1;have hfz12_2:=blk_frozen BK171.out 2;have hfz12_3:=blk_frozen BK171.out 3;have hfz12_4:=blk_frozen BK171.out 4;have hfz12_5:=blk_frozen BK171.out 5;have hfz12_6:=blk_frozen BK171.out 6)|((with_reducible refine gate_callee (f:=45) rfl ?_);refine goesL_ (some 22) rfl rfl Try.func45 (by kernel_rfl) rfl #[.slice A0_4 l0_4.length c0_4,.string a1] rfl (by (try simp only [List.map_toArray,List.map_cons,List.map_nil]);first|done|rfl|(simp only [List.length_drop,List.length_take];rfl)) ?_;(with_reducible refine (key_Place.calls _ _ l0_4 a1 t173 true _ ?side1 ?side2 A6.out).mono ?_);(case side1=>repeat (first|exact (Kd.C_below HR0_4.out HB.out)|(with_reducible refine Kd.C_alloc ?_ _)|(with_reducible refine Kd.C_drewN ?_ _)|(with_reducible refine Kd.C_drew ?_)));(case side2=>exact HC0_4.out);rintro e w13 ⟨rfl,hb⟩;refine ⟨_,rfl,?_⟩;have n0_:=Aside0.mk (blk_below (g:=gb171) (o:=.cells #[.int .i64 a0_0,.int .i64 a0_1,.int .i64 a0_2,.string a0_3,.slice A0_4 l0_4.length c0_4,.slice A0_5 l0_5.length c0_5,.slice A0_6 l0_6.length c0_6] 25 (0,0)) (by (with_reducible repeat (first|refine blk_drewN ?_ _|refine blk_drew ?_|refine blk_alloc ?_ _));exact BK171.out) hb);have n1_:=Aside0.mk (below_step (by repeat (first|(with_reducible first|exact HB.out|apply below_alloc|apply pw_below_drewN|apply below_drew1|refine below_set ?_ GE171.out)|exact HB.out)) hb);clear BK171;clear HB;have BK171:=n0_;have HB:=n1_;clear n0_ n1_;(try clear hb);(try clear hb2);(try clear hk);(try clear hi);have hcz14_0:w13.cell? ⟨gb171,0,none⟩=some (.int .i64 a0_0):=(blk_cell BK171.out 0).trans rfl;have hcz14_1:w13.cell? ⟨gb171,1,none⟩=some (.int .i64 a0_1):=(blk_cell BK171.out 1).trans rfl;have hcz14_2:w13.cell? ⟨gb171,2,none⟩=some (.int .i64 a0_2):=(blk_cell BK171.out 2).trans rfl;have hcz14_3:w13.cell? ⟨gb171,3,none⟩=some (.string a0_3):=(blk_cell BK171.out 3).trans rfl;have hcz14_4:w13.cell? ⟨gb171,4,none⟩=some (.slice A0_4 l0_4.length c0_4):=(blk_cell BK171.out 4).trans rfl;have hcz14_5:w13.cell? ⟨gb171,5,none⟩=some (.slice A0_5 l0_5.length c0_5):=(blk_cell BK171.out 5).trans rfl;have hcz14_6:w13.cell? ⟨gb171,6,none⟩=some (.slice A0_6 l0_6.length c0_6):=(blk_cell BK171.out 6).trans rfl;have hfz14_0:=blk_frozen BK171.out 0;have hfz14_1:=blk_frozen BK171.out 1;have hfz14_2:=blk_frozen BK171.out 2;have hfz14_3:=blk_frozen BK171.out 3;have hfz14_4:=blk_frozen BK171.out 4;have hfz14_5:=blk_frozen BK171.out 5;have hfz14_6:=blk_frozen BK171.out 6))
    go_ret2
    exact ⟨by first|rfl|(simp [errW_none,errW_some] <;> rfl)|(simp [*,errW_none,errW_some] <;> rfl),by repeat (first|(with_reducible first|exact HB.out|apply below_alloc|apply pw_below_drewN|apply below_drew1|refine below_set ?_ GE171.out)|exact HB.out)⟩
   ·replace c8:=Bool.eq_false_iff.mpr c8
    subst c8
    have H1:(some (0,6))=some (r1,r2):=by rw [if_neg (show ¬ (false=true) by decide)] at H;exact H
    clear H
    have H:=H1
    clear H1
    simp only [Option.some.injEq,Prod.mk.injEq] at H
    obtain ⟨rfl,rfl⟩:=H
    go_enter Try.func37,Try.ntmps37
    go_wp2_with (first|((with_reducible refine gate_dst (N:=3) rfl ?_);refine box_event ?hg (N:=3) ?hd (cs:=#[.int .i64 a0_0,.int .i64 a0_1,.int .i64 a0_2,.string a0_3,.slice A0_4 l0_4.length c0_4,.slice A0_5 l0_5.length c0_5,.slice A0_6 l0_6.length c0_6]) (t:=25) ?hr ?_;(case hd=>rfl);(case hg=>rfl);(case hr=>first|(go_simp;done)|(go_simp;rfl));intro gb171 hg w15 hbox hb;have n0_:=Aside0.mk (below_step (by repeat (first|(with_reducible first|exact HB.out|apply below_alloc|apply pw_below_drewN|apply below_drew1)|exact HB.out)) hb);have n1_:=Aside0.mk (hbox);have n2_:=Aside0.mk ((by rw [hg];exact (below_size (by repeat (first|(with_reducible first|exact HB.out|apply below_alloc|apply pw_below_drewN|apply below_drew1)|exact HB.out))):w.heap.size≤gb171));have n3_:=Aside0.mk ((by rw [hg];exact (below_size (by repeat (first|(with_reducible first|exact HB.out|apply below_alloc|apply pw_below_drewN|apply below_drew1)|exact HB.out))):w.heap.size≤gb171));clear HB;have HB:=n0_;have BK171:=n1_;have GW171:=n2_;have GE171:=n3_;clear n0_ n1_ n2_ n3_;clear hb hbox hg;have hcz16_0:w15.cell? ⟨gb171,0,none⟩=some (.int .i64 a0_0):=(blk_cell BK171.out 0).trans rfl;have hcz16_1:w15.cell? ⟨gb171,1,none⟩=some (.int .i64 a0_1):=(blk_cell BK171.out 1).trans rfl;have hcz16_2:w15.cell? ⟨gb171,2,none⟩=some (.int .i64 a0_2):=(blk_cell BK171.out 2).trans rfl;have hcz16_3:w15.cell? ⟨gb171,3,none⟩=some (.string a0_3):=(blk_cell BK171.out 3).trans rfl;have hcz16_4:w15.cell? ⟨gb171,4,none⟩=some (.slice A0_4 l0_4.length c0_4):=(blk_cell BK171.out 4).trans rfl;have hcz16_5:w15.cell? ⟨gb171,5,none⟩=some (.slice A0_5 l0_5.length c0_5):=(blk_cell BK171.out 5).trans rfl;have hcz16_6:w15.cell? ⟨gb171,6,none⟩=some (.slice A0_6 l0_6.length c0_6):=(blk_cell BK171.out 6).trans rfl;have hfz16_0:=blk_frozen BK171.out 0;have hfz16_1:=blk_frozen BK171.out 1;have hfz16_2:=blk_frozen BK171.out 2;have hfz16_3:=blk_frozen BK171.out 3;have hfz16_4:=blk_frozen BK171.out 4;have hfz16_5:=blk_frozen BK171.out 5;have hfz16_6:=blk_frozen BK171.out 6)|((with_reducible refine gate_callee (f:=44) rfl ?_);refine goesL_ (some 14) rfl rfl Try.func44 (by kernel_rfl) rfl #[.agg #[.int .i64 a0_0,.int .i64 a0_1,.int .i64 a0_2,.string a0_3,.slice A0_4 l0_4.length c0_4,.slice A0_5 l0_5.length c0_5,.slice A0_6 l0_6.length c0_6],.string a1,.string (⟨#[]⟩:ByteArray),.int .i64 a2,.int .i64 2] rfl (by (try simp only [List.map_toArray,List.map_cons,List.map_nil]);first|done|rfl|(simp only [List.length_drop,List.length_take];rfl)) ?_;(with_reducible refine (node_asked.calls k a0_0 a0_1 a0_2 a0_3 _ _ l0_4 _ _ l0_5 _ _ l0_6 a1 (⟨#[]⟩:ByteArray) a2 2 t172 _ ?side1 ?side2 ?side3 ?side4 ?side5 ?side6 A4.out).mono ?_);(case side1=>repeat (first|exact (Kd.C_below HR0_4.out HB.out)|(with_reducible refine Kd.C_alloc ?_ _)|(with_reducible refine Kd.C_drewN ?_ _)|(with_reducible refine Kd.C_drew ?_)));(case side2=>exact HC0_4.out);(case side3=>repeat (first|exact (Kd.C_below HR0_5.out HB.out)|(with_reducible refine Kd.C_alloc ?_ _)|(with_reducible refine Kd.C_drewN ?_ _)|(with_reducible refine Kd.C_drew ?_)));(case side4=>exact HC0_5.out);(case side5=>repeat (first|exact (Kd.C_below HR0_6.out HB.out)|(with_reducible refine Kd.C_alloc ?_ _)|(with_reducible refine Kd.C_drewN ?_ _)|(with_reducible refine Kd.C_drew ?_)));(case side6=>exact HC0_6.out);rintro e w17 ⟨rfl,hb⟩;refine ⟨_,rfl,?_⟩;have n0_:=Aside0.mk (blk_below (g:=gb171) (o:=.cells #[.int .i64 a0_0,.int .i64 a0_1,.int .i64 a0_2,.string a0_3,.slice A0_4 l0_4.length c0_4,.slice A0_5 l0_5.length c0_5,.slice A0_6 l0_6.length c0_6] 25 (0,0)) (by (with_reducible repeat (first|refine blk_drewN ?_ _|refine blk_drew ?_|refine blk_alloc ?_ _));exact BK171.out) hb);have n1_:=Aside0.mk (below_step (by repeat (first|(with_reducible first|exact HB.out|apply below_alloc|apply pw_below_drewN|apply below_drew1|refine below_set ?_ GE171.out)|exact HB.out)) hb);clear BK171;clear HB;have BK171:=n0_;have HB:=n1_;clear n0_ n1_;(try clear hb);(try clear hb2);(try clear hk);(try clear hi);have hcz18_0:w17.cell? ⟨gb171,0,none⟩=some (.int .i64 a0_0):=(blk_cell BK171.out 0).trans rfl;have hcz18_1:w17.cell? ⟨gb171,1,none⟩=some (.int .i64 a0_1):=(blk_cell BK171.out 1).trans rfl;have hcz18_2:w17.cell? ⟨gb171,2,none⟩=some (.int .i64 a0_2):=(blk_cell BK171.out 2).trans rfl;have hcz18_3:w17.cell? ⟨gb171,3,none⟩=some (.string a0_3):=(blk_cell BK171.out 3).trans rfl;have hcz18_4:w17.cell? ⟨gb171,4,none⟩=some (.slice A0_4 l0_4.length c0_4):=(blk_cell BK171.out 4).trans rfl;have hcz18_5:w17.cell? ⟨gb171,5,none⟩=some (.slice A0_5 l0_5.length c0_5):=(blk_cell BK171.out 5).trans rfl;have hcz18_6:w17.cell? ⟨gb171,6,none⟩=some (.slice A0_6 l0_6.length c0_6):=(blk_cell BK171.out 6).trans rfl;have hfz18_0:=blk_frozen BK171.out 0;have hfz18_1:=blk_frozen BK171.out 1;have hfz18_2:=blk_frozen BK171.out 2;have hfz18_3:=blk_frozen BK171.out 3;have hfz18_4:=blk_frozen BK171.out 4;have hfz18_5:=blk_frozen BK171.out 5;have hfz18_6:=blk_frozen BK171.out 6)|((with_reducible refine gate_callee (f:=45) rfl ?_);refine goesL_ (some 22) rfl rfl Try.func45 (by kernel_rfl) rfl #[.slice A0_4 l0_4.length c0_4,.string a1] rfl (by (try simp only [List.map_toArray,List.map_cons,List.map_nil]);first|done|rfl|(simp only [List.length_drop,List.length_take];rfl)) ?_;(with_reducible refine (key_Place.calls _ _ l0_4 a1 t173 false _ ?side1 ?side2 A6.out).mono ?_);(case side1=>repeat (first|exact (Kd.C_below HR0_4.out HB.out)|(with_reducible refine Kd.C_alloc ?_ _)|(with_reducible refine Kd.C_drewN ?_ _)|(with_reducible refine Kd.C_drew ?_)));(case side2=>exact HC0_4.out);rintro e w19 ⟨rfl,hb⟩;refine ⟨_,rfl,?_⟩;have n0_:=Aside0.mk (blk_below (g:=gb171) (o:=.cells #[.int .i64 a0_0,.int .i64 a0_1,.int .i64 a0_2,.string a0_3,.slice A0_4 l0_4.length c0_4,.slice A0_5 l0_5.length c0_5,.slice A0_6 l0_6.length c0_6] 25 (0,0)) (by (with_reducible repeat (first|refine blk_drewN ?_ _|refine blk_drew ?_|refine blk_alloc ?_ _));exact BK171.out) hb);have n1_:=Aside0.mk (below_step (by repeat (first|(with_reducible first|exact HB.out|apply below_alloc|apply pw_below_drewN|apply below_drew1|refine below_set ?_ GE171.out)|exact HB.out)) hb);clear BK171;clear HB;have BK171:=n0_;have HB:=n1_;clear n0_ n1_;(try clear hb);(try clear hb2);(try clear hk);(try clear hi);have hcz20_0:w19.cell? ⟨gb171,0,none⟩=some (.int .i64 a0_0):=(blk_cell BK171.out 0).trans rfl;have hcz20_1:w19.cell? ⟨gb171,1,none⟩=some (.int .i64 a0_1):=(blk_cell BK171.out 1).trans rfl;have hcz20_2:w19.cell? ⟨gb171,2,none⟩=some (.int .i64 a0_2):=(blk_cell BK171.out 2).trans rfl;have hcz20_3:w19.cell? ⟨gb171,3,none⟩=some (.string a0_3):=(blk_cell BK171.out 3).trans rfl;have hcz20_4:w19.cell? ⟨gb171,4,none⟩=some (.slice A0_4 l0_4.length c0_4):=(blk_cell BK171.out 4).trans rfl;have hcz20_5:w19.cell? ⟨gb171,5,none⟩=some (.slice A0_5 l0_5.length c0_5):=(blk_cell BK171.out 5).trans rfl;have hcz20_6:w19.cell? ⟨gb171,6,none⟩=some (.slice A0_6 l0_6.length c0_6):=(blk_cell BK171.out 6).trans rfl;have hfz20_0:=blk_frozen BK171.out 0;have hfz20_1:=blk_frozen BK171.out 1;have hfz20_2:=blk_frozen BK171.out 2;have hfz20_3:=blk_frozen BK171.out 3;have hfz20_4:=blk_frozen BK171.out 4;have hfz20_5:=blk_frozen BK171.out 5;have hfz20_6:=blk_frozen BK171.out 6))
    go_ret2
    exact ⟨by first|rfl|(simp [errW_none,errW_some] <;> rfl)|(simp [*,errW_none,errW_some] <;> rfl),by repeat (first|(with_reducible first|exact HB.out|apply below_alloc|apply pw_below_drewN|apply below_drew1|refine below_set ?_ GE171.out)|exact HB.out)⟩
  ·rw [if_neg c7] at H
   have c7b0:decide (0 < a0_0)=false:=decide_eq_false c7
   clear c7
   simp only [Option.some.injEq,Prod.mk.injEq] at H
   obtain ⟨rfl,rfl⟩:=H
   go_enter Try.func37,Try.ntmps37
   go_wp2_with (first|((with_reducible refine gate_dst (N:=3) rfl ?_);refine box_event ?hg (N:=3) ?hd (cs:=#[.int .i64 a0_0,.int .i64 a0_1,.int .i64 a0_2,.string a0_3,.slice A0_4 l0_4.length c0_4,.slice A0_5 l0_5.length c0_5,.slice A0_6 l0_6.length c0_6]) (t:=25) ?hr ?_;(case hd=>rfl);(case hg=>rfl);(case hr=>first|(go_simp;done)|(go_simp;rfl));intro gb171 hg w21 hbox hb;have n0_:=Aside0.mk (below_step (by repeat (first|(with_reducible first|exact HB.out|apply below_alloc|apply pw_below_drewN|apply below_drew1)|exact HB.out)) hb);have n1_:=Aside0.mk (hbox);have n2_:=Aside0.mk ((by rw [hg];exact (below_size (by repeat (first|(with_reducible first|exact HB.out|apply below_alloc|apply pw_below_drewN|apply below_drew1)|exact HB.out))):w.heap.size≤gb171));have n3_:=Aside0.mk ((by rw [hg];exact (below_size (by repeat (first|(with_reducible first|exact HB.out|apply below_alloc|apply pw_below_drewN|apply below_drew1)|exact HB.out))):w.heap.size≤gb171));clear HB;have HB:=n0_;have BK171:=n1_;have GW171:=n2_;have GE171:=n3_;clear n0_ n1_ n2_ n3_;clear hb hbox hg;have hcz22_0:w21.cell? ⟨gb171,0,none⟩=some (.int .i64 a0_0):=(blk_cell BK171.out 0).trans rfl;have hcz22_1:w21.cell? ⟨gb171,1,none⟩=some (.int .i64 a0_1):=(blk_cell BK171.out 1).trans rfl;have hcz22_2:w21.cell? ⟨gb171,2,none⟩=some (.int .i64 a0_2):=(blk_cell BK171.out 2).trans rfl;have hcz22_3:w21.cell? ⟨gb171,3,none⟩=some (.string a0_3):=(blk_cell BK171.out 3).trans rfl;have hcz22_4:w21.cell? ⟨gb171,4,none⟩=some (.slice A0_4 l0_4.length c0_4):=(blk_cell BK171.out 4).trans rfl;have hcz22_5:w21.cell? ⟨gb171,5,none⟩=some (.slice A0_5 l0_5.length c0_5):=(blk_cell BK171.out 5).trans rfl;have hcz22_6:w21.cell? ⟨gb171,6,none⟩=some (.slice A0_6 l0_6.length c0_6):=(blk_cell BK171.out 6).trans rfl;have hfz22_0:=blk_frozen BK171.out 0;have hfz22_1:=blk_frozen BK171.out 1;have hfz22_2:=blk_frozen BK171.out 2;have hfz22_3:=blk_frozen BK171.out 3;have hfz22_4:=blk_frozen BK171.out 4;have hfz22_5:=blk_frozen BK171.out 5;have hfz22_6:=blk_frozen BK171.out 6)|((with_reducible refine gate_callee (f:=44) rfl ?_);refine goesL_ (some 14) rfl rfl Try.func44 (by kernel_rfl) rfl #[.agg #[.int .i64 a0_0,.int .i64 a0_1,.int .i64 a0_2,.string a0_3,.slice A0_4 l0_4.length c0_4,.slice A0_5 l0_5.length c0_5,.slice A0_6 l0_6.length c0_6],.string a1,.string (⟨#[]⟩:ByteArray),.int .i64 a2,.int .i64 2] rfl (by (try simp only [List.map_toArray,List.map_cons,List.map_nil]);first|done|rfl|(simp only [List.length_drop,List.length_take];rfl)) ?_;(with_reducible refine (node_asked.calls k a0_0 a0_1 a0_2 a0_3 _ _ l0_4 _ _ l0_5 _ _ l0_6 a1 (⟨#[]⟩:ByteArray) a2 2 t172 _ ?side1 ?side2 ?side3 ?side4 ?side5 ?side6 A4.out).mono ?_);(case side1=>repeat (first|exact (Kd.C_below HR0_4.out HB.out)|(with_reducible refine Kd.C_alloc ?_ _)|(with_reducible refine Kd.C_drewN ?_ _)|(with_reducible refine Kd.C_drew ?_)));(case side2=>exact HC0_4.out);(case side3=>repeat (first|exact (Kd.C_below HR0_5.out HB.out)|(with_reducible refine Kd.C_alloc ?_ _)|(with_reducible refine Kd.C_drewN ?_ _)|(with_reducible refine Kd.C_drew ?_)));(case side4=>exact HC0_5.out);(case side5=>repeat (first|exact (Kd.C_below HR0_6.out HB.out)|(with_reducible refine Kd.C_alloc ?_ _)|(with_reducible refine Kd.C_drewN ?_ _)|(with_reducible refine Kd.C_drew ?_)));(case side6=>exact HC0_6.out);rintro e w23 ⟨rfl,hb⟩;refine ⟨_,rfl,?_⟩;have n0_:=Aside0.mk (blk_below (g:=gb171) (o:=.cells #[.int .i64 a0_0,.int .i64 a0_1,.int .i64 a0_2,.string a0_3,.slice A0_4 l0_4.length c0_4,.slice A0_5 l0_5.length c0_5,.slice A0_6 l0_6.length c0_6] 25 (0,0)) (by (with_reducible repeat (first|refine blk_drewN ?_ _|refine blk_drew ?_|refine blk_alloc ?_ _));exact BK171.out) hb);have n1_:=Aside0.mk (below_step (by repeat (first|(with_reducible first|exact HB.out|apply below_alloc|apply pw_below_drewN|apply below_drew1|refine below_set ?_ GE171.out)|exact HB.out)) hb);clear BK171;clear HB;have BK171:=n0_;have HB:=n1_;clear n0_ n1_;(try clear hb);(try clear hb2);(try clear hk);(try clear hi);have hcz24_0:w23.cell? ⟨gb171,0,none⟩=some (.int .i64 a0_0):=(blk_cell BK171.out 0).trans rfl;have hcz24_1:w23.cell? ⟨gb171,1,none⟩=some (.int .i64 a0_1):=(blk_cell BK171.out 1).trans rfl;have hcz24_2:w23.cell? ⟨gb171,2,none⟩=some (.int .i64 a0_2):=(blk_cell BK171.out 2).trans rfl;have hcz24_3:w23.cell? ⟨gb171,3,none⟩=some (.string a0_3):=(blk_cell BK171.out 3).trans rfl;have hcz24_4:w23.cell? ⟨gb171,4,none⟩=some (.slice A0_4 l0_4.length c0_4):=(blk_cell BK171.out 4).trans rfl;have hcz24_5:w23.cell? ⟨gb171,5,none⟩=some (.slice A0_5 l0_5.length c0_5):=(blk_cell BK171.out 5).trans rfl;have hcz24_6:w23.cell? ⟨gb171,6,none⟩=some (.slice A0_6 l0_6.length c0_6):=(blk_cell BK171.out 6).trans rfl;have hfz24_0:=blk_frozen BK171.out 0;have hfz24_1:=blk_frozen BK171.out 1;have hfz24_2:=blk_frozen BK171.out 2;have hfz24_3:=blk_frozen BK171.out 3;have hfz24_4:=blk_frozen BK171.out 4;have hfz24_5:=blk_frozen BK171.out 5;have hfz24_6:=blk_frozen BK171.out 6)|((with_reducible refine gate_callee (f:=45) rfl ?_);refine goesL_ (some 22) rfl rfl Try.func45 (by kernel_rfl) rfl #[.slice A0_4 l0_4.length c0_4,.string a1] rfl (by (try simp only [List.map_toArray,List.map_cons,List.map_nil]);first|done|rfl|(simp only [List.length_drop,List.length_take];rfl)) ?_;(with_reducible refine (key_Place.calls _ _ l0_4 a1 t173 t174 _ ?side1 ?side2 A6.out).mono ?_);(case side1=>repeat (first|exact (Kd.C_below HR0_4.out HB.out)|(with_reducible refine Kd.C_alloc ?_ _)|(with_reducible refine Kd.C_drewN ?_ _)|(with_reducible refine Kd.C_drew ?_)));(case side2=>exact HC0_4.out);rintro e w25 ⟨rfl,hb⟩;refine ⟨_,rfl,?_⟩;have n0_:=Aside0.mk (blk_below (g:=gb171) (o:=.cells #[.int .i64 a0_0,.int .i64 a0_1,.int .i64 a0_2,.string a0_3,.slice A0_4 l0_4.length c0_4,.slice A0_5 l0_5.length c0_5,.slice A0_6 l0_6.length c0_6] 25 (0,0)) (by (with_reducible repeat (first|refine blk_drewN ?_ _|refine blk_drew ?_|refine blk_alloc ?_ _));exact BK171.out) hb);have n1_:=Aside0.mk (below_step (by repeat (first|(with_reducible first|exact HB.out|apply below_alloc|apply pw_below_drewN|apply below_drew1|refine below_set ?_ GE171.out)|exact HB.out)) hb);clear BK171;clear HB;have BK171:=n0_;have HB:=n1_;clear n0_ n1_;(try clear hb);(try clear hb2);(try clear hk);(try clear hi);have hcz26_0:w25.cell? ⟨gb171,0,none⟩=some (.int .i64 a0_0):=(blk_cell BK171.out 0).trans rfl;have hcz26_1:w25.cell? ⟨gb171,1,none⟩=some (.int .i64 a0_1):=(blk_cell BK171.out 1).trans rfl;have hcz26_2:w25.cell? ⟨gb171,2,none⟩=some (.int .i64 a0_2):=(blk_cell BK171.out 2).trans rfl;have hcz26_3:w25.cell? ⟨gb171,3,none⟩=some (.string a0_3):=(blk_cell BK171.out 3).trans rfl;have hcz26_4:w25.cell? ⟨gb171,4,none⟩=some (.slice A0_4 l0_4.length c0_4):=(blk_cell BK171.out 4).trans rfl;have hcz26_5:w25.cell? ⟨gb171,5,none⟩=some (.slice A0_5 l0_5.length c0_5):=(blk_cell BK171.out 5).trans rfl;have hcz26_6:w25.cell? ⟨gb171,6,none⟩=some (.slice A0_6 l0_6.length c0_6):=(blk_cell BK171.out 6).trans rfl;have hfz26_0:=blk_frozen BK171.out 0;have hfz26_1:=blk_frozen BK171.out 1;have hfz26_2:=blk_frozen BK171.out 2;have hfz26_3:=blk_frozen BK171.out 3;have hfz26_4:=blk_frozen BK171.out 4;have hfz26_5:=blk_frozen BK171.out 5;have hfz26_6:=blk_frozen BK171.out 6))
   go_ret2
   exact ⟨by first|rfl|(simp [errW_none,errW_some] <;> rfl)|(simp [*,errW_none,errW_some] <;> rfl),by repeat (first|(with_reducible first|exact HB.out|apply below_alloc|apply pw_below_drewN|apply below_drew1|refine below_set ?_ GE171.out)|exact HB.out)⟩
 ·rw [if_neg c5] at H
  have c5b0:(t172==0)=false:=beq_eq_false_iff_ne.mpr c5
  have c5b1:(t172 != 0)=true:=bne_iff_ne.mpr c5
  simp only [Option.some.injEq,Prod.mk.injEq] at H
  obtain ⟨rfl,rfl⟩:=H
  go_enter Try.func37,Try.ntmps37
  go_wp2_with (first|((with_reducible refine gate_dst (N:=3) rfl ?_);refine box_event ?hg (N:=3) ?hd (cs:=#[.int .i64 a0_0,.int .i64 a0_1,.int .i64 a0_2,.string a0_3,.slice A0_4 l0_4.length c0_4,.slice A0_5 l0_5.length c0_5,.slice A0_6 l0_6.length c0_6]) (t:=25) ?hr ?_;(case hd=>rfl);(case hg=>rfl);(case hr=>first|(go_simp;done)|(go_simp;rfl));intro gb171 hg w27 hbox hb;have n0_:=Aside0.mk (below_step (by repeat (first|(with_reducible first|exact HB.out|apply below_alloc|apply pw_below_drewN|apply below_drew1)|exact HB.out)) hb);have n1_:=Aside0.mk (hbox);have n2_:=Aside0.mk ((by rw [hg];exact (below_size (by repeat (first|(with_reducible first|exact HB.out|apply below_alloc|apply pw_below_drewN|apply below_drew1)|exact HB.out))):w.heap.size≤gb171));have n3_:=Aside0.mk ((by rw [hg];exact (below_size (by repeat (first|(with_reducible first|exact HB.out|apply below_alloc|apply pw_below_drewN|apply below_drew1)|exact HB.out))):w.heap.size≤gb171));clear HB;have HB:=n0_;have BK171:=n1_;have GW171:=n2_;have GE171:=n3_;clear n0_ n1_ n2_ n3_;clear hb hbox hg;have hcz28_0:w27.cell? ⟨gb171,0,none⟩=some (.int .i64 a0_0):=(blk_cell BK171.out 0).trans rfl;have hcz28_1:w27.cell? ⟨gb171,1,none⟩=some (.int .i64 a0_1):=(blk_cell BK171.out 1).trans rfl;have hcz28_2:w27.cell? ⟨gb171,2,none⟩=some (.int .i64 a0_2):=(blk_cell BK171.out 2).trans rfl;have hcz28_3:w27.cell? ⟨gb171,3,none⟩=some (.string a0_3):=(blk_cell BK171.out 3).trans rfl;have hcz28_4:w27.cell? ⟨gb171,4,none⟩=some (.slice A0_4 l0_4.length c0_4):=(blk_cell BK171.out 4).trans rfl;have hcz28_5:w27.cell? ⟨gb171,5,none⟩=some (.slice A0_5 l0_5.length c0_5):=(blk_cell BK171.out 5).trans rfl;have hcz28_6:w27.cell? ⟨gb171,6,none⟩=some (.slice A0_6 l0_6.length c0_6):=(blk_cell BK171.out 6).trans rfl;have hfz28_0:=blk_frozen BK171.out 0;have hfz28_1:=blk_frozen BK171.out 1;have hfz28_2:=blk_frozen BK171.out 2;have hfz28_3:=blk_frozen BK171.out 3;have hfz28_4:=blk_frozen BK171.out 4;have hfz28_5:=blk_frozen BK171.out 5;have hfz28_6:=blk_frozen BK171.out 6)|((with_reducible refine gate_callee (f:=44) rfl ?_);refine goesL_ (some 14) rfl rfl Try.func44 (by kernel_rfl) rfl #[.agg #[.int .i64 a0_0,.int .i64 a0_1,.int .i64 a0_2,.string a0_3,.slice A0_4 l0_4.length c0_4,.slice A0_5 l0_5.length c0_5,.slice A0_6 l0_6.length c0_6],.string a1,.string (⟨#[]⟩:ByteArray),.int .i64 a2,.int .i64 2] rfl (by (try simp only [List.map_toArray,List.map_cons,List.map_nil]);first|done|rfl|(simp only [List.length_drop,List.length_take];rfl)) ?_;(with_reducible refine (node_asked.calls k a0_0 a0_1 a0_2 a0_3 _ _ l0_4 _ _ l0_5 _ _ l0_6 a1 (⟨#[]⟩:ByteArray) a2 2 t172 _ ?side1 ?side2 ?side3 ?side4 ?side5 ?side6 A4.out).mono ?_);(case side1=>repeat (first|exact (Kd.C_below HR0_4.out HB.out)|(with_reducible refine Kd.C_alloc ?_ _)|(with_reducible refine Kd.C_drewN ?_ _)|(with_reducible refine Kd.C_drew ?_)));(case side2=>exact HC0_4.out);(case side3=>repeat (first|exact (Kd.C_below HR0_5.out HB.out)|(with_reducible refine Kd.C_alloc ?_ _)|(with_reducible refine Kd.C_drewN ?_ _)|(with_reducible refine Kd.C_drew ?_)));(case side4=>exact HC0_5.out);(case side5=>repeat (first|exact (Kd.C_below HR0_6.out HB.out)|(with_reducible refine Kd.C_alloc ?_ _)|(with_reducible refine Kd.C_drewN ?_ _)|(with_reducible refine Kd.C_drew ?_)));(case side6=>exact HC0_6.out);rintro e w29 ⟨rfl,hb⟩;refine ⟨_,rfl,?_⟩;have n0_:=Aside0.mk (blk_below (g:=gb171) (o:=.cells #[.int .i64 a0_0,.int .i64 a0_1,.int .i64 a0_2,.string a0_3,.slice A0_4 l0_4.length c0_4,.slice A0_5 l0_5.length c0_5,.slice A0_6 l0_6.length c0_6] 25 (0,0)) (by (with_reducible repeat (first|refine blk_drewN ?_ _|refine blk_drew ?_|refine blk_alloc ?_ _));exact BK171.out) hb);have n1_:=Aside0.mk (below_step (by repeat (first|(with_reducible first|exact HB.out|apply below_alloc|apply pw_below_drewN|apply below_drew1|refine below_set ?_ GE171.out)|exact HB.out)) hb);clear BK171;clear HB;have BK171:=n0_;have HB:=n1_;clear n0_ n1_;(try clear hb);(try clear hb2);(try clear hk);(try clear hi)))
  go_ret2
  exact ⟨by first|rfl|(simp [errW_none,errW_some] <;> rfl)|(simp [*,errW_none,errW_some] <;> rfl),by repeat (first|(with_reducible first|exact HB.out|apply below_alloc|apply pw_below_drewN|apply below_drew1|refine below_set ?_ GE171.out)|exact HB.out)⟩
theorem slices_Clone_string_string.info:(Try.prog.info? 9).map (fun i=>(i.zero,i.size,i.bytes))=some (some (.string ⟨#[]⟩),1,16):=by kernel_rfl
theorem slices_Clone_string_string.empty (w:World):Kd.R Kd.string 9 (w.alloc (.cells #[] 9)) w.heap.size (fun _=>True) (.slice (some ⟨w.heap.size,0,none⟩) 0 0) [] :=
 ⟨fun _ _=>trivial,[],World.ownsRow_lit w #[] 0 (Nat.le_refl _) (by decide) rfl,⟨rfl,fun i x h=>by simp at h⟩⟩
def slices_Clone_string_string.f (l0:List ByteArray):Option (List ByteArray):=if l0.length≤8796093022208 then some l0 else none
set_option maxHeartbeats 4000000 in
set_option maxRecDepth 100000 in
theorem slices_Clone_string_string.calls (A0:Option Addr) (c0:Nat) (l0:List ByteArray) (r:List ByteArray) (w:World) (hr0:Kd.C Kd.string w A0 l0.length l0) (hc0:l0.length≤c0) (h:slices_Clone_string_string.f l0=some r) :
  Calls Try.prog 58 #[.slice A0 l0.length c0] w fun e w'=>∃ v_:Value,e=.returned v_∧Kd.R Kd.string 9 w' w.heap.size (fun _=>True) v_ r∧Below w.heap.size w w':=by
 unfold slices_Clone_string_string.f at h
 split at h
 ·rename_i hn
  injection h with h
  subst h
  cases A0 with
  | none =>
   have hz:l0=[]:=by
    rcases l0 with _|⟨x,l⟩
    ·rfl
    ·obtain ⟨ad,e,_⟩:=hr0.2.2 (by simp)
     cases e
   subst hz
   clear hr0 hc0 hn
   have heq:∀ W,(binOp .eql 22 (.slice none 0 c0) (.slice none 0 0)).run Try.prog W=.ok (.bool true) W:=fun W=>by kernel_rfl
   go_enter Try.func58,Try.ntmps58
   go_wp2
   go_ret
   exact ⟨_,rfl,Kd.R_nil _ _ _ _ _,Below.refl _ _⟩
  | some ad =>
   have HE:=Aside0.mk (slices_Clone_string_string.empty w)
   have HR:=Aside0.mk hr0
   have HN:=Aside0.mk hn
   have hB:=below_alloc (Below.refl w.heap.size w) (.cells #[] 9)
   have HB:=Aside0.mk hB
   have hl:l0.length≤9223372036854775807:=hr0.2.1
   clear hr0 hn hB
   have heq:∀ W,(binOp .eql 22 (.slice (some ad) l0.length c0) (.slice none 0 0)).run Try.prog W=.ok (.bool false) W:=fun W=>by kernel_rfl
   go_enter Try.func58,Try.ntmps58
   go_wp2_with ((with_reducible refine gate_builtin (b:=.append) (xs:=#[.tmp 5,.tmp 6]) rfl ?_);at_builtin;refine Kd.R_append_row (Value.string) (ByteArray.empty) (h1:=fun _=>rfl) (w0:=w) w.heap.size rfl (.tmp 5) (.tmp 6) 22 9 (.string ⟨#[]⟩) 16 rfl Try.underlying22 slices_Clone_string_string.info rfl (by decide) (.slice (some ⟨w.heap.size,0,none⟩) 0 0) [] l0 (some ad) l0.length c0 (fun _=>True) rfl rfl (fun _ _=>trivial) HE.out (Kd.C_below HR.out HB.out) HB.out HB.out.size ?aL ?_;(case aL=>(have:=HN.out;simp;omega));intro v1 w1 ho hbel hg hat;rw [List.nil_append] at ho;(have HO:=Aside0.mk ho);(have HB1:=Aside0.mk hbel);clear ho hbel hg hat)
   go_ret
   exact ⟨_,rfl,HO.out,HB1.out⟩
 ·cases h
theorem slices_Clone_int_int.info:(Try.prog.info? 3).map (fun i=>(i.zero,i.size,i.bytes))=some (some (.int .i64 0),1,8):=by kernel_rfl
theorem slices_Clone_int_int.empty (w:World):Kd.R (Kd.int .i64) 3 (w.alloc (.cells #[] 3)) w.heap.size (fun _=>True) (.slice (some ⟨w.heap.size,0,none⟩) 0 0) [] :=
 ⟨fun _ _=>trivial,[],World.ownsRow_lit w #[] 0 (Nat.le_refl _) (by decide) rfl,⟨rfl,fun i x h=>by simp at h⟩⟩
def slices_Clone_int_int.f (l0:List Int):Option (List Int):=if l0.length≤8796093022208 then some l0 else none
set_option maxHeartbeats 4000000 in
set_option maxRecDepth 100000 in
theorem slices_Clone_int_int.calls (A0:Option Addr) (c0:Nat) (l0:List Int) (r:List Int) (w:World) (hr0:Kd.C (Kd.int .i64) w A0 l0.length l0) (hc0:l0.length≤c0) (h:slices_Clone_int_int.f l0=some r) :
  Calls Try.prog 59 #[.slice A0 l0.length c0] w fun e w'=>∃ v_:Value,e=.returned v_∧Kd.R (Kd.int .i64) 3 w' w.heap.size (fun _=>True) v_ r∧Below w.heap.size w w':=by
 unfold slices_Clone_int_int.f at h
 split at h
 ·rename_i hn
  injection h with h
  subst h
  cases A0 with
  | none =>
   have hz:l0=[]:=by
    rcases l0 with _|⟨x,l⟩
    ·rfl
    ·obtain ⟨ad,e,_⟩:=hr0.2.2 (by simp)
     cases e
   subst hz
   clear hr0 hc0 hn
   have heq:∀ W,(binOp .eql 23 (.slice none 0 c0) (.slice none 0 0)).run Try.prog W=.ok (.bool true) W:=fun W=>by kernel_rfl
   go_enter Try.func59,Try.ntmps59
   go_wp2
   go_ret
   exact ⟨_,rfl,Kd.R_nil _ _ _ _ _,Below.refl _ _⟩
  | some ad =>
   have HE:=Aside0.mk (slices_Clone_int_int.empty w)
   have HR:=Aside0.mk hr0
   have HN:=Aside0.mk hn
   have hB:=below_alloc (Below.refl w.heap.size w) (.cells #[] 3)
   have HB:=Aside0.mk hB
   have hl:l0.length≤9223372036854775807:=hr0.2.1
   clear hr0 hn hB
   have heq:∀ W,(binOp .eql 23 (.slice (some ad) l0.length c0) (.slice none 0 0)).run Try.prog W=.ok (.bool false) W:=fun W=>by kernel_rfl
   go_enter Try.func59,Try.ntmps59
   go_wp2_with ((with_reducible refine gate_builtin (b:=.append) (xs:=#[.tmp 5,.tmp 6]) rfl ?_);at_builtin;refine Kd.R_append_row (Value.int .i64) (0) (h1:=fun _=>rfl) (w0:=w) w.heap.size rfl (.tmp 5) (.tmp 6) 23 3 (.int .i64 0) 8 rfl Try.underlying23 slices_Clone_int_int.info rfl (by decide) (.slice (some ⟨w.heap.size,0,none⟩) 0 0) [] l0 (some ad) l0.length c0 (fun _=>True) rfl rfl (fun _ _=>trivial) HE.out (Kd.C_below HR.out HB.out) HB.out HB.out.size ?aL ?_;(case aL=>(have:=HN.out;simp;omega));intro v1 w1 ho hbel hg hat;rw [List.nil_append] at ho;(have HO:=Aside0.mk ho);(have HB1:=Aside0.mk hbel);clear ho hbel hg hat)
   go_ret
   exact ⟨_,rfl,HO.out,HB1.out⟩
 ·cases h
end Go.Proofs.Ytcocmpblmkdmjaa.Pr
