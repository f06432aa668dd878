-- A part of the text Prx5, thinned by a program of this session.
import Derived.Test.YtgjibcfkjaedfaaTHPrx0
import Derived.Test.YtgjibcfkjaedfaaTHPrx3
import Derived.Test.YtgjibcfkjaedfaaTHPrx4
namespace Go.Proofs.Ytgjibcfkjaedfaa.Pr
open Go.RowKit Go.Proofs.YtgjibcfkjaedfaaW.PrintWords Go.Proofs.YtgjibcfkjaedfaaW.PrintLast Go.Proofs.YtgjibcfkjaedfaaW.PrintMore
attribute [local go_sem] max2_int min2_int max_two min_two max_three min_three max_four min_four
set_option linter.unusedVariables false
set_option linter.unusedSimpArgs false
mutual
def page_Check.j0:Nat→Bool→Int→Int→Int→ByteArray→List ByteArray→List ByteArray→List Int→Option (Int)
 | 0,_,_,_,_,_,_,_,_=>none
 | k+1,x41,x112000,x112001,x112002,x112003,x112004,x112005,x112006=>if x41=true then (some 60) else (page_Check.l0 k x112004 (x112004.length:Int) 0 x112000 x112001 x112002 x112003 x112004 x112005 x112006)
def page_Check.l0:Nat→List ByteArray→Int→Int→Int→Int→Int→ByteArray→List ByteArray→List ByteArray→List Int→Option (Int)
 | 0,_,_,_,_,_,_,_,_,_,_=>none
 | k+1,x43,x44,x45,x112000,x112001,x112002,x112003,x112004,x112005,x112006=>if x45 < x44 then (if 0≤x45 then (if x45 < (x43.length:Int) then ((key_Check.f (rdOf ByteArray.empty x43 x45)).bind fun t121=>(if t121=0 then (if x45 > 0 then (if 0≤(wrap64 (x45 - 1)) then (if (wrap64 (x45 - 1)) < (x112004.length:Int) then (if ((Op.bytesLess ((rdOf ByteArray.empty x112004 (wrap64 (x45 - 1))).toList) ((rdOf ByteArray.empty x43 x45).toList))=true) then (if x112003.toList=([]:List UInt8) then (page_Check.l0 k x43 x44 (wrap64 (x45+1)) x112000 x112001 x112002 x112003 x112004 x112005 x112006) else (if ((Op.bytesLess ((rdOf ByteArray.empty x43 x45).toList) x112003.toList)=true) then (page_Check.l0 k x43 x44 (wrap64 (x45+1)) x112000 x112001 x112002 x112003 x112004 x112005 x112006) else (some 60))) else (some 60)) else (none)) else (none)) else (if x112003.toList=([]:List UInt8) then (page_Check.l0 k x43 x44 (wrap64 (x45+1)) x112000 x112001 x112002 x112003 x112004 x112005 x112006) else (if ((Op.bytesLess ((rdOf ByteArray.empty x43 x45).toList) x112003.toList)=true) then (page_Check.l0 k x43 x44 (wrap64 (x45+1)) x112000 x112001 x112002 x112003 x112004 x112005 x112006) else (some 60)))) else (some 60))) else (none)) else (none)) else (some 0)
end
def page_Check.f (k:Nat) (a0_0:Int) (a0_1:Int) (a0_2:Int) (a0_3:ByteArray) (l0_4:List ByteArray) (l0_5:List ByteArray) (l0_6:List Int):Option (Int):=(page_in.f a0_0 20).bind fun t112=>(if t112=true then ((page_in.f a0_1 1099511627776).bind fun t113=>(if t113=true then ((page_in.f a0_2 4096).bind fun t114=>(if t114=true then (if a0_3.toList=([]:List UInt8) then ((page_parts.f a0_0 a0_1 a0_2 a0_3 l0_4 l0_5 l0_6).bind fun t115=>(if t115=true then ((page_Size.f k a0_0 a0_1 a0_2 a0_3 l0_4 l0_5 l0_6).bind fun t116=>(page_Check.j0 k (decide (t116 > 256)) a0_0 a0_1 a0_2 a0_3 l0_4 l0_5 l0_6)) else (page_Check.j0 k true a0_0 a0_1 a0_2 a0_3 l0_4 l0_5 l0_6))) else ((key_Check.f a0_3).bind fun t117=>(if t117=0 then ((page_parts.f a0_0 a0_1 a0_2 a0_3 l0_4 l0_5 l0_6).bind fun t118=>(if t118=true then ((page_Size.f k a0_0 a0_1 a0_2 a0_3 l0_4 l0_5 l0_6).bind fun t119=>(page_Check.j0 k (decide (t119 > 256)) a0_0 a0_1 a0_2 a0_3 l0_4 l0_5 l0_6)) else (page_Check.j0 k true a0_0 a0_1 a0_2 a0_3 l0_4 l0_5 l0_6))) else (page_Check.j0 k true a0_0 a0_1 a0_2 a0_3 l0_4 l0_5 l0_6)))) else (page_Check.j0 k true a0_0 a0_1 a0_2 a0_3 l0_4 l0_5 l0_6))) else (page_Check.j0 k true a0_0 a0_1 a0_2 a0_3 l0_4 l0_5 l0_6))) else (page_Check.j0 k true a0_0 a0_1 a0_2 a0_3 l0_4 l0_5 l0_6))
set_option maxHeartbeats 8000000 in
set_option maxRecDepth 100000 in
theorem page_Check.calls (k:Nat) (a0_0:Int) (a0_1:Int) (a0_2:Int) (a0_3:ByteArray) (A0_4:Option Addr) (c0_4:Nat) (l0_4:List ByteArray) (A0_5:Option Addr) (c0_5:Nat) (l0_5:List ByteArray) (A0_6:Option Addr) (c0_6:Nat) (l0_6:List Int) (r:Int) (w:World) (hr0_4:Kd.C Kd.string w A0_4 l0_4.length l0_4) (hc0_4:l0_4.length≤c0_4) (hr0_5:Kd.C Kd.string w A0_5 l0_5.length l0_5) (hc0_5:l0_5.length≤c0_5) (hr0_6:Kd.C (Kd.int .i64) w A0_6 l0_6.length l0_6) (hc0_6:l0_6.length≤c0_6) (h:page_Check.f k a0_0 a0_1 a0_2 a0_3 l0_4 l0_5 l0_6=some r) :
  Calls Try.prog 112 #[.agg #[.int .i64 a0_0,.int .i64 a0_1,.int .i64 a0_2,.string a0_3,.slice A0_4 l0_4.length c0_4,.slice A0_5 l0_5.length c0_5,.slice A0_6 l0_6.length c0_6]] w fun e w'=>e=.returned (.int .i64 r)∧Below w.heap.size w w':=by
 have hu113:=Try.underlying113
 have HR0_4:=Aside0.mk hr0_4
 have HC0_4:=Aside0.mk hc0_4
 clear hr0_4 hc0_4
 have HR0_5:=Aside0.mk hr0_5
 have HC0_5:=Aside0.mk hc0_5
 clear hr0_5 hc0_5
 have HR0_6:=Aside0.mk hr0_6
 have HC0_6:=Aside0.mk hc0_6
 clear hr0_6 hc0_6
 have HB:=Aside0.mk (Below.refl w.heap.size w)
 have H:((page_in.f a0_0 20).bind fun t112=>(if t112=true then ((page_in.f a0_1 1099511627776).bind fun t113=>(if t113=true then ((page_in.f a0_2 4096).bind fun t114=>(if t114=true then (if a0_3.toList=([]:List UInt8) then ((page_parts.f a0_0 a0_1 a0_2 a0_3 l0_4 l0_5 l0_6).bind fun t115=>(if t115=true then ((page_Size.f k a0_0 a0_1 a0_2 a0_3 l0_4 l0_5 l0_6).bind fun t116=>(page_Check.j0 k (decide (t116 > 256)) a0_0 a0_1 a0_2 a0_3 l0_4 l0_5 l0_6)) else (page_Check.j0 k true a0_0 a0_1 a0_2 a0_3 l0_4 l0_5 l0_6))) else ((key_Check.f a0_3).bind fun t117=>(if t117=0 then ((page_parts.f a0_0 a0_1 a0_2 a0_3 l0_4 l0_5 l0_6).bind fun t118=>(if t118=true then ((page_Size.f k a0_0 a0_1 a0_2 a0_3 l0_4 l0_5 l0_6).bind fun t119=>(page_Check.j0 k (decide (t119 > 256)) a0_0 a0_1 a0_2 a0_3 l0_4 l0_5 l0_6)) else (page_Check.j0 k true a0_0 a0_1 a0_2 a0_3 l0_4 l0_5 l0_6))) else (page_Check.j0 k true a0_0 a0_1 a0_2 a0_3 l0_4 l0_5 l0_6)))) else (page_Check.j0 k true a0_0 a0_1 a0_2 a0_3 l0_4 l0_5 l0_6))) else (page_Check.j0 k true a0_0 a0_1 a0_2 a0_3 l0_4 l0_5 l0_6))) else (page_Check.j0 k true a0_0 a0_1 a0_2 a0_3 l0_4 l0_5 l0_6)))=some r:=h
 clear h
 have HC2:=Aside0.mk H
 clear H
 go_enter Try.func112,Try.ntmps112
 go_upto_region 1 with (first|((with_reducible refine gate_dst (N:=1) rfl ?_);refine box_event ?hg (N:=1) ?hd (cs:=#[.int .i64 a0_0,.int .i64 a0_1,.int .i64 a0_2,.string a0_3,.slice A0_4 l0_4.length c0_4,.slice A0_5 l0_5.length c0_5,.slice A0_6 l0_6.length c0_6]) (t:=113) ?hr ?_;(case hd=>rfl);(case hg=>rfl);(case hr=>first|(go_simp;done)|(go_simp;rfl));intro gb111 hg w3 hbox hb;have n0_:=Aside0.mk (below_step (by repeat (first|(with_reducible first|exact HB.out|apply below_alloc|apply pw_below_drewN|apply below_drew1)|exact HB.out)) hb);have n1_:=Aside0.mk (hbox);have n2_:=Aside0.mk ((by rw [hg];exact (below_size (by repeat (first|(with_reducible first|exact HB.out|apply below_alloc|apply pw_below_drewN|apply below_drew1)|exact HB.out))):w.heap.size≤gb111));have n3_:=Aside0.mk ((by rw [hg];exact (below_size (by repeat (first|(with_reducible first|exact HB.out|apply below_alloc|apply pw_below_drewN|apply below_drew1)|exact HB.out))):w.heap.size≤gb111));clear HB;have HB:=n0_;have BK111:=n1_;have GW111:=n2_;have GE111:=n3_;clear n0_ n1_ n2_ n3_;clear hb hbox hg))
 (try simp only [Act.put,List.setIfInBounds_toArray,List.set_cons_zero,List.set_cons_succ])
 go_cut [41] (fun v41 wc=>∃ (kq:Nat) (x41_1:Bool),v41=.bool x41_1∧Aside0 (page_Check.j0 kq x41_1 a0_0 a0_1 a0_2 a0_3 l0_4 l0_5 l0_6=some r)∧Aside0 (kq≤k)∧Aside0 (wc.heap[gb111]?=some (.cells #[.int .i64 a0_0,.int .i64 a0_1,.int .i64 a0_2,.string a0_3,(.slice A0_4 l0_4.length c0_4),(.slice A0_5 l0_5.length c0_5),(.slice A0_6 l0_6.length c0_6)] 113 (0,0)))∧Aside0 (Below w.heap.size w wc))
 case first =>
  have H:=HC2.out
  clear HC2
  replace H:=Option.bind_eq_some_iff.mp H
  obtain ⟨t112,A40,H⟩:=H
  try dsimp only at H
  have A4:=Aside0.mk A40
  clear A40
  by_cases c5:t112=true
  ·subst c5
   have H1:((page_in.f a0_1 1099511627776).bind fun t113=>(if t113=true then ((page_in.f a0_2 4096).bind fun t114=>(if t114=true then (if a0_3.toList=([]:List UInt8) then ((page_parts.f a0_0 a0_1 a0_2 a0_3 l0_4 l0_5 l0_6).bind fun t115=>(if t115=true then ((page_Size.f k a0_0 a0_1 a0_2 a0_3 l0_4 l0_5 l0_6).bind fun t116=>(page_Check.j0 k (decide (t116 > 256)) a0_0 a0_1 a0_2 a0_3 l0_4 l0_5 l0_6)) else (page_Check.j0 k true a0_0 a0_1 a0_2 a0_3 l0_4 l0_5 l0_6))) else ((key_Check.f a0_3).bind fun t117=>(if t117=0 then ((page_parts.f a0_0 a0_1 a0_2 a0_3 l0_4 l0_5 l0_6).bind fun t118=>(if t118=true then ((page_Size.f k a0_0 a0_1 a0_2 a0_3 l0_4 l0_5 l0_6).bind fun t119=>(page_Check.j0 k (decide (t119 > 256)) a0_0 a0_1 a0_2 a0_3 l0_4 l0_5 l0_6)) else (page_Check.j0 k true a0_0 a0_1 a0_2 a0_3 l0_4 l0_5 l0_6))) else (page_Check.j0 k true a0_0 a0_1 a0_2 a0_3 l0_4 l0_5 l0_6)))) else (page_Check.j0 k true a0_0 a0_1 a0_2 a0_3 l0_4 l0_5 l0_6))) else (page_Check.j0 k true a0_0 a0_1 a0_2 a0_3 l0_4 l0_5 l0_6)))=some r:=by rw [if_pos rfl] at H;exact H
   clear H
   have H:=H1
   clear H1
   replace H:=Option.bind_eq_some_iff.mp H
   obtain ⟨t113,A60,H⟩:=H
   try dsimp only at H
   have A6:=Aside0.mk A60
   clear A60
   by_cases c7:t113=true
   ·subst c7
    have H1:((page_in.f a0_2 4096).bind fun t114=>(if t114=true then (if a0_3.toList=([]:List UInt8) then ((page_parts.f a0_0 a0_1 a0_2 a0_3 l0_4 l0_5 l0_6).bind fun t115=>(if t115=true then ((page_Size.f k a0_0 a0_1 a0_2 a0_3 l0_4 l0_5 l0_6).bind fun t116=>(page_Check.j0 k (decide (t116 > 256)) a0_0 a0_1 a0_2 a0_3 l0_4 l0_5 l0_6)) else (page_Check.j0 k true a0_0 a0_1 a0_2 a0_3 l0_4 l0_5 l0_6))) else ((key_Check.f a0_3).bind fun t117=>(if t117=0 then ((page_parts.f a0_0 a0_1 a0_2 a0_3 l0_4 l0_5 l0_6).bind fun t118=>(if t118=true then ((page_Size.f k a0_0 a0_1 a0_2 a0_3 l0_4 l0_5 l0_6).bind fun t119=>(page_Check.j0 k (decide (t119 > 256)) a0_0 a0_1 a0_2 a0_3 l0_4 l0_5 l0_6)) else (page_Check.j0 k true a0_0 a0_1 a0_2 a0_3 l0_4 l0_5 l0_6))) else (page_Check.j0 k true a0_0 a0_1 a0_2 a0_3 l0_4 l0_5 l0_6)))) else (page_Check.j0 k true a0_0 a0_1 a0_2 a0_3 l0_4 l0_5 l0_6)))=some r:=by rw [if_pos rfl] at H;exact H
    clear H
    have H:=H1
    clear H1
    replace H:=Option.bind_eq_some_iff.mp H
    obtain ⟨t114,A80,H⟩:=H
    try dsimp only at H
    have A8:=Aside0.mk A80
    clear A80
    by_cases c9:t114=true
    ·subst c9
     have H1:(if a0_3.toList=([]:List UInt8) then ((page_parts.f a0_0 a0_1 a0_2 a0_3 l0_4 l0_5 l0_6).bind fun t115=>(if t115=true then ((page_Size.f k a0_0 a0_1 a0_2 a0_3 l0_4 l0_5 l0_6).bind fun t116=>(page_Check.j0 k (decide (t116 > 256)) a0_0 a0_1 a0_2 a0_3 l0_4 l0_5 l0_6)) else (page_Check.j0 k true a0_0 a0_1 a0_2 a0_3 l0_4 l0_5 l0_6))) else ((key_Check.f a0_3).bind fun t117=>(if t117=0 then ((page_parts.f a0_0 a0_1 a0_2 a0_3 l0_4 l0_5 l0_6).bind fun t118=>(if t118=true then ((page_Size.f k a0_0 a0_1 a0_2 a0_3 l0_4 l0_5 l0_6).bind fun t119=>(page_Check.j0 k (decide (t119 > 256)) a0_0 a0_1 a0_2 a0_3 l0_4 l0_5 l0_6)) else (page_Check.j0 k true a0_0 a0_1 a0_2 a0_3 l0_4 l0_5 l0_6))) else (page_Check.j0 k true a0_0 a0_1 a0_2 a0_3 l0_4 l0_5 l0_6))))=some r:=by rw [if_pos rfl] at H;exact H
     clear H
     have H:=H1
     clear H1
     by_cases c10:a0_3.toList=([]:List UInt8)
     ·rw [if_pos c10] at H
      have c10b0:(a0_3.toList==([]:List UInt8))=true:=beq_iff_eq.mpr c10
      have c10b1:(a0_3.toList != ([]:List UInt8))=false:=bne_eq_false_iff_eq.mpr c10
      clear c10
      (first|rw [c10b0]|(simp only [i64_w,i32_w];rw [c10b0])|skip)
      replace H:=Option.bind_eq_some_iff.mp H
      obtain ⟨t115,A110,H⟩:=H
      try dsimp only at H
      have A11:=Aside0.mk A110
      clear A110
      by_cases c12:t115=true
      ·subst c12
       have H1:((page_Size.f k a0_0 a0_1 a0_2 a0_3 l0_4 l0_5 l0_6).bind fun t116=>(page_Check.j0 k (decide (t116 > 256)) a0_0 a0_1 a0_2 a0_3 l0_4 l0_5 l0_6))=some r:=by rw [if_pos rfl] at H;exact H
       clear H
       have H:=H1
       clear H1
       replace H:=Option.bind_eq_some_iff.mp H
       obtain ⟨t116,A130,H⟩:=H
       try dsimp only at H
       have A13:=Aside0.mk A130
       clear A130
       have H':=Aside0.mk H
       clear H
       have hcz14_0:w3.cell? ⟨gb111,0,none⟩=some (.int .i64 a0_0):=(blk_cell BK111.out 0).trans rfl
       have hcz14_1:w3.cell? ⟨gb111,1,none⟩=some (.int .i64 a0_1):=(blk_cell BK111.out 1).trans rfl
       have hcz14_2:w3.cell? ⟨gb111,2,none⟩=some (.int .i64 a0_2):=(blk_cell BK111.out 2).trans rfl
       have hcz14_3:w3.cell? ⟨gb111,3,none⟩=some (.string a0_3):=(blk_cell BK111.out 3).trans rfl
       have hcz14_4:w3.cell? ⟨gb111,4,none⟩=some (.slice A0_4 l0_4.length c0_4):=(blk_cell BK111.out 4).trans rfl
       have hcz14_5:w3.cell? ⟨gb111,5,none⟩=some (.slice A0_5 l0_5.length c0_5):=(blk_cell BK111.out 5).trans rfl
       have hcz14_6:w3.cell? ⟨gb111,6,none⟩=some (.slice A0_6 l0_6.length c0_6):=(blk_cell BK111.out 6).trans rfl
       have hfz14_0:=blk_frozen BK111.out 0
       have hfz14_1:=blk_frozen BK111.out 1
       have hfz14_2:=blk_frozen BK111.out 2
       have hfz14_3:=blk_frozen BK111.out 3
       have hfz14_4:=blk_frozen BK111.out 4
       have hfz14_5:=blk_frozen BK111.out 5
       have hfz14_6:=blk_frozen BK111.out 6
       go_wp2_with (first|((with_reducible refine gate_callee (f:=115) rfl ?_);refine goesL_ (some 7) rfl rfl Try.func115 (by kernel_rfl) rfl #[.int .i64 a0_0,.int .i64 20] rfl (by (try simp only [List.map_toArray,List.map_cons,List.map_nil]);first|done|rfl|(simp only [List.length_drop,List.length_take];rfl)) ?_;(with_reducible refine (page_in.calls a0_0 20 true _ A4.out).mono ?_);rintro e w' ⟨rfl,⟨nd,rfl⟩⟩;refine ⟨_,rfl,?_⟩)|(go_at_call 115;(with_reducible refine (page_in.calls a0_1 1099511627776 true _ A6.out).mono ?_);rintro e w' ⟨rfl,⟨nd,rfl⟩⟩)|(go_at_call 115;(with_reducible refine (page_in.calls a0_2 4096 true _ A8.out).mono ?_);rintro e w' ⟨rfl,⟨nd,rfl⟩⟩)|(go_at_call 116;(with_reducible refine (page_parts.calls a0_0 a0_1 a0_2 a0_3 _ _ l0_4 _ _ l0_5 _ _ l0_6 true _ ?side1 ?side2 ?side3 ?side4 ?side5 ?side6 A11.out).mono ?_);(case side1=>repeat (first|exact (Kd.C_below HR0_4.out (by repeat (first|(with_reducible first|exact HB.out|apply below_alloc|apply pw_below_drewN|apply below_drew1|refine below_set ?_ GE111.out)|exact HB.out)))|(with_reducible refine Kd.C_alloc ?_ _)|(with_reducible refine Kd.C_drewN ?_ _)|(with_reducible refine Kd.C_drew ?_)));(case side2=>exact HC0_4.out);(case side3=>repeat (first|exact (Kd.C_below HR0_5.out (by repeat (first|(with_reducible first|exact HB.out|apply below_alloc|apply pw_below_drewN|apply below_drew1|refine below_set ?_ GE111.out)|exact HB.out)))|(with_reducible refine Kd.C_alloc ?_ _)|(with_reducible refine Kd.C_drewN ?_ _)|(with_reducible refine Kd.C_drew ?_)));(case side4=>exact HC0_5.out);(case side5=>repeat (first|exact (Kd.C_below HR0_6.out (by repeat (first|(with_reducible first|exact HB.out|apply below_alloc|apply pw_below_drewN|apply below_drew1|refine below_set ?_ GE111.out)|exact HB.out)))|(with_reducible refine Kd.C_alloc ?_ _)|(with_reducible refine Kd.C_drewN ?_ _)|(with_reducible refine Kd.C_drew ?_)));(case side6=>exact HC0_6.out);rintro e w15 ⟨rfl,hb⟩;have n0_:=Aside0.mk (blk_below (g:=gb111) (o:=.cells #[.int .i64 a0_0,.int .i64 a0_1,.int .i64 a0_2,.string a0_3,.slice A0_4 l0_4.length c0_4,.slice A0_5 l0_5.length c0_5,.slice A0_6 l0_6.length c0_6] 113 (0,0)) (by (with_reducible repeat (first|refine blk_drewN ?_ _|refine blk_drew ?_|refine blk_alloc ?_ _));exact BK111.out) hb);have n1_:=Aside0.mk (below_step (by repeat (first|(with_reducible first|exact HB.out|apply below_alloc|apply pw_below_drewN|apply below_drew1|refine below_set ?_ GE111.out)|exact HB.out)) hb);clear BK111;clear HB;have BK111:=n0_;have HB:=n1_;clear n0_ n1_;(try clear hb);(try clear hb2);(try clear hk);(try clear hi);have hcz16_0:w15.cell? ⟨gb111,0,none⟩=some (.int .i64 a0_0):=(blk_cell BK111.out 0).trans rfl;have hcz16_1:w15.cell? ⟨gb111,1,none⟩=some (.int .i64 a0_1):=(blk_cell BK111.out 1).trans rfl;have hcz16_2:w15.cell? ⟨gb111,2,none⟩=some (.int .i64 a0_2):=(blk_cell BK111.out 2).trans rfl;have hcz16_3:w15.cell? ⟨gb111,3,none⟩=some (.string a0_3):=(blk_cell BK111.out 3).trans rfl;have hcz16_4:w15.cell? ⟨gb111,4,none⟩=some (.slice A0_4 l0_4.length c0_4):=(blk_cell BK111.out 4).trans rfl;have hcz16_5:w15.cell? ⟨gb111,5,none⟩=some (.slice A0_5 l0_5.length c0_5):=(blk_cell BK111.out 5).trans rfl;have hcz16_6:w15.cell? ⟨gb111,6,none⟩=some (.slice A0_6 l0_6.length c0_6):=(blk_cell BK111.out 6).trans rfl;have hfz16_0:=blk_frozen BK111.out 0;have hfz16_1:=blk_frozen BK111.out 1;have hfz16_2:=blk_frozen BK111.out 2;have hfz16_3:=blk_frozen BK111.out 3;have hfz16_4:=blk_frozen BK111.out 4;have hfz16_5:=blk_frozen BK111.out 5;have hfz16_6:=blk_frozen BK111.out 6)|(go_at_call 117;(with_reducible refine (page_Size.calls k a0_0 a0_1 a0_2 a0_3 _ _ l0_4 _ _ l0_5 _ _ l0_6 t116 _ ?side1 ?side2 ?side3 ?side4 ?side5 ?side6 A13.out).mono ?_);(case side1=>repeat (first|exact (Kd.C_below HR0_4.out HB.out)|(with_reducible refine Kd.C_alloc ?_ _)|(with_reducible refine Kd.C_drewN ?_ _)|(with_reducible refine Kd.C_drew ?_)));(case side2=>exact HC0_4.out);(case side3=>repeat (first|exact (Kd.C_below HR0_5.out HB.out)|(with_reducible refine Kd.C_alloc ?_ _)|(with_reducible refine Kd.C_drewN ?_ _)|(with_reducible refine Kd.C_drew ?_)));(case side4=>exact HC0_5.out);(case side5=>repeat (first|exact (Kd.C_below HR0_6.out HB.out)|(with_reducible refine Kd.C_alloc ?_ _)|(with_reducible refine Kd.C_drewN ?_ _)|(with_reducible refine Kd.C_drew ?_)));(case side6=>exact HC0_6.out);rintro e w17 ⟨rfl,hb⟩;have n0_:=Aside0.mk (blk_below (g:=gb111) (o:=.cells #[.int .i64 a0_0,.int .i64 a0_1,.int .i64 a0_2,.string a0_3,.slice A0_4 l0_4.length c0_4,.slice A0_5 l0_5.length c0_5,.slice A0_6 l0_6.length c0_6] 113 (0,0)) (by (with_reducible repeat (first|refine blk_drewN ?_ _|refine blk_drew ?_|refine blk_alloc ?_ _));exact BK111.out) hb);have n1_:=Aside0.mk (below_step (by repeat (first|(with_reducible first|exact HB.out|apply below_alloc|apply pw_below_drewN|apply below_drew1|refine below_set ?_ GE111.out)|exact HB.out)) hb);clear BK111;clear HB;have BK111:=n0_;have HB:=n1_;clear n0_ n1_;(try clear hb);(try clear hb2);(try clear hk);(try clear hi)))
       go_meet
       case rel=>exact ⟨_,(decide (t116 > 256)),(by first|rfl|(simp;done)|(simp [*];done)),H',⟨by first|omega|exact Nat.le_refl _⟩,⟨by (with_reducible repeat (first|refine blk_drewN ?_ _|refine blk_drew ?_|refine blk_alloc ?_ _));exact BK111.out⟩,⟨by repeat (first|(with_reducible first|exact HB.out|apply below_alloc|apply pw_below_drewN|apply below_drew1|refine below_set ?_ GE111.out)|exact HB.out)⟩⟩
      ·replace c12:=Bool.eq_false_iff.mpr c12
       subst c12
       have H1:(page_Check.j0 k true a0_0 a0_1 a0_2 a0_3 l0_4 l0_5 l0_6)=some r:=by rw [if_neg (show ¬ (false=true) by decide)] at H;exact H
       clear H
       have H:=H1
       clear H1
       have H':=Aside0.mk H
       clear H
       have hcz18_0:w3.cell? ⟨gb111,0,none⟩=some (.int .i64 a0_0):=(blk_cell BK111.out 0).trans rfl
       have hcz18_1:w3.cell? ⟨gb111,1,none⟩=some (.int .i64 a0_1):=(blk_cell BK111.out 1).trans rfl
       have hcz18_2:w3.cell? ⟨gb111,2,none⟩=some (.int .i64 a0_2):=(blk_cell BK111.out 2).trans rfl
       have hcz18_3:w3.cell? ⟨gb111,3,none⟩=some (.string a0_3):=(blk_cell BK111.out 3).trans rfl
       have hcz18_4:w3.cell? ⟨gb111,4,none⟩=some (.slice A0_4 l0_4.length c0_4):=(blk_cell BK111.out 4).trans rfl
       have hcz18_5:w3.cell? ⟨gb111,5,none⟩=some (.slice A0_5 l0_5.length c0_5):=(blk_cell BK111.out 5).trans rfl
       have hcz18_6:w3.cell? ⟨gb111,6,none⟩=some (.slice A0_6 l0_6.length c0_6):=(blk_cell BK111.out 6).trans rfl
       have hfz18_0:=blk_frozen BK111.out 0
       have hfz18_1:=blk_frozen BK111.out 1
       have hfz18_2:=blk_frozen BK111.out 2
       have hfz18_3:=blk_frozen BK111.out 3
       have hfz18_4:=blk_frozen BK111.out 4
       have hfz18_5:=blk_frozen BK111.out 5
       have hfz18_6:=blk_frozen BK111.out 6
       go_wp2_with (first|((with_reducible refine gate_callee (f:=115) rfl ?_);refine goesL_ (some 7) rfl rfl Try.func115 (by kernel_rfl) rfl #[.int .i64 a0_0,.int .i64 20] rfl (by (try simp only [List.map_toArray,List.map_cons,List.map_nil]);first|done|rfl|(simp only [List.length_drop,List.length_take];rfl)) ?_;(with_reducible refine (page_in.calls a0_0 20 true _ A4.out).mono ?_);rintro e w' ⟨rfl,⟨nd,rfl⟩⟩;refine ⟨_,rfl,?_⟩)|(go_at_call 115;(with_reducible refine (page_in.calls a0_1 1099511627776 true _ A6.out).mono ?_);rintro e w' ⟨rfl,⟨nd,rfl⟩⟩)|(go_at_call 115;(with_reducible refine (page_in.calls a0_2 4096 true _ A8.out).mono ?_);rintro e w' ⟨rfl,⟨nd,rfl⟩⟩)|(go_at_call 116;(with_reducible refine (page_parts.calls a0_0 a0_1 a0_2 a0_3 _ _ l0_4 _ _ l0_5 _ _ l0_6 false _ ?side1 ?side2 ?side3 ?side4 ?side5 ?side6 A11.out).mono ?_);(case side1=>repeat (first|exact (Kd.C_below HR0_4.out (by repeat (first|(with_reducible first|exact HB.out|apply below_alloc|apply pw_below_drewN|apply below_drew1|refine below_set ?_ GE111.out)|exact HB.out)))|(with_reducible refine Kd.C_alloc ?_ _)|(with_reducible refine Kd.C_drewN ?_ _)|(with_reducible refine Kd.C_drew ?_)));(case side2=>exact HC0_4.out);(case side3=>repeat (first|exact (Kd.C_below HR0_5.out (by repeat (first|(with_reducible first|exact HB.out|apply below_alloc|apply pw_below_drewN|apply below_drew1|refine below_set ?_ GE111.out)|exact HB.out)))|(with_reducible refine Kd.C_alloc ?_ _)|(with_reducible refine Kd.C_drewN ?_ _)|(with_reducible refine Kd.C_drew ?_)));(case side4=>exact HC0_5.out);(case side5=>repeat (first|exact (Kd.C_below HR0_6.out (by repeat (first|(with_reducible first|exact HB.out|apply below_alloc|apply pw_below_drewN|apply below_drew1|refine below_set ?_ GE111.out)|exact HB.out)))|(with_reducible refine Kd.C_alloc ?_ _)|(with_reducible refine Kd.C_drewN ?_ _)|(with_reducible refine Kd.C_drew ?_)));(case side6=>exact HC0_6.out);rintro e w19 ⟨rfl,hb⟩;have n0_:=Aside0.mk (blk_below (g:=gb111) (o:=.cells #[.int .i64 a0_0,.int .i64 a0_1,.int .i64 a0_2,.string a0_3,.slice A0_4 l0_4.length c0_4,.slice A0_5 l0_5.length c0_5,.slice A0_6 l0_6.length c0_6] 113 (0,0)) (by (with_reducible repeat (first|refine blk_drewN ?_ _|refine blk_drew ?_|refine blk_alloc ?_ _));exact BK111.out) hb);have n1_:=Aside0.mk (below_step (by repeat (first|(with_reducible first|exact HB.out|apply below_alloc|apply pw_below_drewN|apply below_drew1|refine below_set ?_ GE111.out)|exact HB.out)) hb);clear BK111;clear HB;have BK111:=n0_;have HB:=n1_;clear n0_ n1_;(try clear hb);(try clear hb2);(try clear hk);(try clear hi)))
       go_meet
       case rel=>exact ⟨_,(true),(by first|rfl|(simp;done)|(simp [*];done)),H',⟨by first|omega|exact Nat.le_refl _⟩,⟨by (with_reducible repeat (first|refine blk_drewN ?_ _|refine blk_drew ?_|refine blk_alloc ?_ _));exact BK111.out⟩,⟨by repeat (first|(with_reducible first|exact HB.out|apply below_alloc|apply pw_below_drewN|apply below_drew1|refine below_set ?_ GE111.out)|exact HB.out)⟩⟩
     ·rw [if_neg c10] at H
      have c10b0:(a0_3.toList==([]:List UInt8))=false:=beq_eq_false_iff_ne.mpr c10
      have c10b1:(a0_3.toList != ([]:List UInt8))=true:=bne_iff_ne.mpr c10
      (first|rw [c10b0]|(simp only [i64_w,i32_w];rw [c10b0])|skip)
      replace H:=Option.bind_eq_some_iff.mp H
      obtain ⟨t117,A200,H⟩:=H
      try dsimp only at H
      have A20:=Aside0.mk A200
      clear A200
      by_cases c21:t117=0
      ·rw [if_pos c21] at H
       have c21b0:(t117==0)=true:=beq_iff_eq.mpr c21
       have c21b1:(t117 != 0)=false:=bne_eq_false_iff_eq.mpr c21
       clear c21
       replace H:=Option.bind_eq_some_iff.mp H
       obtain ⟨t118,A220,H⟩:=H
       try dsimp only at H
       have A22:=Aside0.mk A220
       clear A220
       by_cases c23:t118=true
       ·subst c23
        have H1:((page_Size.f k a0_0 a0_1 a0_2 a0_3 l0_4 l0_5 l0_6).bind fun t119=>(page_Check.j0 k (decide (t119 > 256)) a0_0 a0_1 a0_2 a0_3 l0_4 l0_5 l0_6))=some r:=by rw [if_pos rfl] at H;exact H
        clear H
        have H:=H1
        clear H1
        replace H:=Option.bind_eq_some_iff.mp H
        obtain ⟨t119,A240,H⟩:=H
        try dsimp only at H
        have A24:=Aside0.mk A240
        clear A240
        have H':=Aside0.mk H
        clear H
        have hcz25_0:w3.cell? ⟨gb111,0,none⟩=some (.int .i64 a0_0):=(blk_cell BK111.out 0).trans rfl
        have hcz25_1:w3.cell? ⟨gb111,1,none⟩=some (.int .i64 a0_1):=(blk_cell BK111.out 1).trans rfl
        have hcz25_2:w3.cell? ⟨gb111,2,none⟩=some (.int .i64 a0_2):=(blk_cell BK111.out 2).trans rfl
        have hcz25_3:w3.cell? ⟨gb111,3,none⟩=some (.string a0_3):=(blk_cell BK111.out 3).trans rfl
        have hcz25_4:w3.cell? ⟨gb111,4,none⟩=some (.slice A0_4 l0_4.length c0_4):=(blk_cell BK111.out 4).trans rfl
        have hcz25_5:w3.cell? ⟨gb111,5,none⟩=some (.slice A0_5 l0_5.length c0_5):=(blk_cell BK111.out 5).trans rfl
        have hcz25_6:w3.cell? ⟨gb111,6,none⟩=some (.slice A0_6 l0_6.length c0_6):=(blk_cell BK111.out 6).trans rfl
        have hfz25_0:=blk_frozen BK111.out 0
        have hfz25_1:=blk_frozen BK111.out 1
        have hfz25_2:=blk_frozen BK111.out 2
        have hfz25_3:=blk_frozen BK111.out 3
        have hfz25_4:=blk_frozen BK111.out 4
        have hfz25_5:=blk_frozen BK111.out 5
        have hfz25_6:=blk_frozen BK111.out 6
        go_wp2_with (first|((with_reducible refine gate_callee (f:=115) rfl ?_);refine goesL_ (some 7) rfl rfl Try.func115 (by kernel_rfl) rfl #[.int .i64 a0_0,.int .i64 20] rfl (by (try simp only [List.map_toArray,List.map_cons,List.map_nil]);first|done|rfl|(simp only [List.length_drop,List.length_take];rfl)) ?_;(with_reducible refine (page_in.calls a0_0 20 true _ A4.out).mono ?_);rintro e w' ⟨rfl,⟨nd,rfl⟩⟩;refine ⟨_,rfl,?_⟩)|(go_at_call 115;(with_reducible refine (page_in.calls a0_1 1099511627776 true _ A6.out).mono ?_);rintro e w' ⟨rfl,⟨nd,rfl⟩⟩)|(go_at_call 115;(with_reducible refine (page_in.calls a0_2 4096 true _ A8.out).mono ?_);rintro e w' ⟨rfl,⟨nd,rfl⟩⟩)|(go_at_call 72;(with_reducible refine (key_Check.calls a0_3 t117 _ A20.out).mono ?_);rintro e w' ⟨rfl,⟨nd,rfl⟩⟩)|(go_at_call 116;(with_reducible refine (page_parts.calls a0_0 a0_1 a0_2 a0_3 _ _ l0_4 _ _ l0_5 _ _ l0_6 true _ ?side1 ?side2 ?side3 ?side4 ?side5 ?side6 A22.out).mono ?_);(case side1=>repeat (first|exact (Kd.C_below HR0_4.out (by repeat (first|(with_reducible first|exact HB.out|apply below_alloc|apply pw_below_drewN|apply below_drew1|refine below_set ?_ GE111.out)|exact HB.out)))|(with_reducible refine Kd.C_alloc ?_ _)|(with_reducible refine Kd.C_drewN ?_ _)|(with_reducible refine Kd.C_drew ?_)));(case side2=>exact HC0_4.out);(case side3=>repeat (first|exact (Kd.C_below HR0_5.out (by repeat (first|(with_reducible first|exact HB.out|apply below_alloc|apply pw_below_drewN|apply below_drew1|refine below_set ?_ GE111.out)|exact HB.out)))|(with_reducible refine Kd.C_alloc ?_ _)|(with_reducible refine Kd.C_drewN ?_ _)|(with_reducible refine Kd.C_drew ?_)));(case side4=>exact HC0_5.out);(case side5=>repeat (first|exact (Kd.C_below HR0_6.out (by repeat (first|(with_reducible first|exact HB.out|apply below_alloc|apply pw_below_drewN|apply below_drew1|refine below_set ?_ GE111.out)|exact HB.out)))|(with_reducible refine Kd.C_alloc ?_ _)|(with_reducible refine Kd.C_drewN ?_ _)|(with_reducible refine Kd.C_drew ?_)));(case side6=>exact HC0_6.out);rintro e w26 ⟨rfl,hb⟩;have n0_:=Aside0.mk (blk_below (g:=gb111) (o:=.cells #[.int .i64 a0_0,.int .i64 a0_1,.int .i64 a0_2,.string a0_3,.slice A0_4 l0_4.length c0_4,.slice A0_5 l0_5.length c0_5,.slice A0_6 l0_6.length c0_6] 113 (0,0)) (by (with_reducible repeat (first|refine blk_drewN ?_ _|refine blk_drew ?_|refine blk_alloc ?_ _));exact BK111.out) hb);have n1_:=Aside0.mk (below_step (by repeat (first|(with_reducible first|exact HB.out|apply below_alloc|apply pw_below_drewN|apply below_drew1|refine below_set ?_ GE111.out)|exact HB.out)) hb);clear BK111;clear HB;have BK111:=n0_;have HB:=n1_;clear n0_ n1_;(try clear hb);(try clear hb2);(try clear hk);(try clear hi);have hcz27_0:w26.cell? ⟨gb111,0,none⟩=some (.int .i64 a0_0):=(blk_cell BK111.out 0).trans rfl;have hcz27_1:w26.cell? ⟨gb111,1,none⟩=some (.int .i64 a0_1):=(blk_cell BK111.out 1).trans rfl;have hcz27_2:w26.cell? ⟨gb111,2,none⟩=some (.int .i64 a0_2):=(blk_cell BK111.out 2).trans rfl;have hcz27_3:w26.cell? ⟨gb111,3,none⟩=some (.string a0_3):=(blk_cell BK111.out 3).trans rfl;have hcz27_4:w26.cell? ⟨gb111,4,none⟩=some (.slice A0_4 l0_4.length c0_4):=(blk_cell BK111.out 4).trans rfl;have hcz27_5:w26.cell? ⟨gb111,5,none⟩=some (.slice A0_5 l0_5.length c0_5):=(blk_cell BK111.out 5).trans rfl;have hcz27_6:w26.cell? ⟨gb111,6,none⟩=some (.slice A0_6 l0_6.length c0_6):=(blk_cell BK111.out 6).trans rfl;have hfz27_0:=blk_frozen BK111.out 0;have hfz27_1:=blk_frozen BK111.out 1;have hfz27_2:=blk_frozen BK111.out 2;have hfz27_3:=blk_frozen BK111.out 3;have hfz27_4:=blk_frozen BK111.out 4;have hfz27_5:=blk_frozen BK111.out 5;have hfz27_6:=blk_frozen BK111.out 6)|(go_at_call 117;(with_reducible refine (page_Size.calls k a0_0 a0_1 a0_2 a0_3 _ _ l0_4 _ _ l0_5 _ _ l0_6 t119 _ ?side1 ?side2 ?side3 ?side4 ?side5 ?side6 A24.out).mono ?_);(case side1=>repeat (first|exact (Kd.C_below HR0_4.out HB.out)|(with_reducible refine Kd.C_alloc ?_ _)|(with_reducible refine Kd.C_drewN ?_ _)|(with_reducible refine Kd.C_drew ?_)));(case side2=>exact HC0_4.out);(case side3=>repeat (first|exact (Kd.C_below HR0_5.out HB.out)|(with_reducible refine Kd.C_alloc ?_ _)|(with_reducible refine Kd.C_drewN ?_ _)|(with_reducible refine Kd.C_drew ?_)));(case side4=>exact HC0_5.out);(case side5=>repeat (first|exact (Kd.C_below HR0_6.out HB.out)|(with_reducible refine Kd.C_alloc ?_ _)|(with_reducible refine Kd.C_drewN ?_ _)|(with_reducible refine Kd.C_drew ?_)));(case side6=>exact HC0_6.out);rintro e w28 ⟨rfl,hb⟩;have n0_:=Aside0.mk (blk_below (g:=gb111) (o:=.cells #[.int .i64 a0_0,.int .i64 a0_1,.int .i64 a0_2,.string a0_3,.slice A0_4 l0_4.length c0_4,.slice A0_5 l0_5.length c0_5,.slice A0_6 l0_6.length c0_6] 113 (0,0)) (by (with_reducible repeat (first|refine blk_drewN ?_ _|refine blk_drew ?_|refine blk_alloc ?_ _));exact BK111.out) hb);have n1_:=Aside0.mk (below_step (by repeat (first|(with_reducible first|exact HB.out|apply below_alloc|apply pw_below_drewN|apply below_drew1|refine below_set ?_ GE111.out)|exact HB.out)) hb);clear BK111;clear HB;have BK111:=n0_;have HB:=n1_;clear n0_ n1_;(try clear hb);(try clear hb2);(try clear hk);(try clear hi)))
        go_meet
        case rel=>exact ⟨_,(decide (t119 > 256)),(by first|rfl|(simp;done)|(simp [*];done)),H',⟨by first|omega|exact Nat.le_refl _⟩,⟨by (with_reducible repeat (first|refine blk_drewN ?_ _|refine blk_drew ?_|refine blk_alloc ?_ _));exact BK111.out⟩,⟨by repeat (first|(with_reducible first|exact HB.out|apply below_alloc|apply pw_below_drewN|apply below_drew1|refine below_set ?_ GE111.out)|exact HB.out)⟩⟩
       ·replace c23:=Bool.eq_false_iff.mpr c23
        subst c23
        have H1:(page_Check.j0 k true a0_0 a0_1 a0_2 a0_3 l0_4 l0_5 l0_6)=some r:=by rw [if_neg (show ¬ (false=true) by decide)] at H;exact H
        clear H
        have H:=H1
        clear H1
        have H':=Aside0.mk H
        clear H
        have hcz29_0:w3.cell? ⟨gb111,0,none⟩=some (.int .i64 a0_0):=(blk_cell BK111.out 0).trans rfl
        have hcz29_1:w3.cell? ⟨gb111,1,none⟩=some (.int .i64 a0_1):=(blk_cell BK111.out 1).trans rfl
        have hcz29_2:w3.cell? ⟨gb111,2,none⟩=some (.int .i64 a0_2):=(blk_cell BK111.out 2).trans rfl
        have hcz29_3:w3.cell? ⟨gb111,3,none⟩=some (.string a0_3):=(blk_cell BK111.out 3).trans rfl
        have hcz29_4:w3.cell? ⟨gb111,4,none⟩=some (.slice A0_4 l0_4.length c0_4):=(blk_cell BK111.out 4).trans rfl
        have hcz29_5:w3.cell? ⟨gb111,5,none⟩=some (.slice A0_5 l0_5.length c0_5):=(blk_cell BK111.out 5).trans rfl
        have hcz29_6:w3.cell? ⟨gb111,6,none⟩=some (.slice A0_6 l0_6.length c0_6):=(blk_cell BK111.out 6).trans rfl
        have hfz29_0:=blk_frozen BK111.out 0
        have hfz29_1:=blk_frozen BK111.out 1
        have hfz29_2:=blk_frozen BK111.out 2
        have hfz29_3:=blk_frozen BK111.out 3
        have hfz29_4:=blk_frozen BK111.out 4
        have hfz29_5:=blk_frozen BK111.out 5
        have hfz29_6:=blk_frozen BK111.out 6
        go_wp2_with (first|((with_reducible refine gate_callee (f:=115) rfl ?_);refine goesL_ (some 7) rfl rfl Try.func115 (by kernel_rfl) rfl #[.int .i64 a0_0,.int .i64 20] rfl (by (try simp only [List.map_toArray,List.map_cons,List.map_nil]);first|done|rfl|(simp only [List.length_drop,List.length_take];rfl)) ?_;(with_reducible refine (page_in.calls a0_0 20 true _ A4.out).mono ?_);rintro e w' ⟨rfl,⟨nd,rfl⟩⟩;refine ⟨_,rfl,?_⟩)|(go_at_call 115;(with_reducible refine (page_in.calls a0_1 1099511627776 true _ A6.out).mono ?_);rintro e w' ⟨rfl,⟨nd,rfl⟩⟩)|(go_at_call 115;(with_reducible refine (page_in.calls a0_2 4096 true _ A8.out).mono ?_);rintro e w' ⟨rfl,⟨nd,rfl⟩⟩)|(go_at_call 72;(with_reducible refine (key_Check.calls a0_3 t117 _ A20.out).mono ?_);rintro e w' ⟨rfl,⟨nd,rfl⟩⟩)|(go_at_call 116;(with_reducible refine (page_parts.calls a0_0 a0_1 a0_2 a0_3 _ _ l0_4 _ _ l0_5 _ _ l0_6 false _ ?side1 ?side2 ?side3 ?side4 ?side5 ?side6 A22.out).mono ?_);(case side1=>repeat (first|exact (Kd.C_below HR0_4.out (by repeat (first|(with_reducible first|exact HB.out|apply below_alloc|apply pw_below_drewN|apply below_drew1|refine below_set ?_ GE111.out)|exact HB.out)))|(with_reducible refine Kd.C_alloc ?_ _)|(with_reducible refine Kd.C_drewN ?_ _)|(with_reducible refine Kd.C_drew ?_)));(case side2=>exact HC0_4.out);(case side3=>repeat (first|exact (Kd.C_below HR0_5.out (by repeat (first|(with_reducible first|exact HB.out|apply below_alloc|apply pw_below_drewN|apply below_drew1|refine below_set ?_ GE111.out)|exact HB.out)))|(with_reducible refine Kd.C_alloc ?_ _)|(with_reducible refine Kd.C_drewN ?_ _)|(with_reducible refine Kd.C_drew ?_)));(case side4=>exact HC0_5.out);(case side5=>repeat (first|exact (Kd.C_below HR0_6.out (by repeat (first|(with_reducible first|exact HB.out|apply below_alloc|apply pw_below_drewN|apply below_drew1|refine below_set ?_ GE111.out)|exact HB.out)))|(with_reducible refine Kd.C_alloc ?_ _)|(with_reducible refine Kd.C_drewN ?_ _)|(with_reducible refine Kd.C_drew ?_)));(case side6=>exact HC0_6.out);rintro e w30 ⟨rfl,hb⟩;have n0_:=Aside0.mk (blk_below (g:=gb111) (o:=.cells #[.int .i64 a0_0,.int .i64 a0_1,.int .i64 a0_2,.string a0_3,.slice A0_4 l0_4.length c0_4,.slice A0_5 l0_5.length c0_5,.slice A0_6 l0_6.length c0_6] 113 (0,0)) (by (with_reducible repeat (first|refine blk_drewN ?_ _|refine blk_drew ?_|refine blk_alloc ?_ _));exact BK111.out) hb);have n1_:=Aside0.mk (below_step (by repeat (first|(with_reducible first|exact HB.out|apply below_alloc|apply pw_below_drewN|apply below_drew1|refine below_set ?_ GE111.out)|exact HB.out)) hb);clear BK111;clear HB;have BK111:=n0_;have HB:=n1_;clear n0_ n1_;(try clear hb);(try clear hb2);(try clear hk);(try clear hi)))
        go_meet
        case rel=>exact ⟨_,(true),(by first|rfl|(simp;done)|(simp [*];done)),H',⟨by first|omega|exact Nat.le_refl _⟩,⟨by (with_reducible repeat (first|refine blk_drewN ?_ _|refine blk_drew ?_|refine blk_alloc ?_ _));exact BK111.out⟩,⟨by repeat (first|(with_reducible first|exact HB.out|apply below_alloc|apply pw_below_drewN|apply below_drew1|refine below_set ?_ GE111.out)|exact HB.out)⟩⟩
      ·rw [if_neg c21] at H
       have c21b0:(t117==0)=false:=beq_eq_false_iff_ne.mpr c21
       have c21b1:(t117 != 0)=true:=bne_iff_ne.mpr c21
       have H':=Aside0.mk H
       clear H
       have hcz31_0:w3.cell? ⟨gb111,0,none⟩=some (.int .i64 a0_0):=(blk_cell BK111.out 0).trans rfl
       have hcz31_1:w3.cell? ⟨gb111,1,none⟩=some (.int .i64 a0_1):=(blk_cell BK111.out 1).trans rfl
       have hcz31_2:w3.cell? ⟨gb111,2,none⟩=some (.int .i64 a0_2):=(blk_cell BK111.out 2).trans rfl
       have hcz31_3:w3.cell? ⟨gb111,3,none⟩=some (.string a0_3):=(blk_cell BK111.out 3).trans rfl
       have hcz31_4:w3.cell? ⟨gb111,4,none⟩=some (.slice A0_4 l0_4.length c0_4):=(blk_cell BK111.out 4).trans rfl
       have hcz31_5:w3.cell? ⟨gb111,5,none⟩=some (.slice A0_5 l0_5.length c0_5):=(blk_cell BK111.out 5).trans rfl
       have hcz31_6:w3.cell? ⟨gb111,6,none⟩=some (.slice A0_6 l0_6.length c0_6):=(blk_cell BK111.out 6).trans rfl
       have hfz31_0:=blk_frozen BK111.out 0
       have hfz31_1:=blk_frozen BK111.out 1
       have hfz31_2:=blk_frozen BK111.out 2
       have hfz31_3:=blk_frozen BK111.out 3
       have hfz31_4:=blk_frozen BK111.out 4
       have hfz31_5:=blk_frozen BK111.out 5
       have hfz31_6:=blk_frozen BK111.out 6
       go_wp2_with (first|((with_reducible refine gate_callee (f:=115) rfl ?_);refine goesL_ (some 7) rfl rfl Try.func115 (by kernel_rfl) rfl #[.int .i64 a0_0,.int .i64 20] rfl (by (try simp only [List.map_toArray,List.map_cons,List.map_nil]);first|done|rfl|(simp only [List.length_drop,List.length_take];rfl)) ?_;(with_reducible refine (page_in.calls a0_0 20 true _ A4.out).mono ?_);rintro e w' ⟨rfl,⟨nd,rfl⟩⟩;refine ⟨_,rfl,?_⟩)|(go_at_call 115;(with_reducible refine (page_in.calls a0_1 1099511627776 true _ A6.out).mono ?_);rintro e w' ⟨rfl,⟨nd,rfl⟩⟩)|(go_at_call 115;(with_reducible refine (page_in.calls a0_2 4096 true _ A8.out).mono ?_);rintro e w' ⟨rfl,⟨nd,rfl⟩⟩)|(go_at_call 72;(with_reducible refine (key_Check.calls a0_3 t117 _ A20.out).mono ?_);rintro e w' ⟨rfl,⟨nd,rfl⟩⟩))
       go_meet
       case rel=>exact ⟨_,(true),(by first|rfl|(simp;done)|(simp [*];done)),H',⟨by first|omega|exact Nat.le_refl _⟩,⟨by (with_reducible repeat (first|refine blk_drewN ?_ _|refine blk_drew ?_|refine blk_alloc ?_ _));exact BK111.out⟩,⟨by repeat (first|(with_reducible first|exact HB.out|apply below_alloc|apply pw_below_drewN|apply below_drew1|refine below_set ?_ GE111.out)|exact HB.out)⟩⟩
    ·replace c9:=Bool.eq_false_iff.mpr c9
     subst c9
     have H1:(page_Check.j0 k true a0_0 a0_1 a0_2 a0_3 l0_4 l0_5 l0_6)=some r:=by rw [if_neg (show ¬ (false=true) by decide)] at H;exact H
     clear H
     have H:=H1
     clear H1
     have H':=Aside0.mk H
     clear H
     have hcz32_0:w3.cell? ⟨gb111,0,none⟩=some (.int .i64 a0_0):=(blk_cell BK111.out 0).trans rfl
     have hcz32_1:w3.cell? ⟨gb111,1,none⟩=some (.int .i64 a0_1):=(blk_cell BK111.out 1).trans rfl
     have hcz32_2:w3.cell? ⟨gb111,2,none⟩=some (.int .i64 a0_2):=(blk_cell BK111.out 2).trans rfl
     have hcz32_3:w3.cell? ⟨gb111,3,none⟩=some (.string a0_3):=(blk_cell BK111.out 3).trans rfl
     have hcz32_4:w3.cell? ⟨gb111,4,none⟩=some (.slice A0_4 l0_4.length c0_4):=(blk_cell BK111.out 4).trans rfl
     have hcz32_5:w3.cell? ⟨gb111,5,none⟩=some (.slice A0_5 l0_5.length c0_5):=(blk_cell BK111.out 5).trans rfl
     have hcz32_6:w3.cell? ⟨gb111,6,none⟩=some (.slice A0_6 l0_6.length c0_6):=(blk_cell BK111.out 6).trans rfl
     have hfz32_0:=blk_frozen BK111.out 0
     have hfz32_1:=blk_frozen BK111.out 1
     have hfz32_2:=blk_frozen BK111.out 2
     have hfz32_3:=blk_frozen BK111.out 3
     have hfz32_4:=blk_frozen BK111.out 4
     have hfz32_5:=blk_frozen BK111.out 5
     have hfz32_6:=blk_frozen BK111.out 6
     go_wp2_with (first|((with_reducible refine gate_callee (f:=115) rfl ?_);refine goesL_ (some 7) rfl rfl Try.func115 (by kernel_rfl) rfl #[.int .i64 a0_0,.int .i64 20] rfl (by (try simp only [List.map_toArray,List.map_cons,List.map_nil]);first|done|rfl|(simp only [List.length_drop,List.length_take];rfl)) ?_;(with_reducible refine (page_in.calls a0_0 20 true _ A4.out).mono ?_);rintro e w' ⟨rfl,⟨nd,rfl⟩⟩;refine ⟨_,rfl,?_⟩)|(go_at_call 115;(with_reducible refine (page_in.calls a0_1 1099511627776 true _ A6.out).mono ?_);rintro e w' ⟨rfl,⟨nd,rfl⟩⟩)|(go_at_call 115;(with_reducible refine (page_in.calls a0_2 4096 false _ A8.out).mono ?_);rintro e w' ⟨rfl,⟨nd,rfl⟩⟩))
     go_meet
     case rel=>exact ⟨_,(true),(by first|rfl|(simp;done)|(simp [*];done)),H',⟨by first|omega|exact Nat.le_refl _⟩,⟨by (with_reducible repeat (first|refine blk_drewN ?_ _|refine blk_drew ?_|refine blk_alloc ?_ _));exact BK111.out⟩,⟨by repeat (first|(with_reducible first|exact HB.out|apply below_alloc|apply pw_below_drewN|apply below_drew1|refine below_set ?_ GE111.out)|exact HB.out)⟩⟩
   ·replace c7:=Bool.eq_false_iff.mpr c7
    subst c7
    have H1:(page_Check.j0 k true a0_0 a0_1 a0_2 a0_3 l0_4 l0_5 l0_6)=some r:=by rw [if_neg (show ¬ (false=true) by decide)] at H;exact H
    clear H
    have H:=H1
    clear H1
    have H':=Aside0.mk H
    clear H
    have hcz33_0:w3.cell? ⟨gb111,0,none⟩=some (.int .i64 a0_0):=(blk_cell BK111.out 0).trans rfl
    have hcz33_1:w3.cell? ⟨gb111,1,none⟩=some (.int .i64 a0_1):=(blk_cell BK111.out 1).trans rfl
    have hcz33_2:w3.cell? ⟨gb111,2,none⟩=some (.int .i64 a0_2):=(blk_cell BK111.out 2).trans rfl
    have hcz33_3:w3.cell? ⟨gb111,3,none⟩=some (.string a0_3):=(blk_cell BK111.out 3).trans rfl
    have hcz33_4:w3.cell? ⟨gb111,4,none⟩=some (.slice A0_4 l0_4.length c0_4):=(blk_cell BK111.out 4).trans rfl
    have hcz33_5:w3.cell? ⟨gb111,5,none⟩=some (.slice A0_5 l0_5.length c0_5):=(blk_cell BK111.out 5).trans rfl
    have hcz33_6:w3.cell? ⟨gb111,6,none⟩=some (.slice A0_6 l0_6.length c0_6):=(blk_cell BK111.out 6).trans rfl
    have hfz33_0:=blk_frozen BK111.out 0
    have hfz33_1:=blk_frozen BK111.out 1
    have hfz33_2:=blk_frozen BK111.out 2
    have hfz33_3:=blk_frozen BK111.out 3
    have hfz33_4:=blk_frozen BK111.out 4
    have hfz33_5:=blk_frozen BK111.out 5
    have hfz33_6:=blk_frozen BK111.out 6
    go_wp2_with (first|((with_reducible refine gate_callee (f:=115) rfl ?_);refine goesL_ (some 7) rfl rfl Try.func115 (by kernel_rfl) rfl #[.int .i64 a0_0,.int .i64 20] rfl (by (try simp only [List.map_toArray,List.map_cons,List.map_nil]);first|done|rfl|(simp only [List.length_drop,List.length_take];rfl)) ?_;(with_reducible refine (page_in.calls a0_0 20 true _ A4.out).mono ?_);rintro e w' ⟨rfl,⟨nd,rfl⟩⟩;refine ⟨_,rfl,?_⟩)|(go_at_call 115;(with_reducible refine (page_in.calls a0_1 1099511627776 false _ A6.out).mono ?_);rintro e w' ⟨rfl,⟨nd,rfl⟩⟩))
    go_meet
    case rel=>exact ⟨_,(true),(by first|rfl|(simp;done)|(simp [*];done)),H',⟨by first|omega|exact Nat.le_refl _⟩,⟨by (with_reducible repeat (first|refine blk_drewN ?_ _|refine blk_drew ?_|refine blk_alloc ?_ _));exact BK111.out⟩,⟨by repeat (first|(with_reducible first|exact HB.out|apply below_alloc|apply pw_below_drewN|apply below_drew1|refine below_set ?_ GE111.out)|exact HB.out)⟩⟩
  ·replace c5:=Bool.eq_false_iff.mpr c5
   subst c5
   have H1:(page_Check.j0 k true a0_0 a0_1 a0_2 a0_3 l0_4 l0_5 l0_6)=some r:=by rw [if_neg (show ¬ (false=true) by decide)] at H;exact H
   clear H
   have H:=H1
   clear H1
   have H':=Aside0.mk H
   clear H
   have hcz34_0:w3.cell? ⟨gb111,0,none⟩=some (.int .i64 a0_0):=(blk_cell BK111.out 0).trans rfl
   have hcz34_1:w3.cell? ⟨gb111,1,none⟩=some (.int .i64 a0_1):=(blk_cell BK111.out 1).trans rfl
   have hcz34_2:w3.cell? ⟨gb111,2,none⟩=some (.int .i64 a0_2):=(blk_cell BK111.out 2).trans rfl
   have hcz34_3:w3.cell? ⟨gb111,3,none⟩=some (.string a0_3):=(blk_cell BK111.out 3).trans rfl
   have hcz34_4:w3.cell? ⟨gb111,4,none⟩=some (.slice A0_4 l0_4.length c0_4):=(blk_cell BK111.out 4).trans rfl
   have hcz34_5:w3.cell? ⟨gb111,5,none⟩=some (.slice A0_5 l0_5.length c0_5):=(blk_cell BK111.out 5).trans rfl
   have hcz34_6:w3.cell? ⟨gb111,6,none⟩=some (.slice A0_6 l0_6.length c0_6):=(blk_cell BK111.out 6).trans rfl
   have hfz34_0:=blk_frozen BK111.out 0
   have hfz34_1:=blk_frozen BK111.out 1
   have hfz34_2:=blk_frozen BK111.out 2
   have hfz34_3:=blk_frozen BK111.out 3
   have hfz34_4:=blk_frozen BK111.out 4
   have hfz34_5:=blk_frozen BK111.out 5
   have hfz34_6:=blk_frozen BK111.out 6
   go_wp2_with (first|((with_reducible refine gate_callee (f:=115) rfl ?_);refine goesL_ (some 7) rfl rfl Try.func115 (by kernel_rfl) rfl #[.int .i64 a0_0,.int .i64 20] rfl (by (try simp only [List.map_toArray,List.map_cons,List.map_nil]);first|done|rfl|(simp only [List.length_drop,List.length_take];rfl)) ?_;(with_reducible refine (page_in.calls a0_0 20 false _ A4.out).mono ?_);rintro e w' ⟨rfl,⟨nd,rfl⟩⟩;refine ⟨_,rfl,?_⟩))
   go_meet
   case rel=>exact ⟨_,(true),(by first|rfl|(simp;done)|(simp [*];done)),H',⟨by first|omega|exact Nat.le_refl _⟩,⟨by (with_reducible repeat (first|refine blk_drewN ?_ _|refine blk_drew ?_|refine blk_alloc ?_ _));exact BK111.out⟩,⟨by repeat (first|(with_reducible first|exact HB.out|apply below_alloc|apply pw_below_drewN|apply below_drew1|refine below_set ?_ GE111.out)|exact HB.out)⟩⟩
 case rest =>
  clear HC2
  try clear c1
  try clear c2
  try clear p2
  try clear c5
  try clear c7
  try clear c9
  try clear c10
  try clear c10b0
  try clear c10b1
  try clear c11
  try clear c12
  try clear c21
  try clear c21b0
  try clear c21b1
  try clear c23
  try clear hcz14_0
  try clear hcz14_1
  try clear hcz14_2
  try clear hcz14_3
  try clear hcz14_4
  try clear hcz14_5
  try clear hcz14_6
  try clear hcz16_0
  try clear hcz16_1
  try clear hcz16_2
  try clear hcz16_3
  try clear hcz16_4
  try clear hcz16_5
  try clear hcz16_6
  try clear hcz18_0
  try clear hcz18_1
  try clear hcz18_2
  try clear hcz18_3
  try clear hcz18_4
  try clear hcz18_5
  try clear hcz18_6
  try clear hcz25_0
  try clear hcz25_1
  try clear hcz25_2
  try clear hcz25_3
  try clear hcz25_4
  try clear hcz25_5
  try clear hcz25_6
  try clear hcz27_0
  try clear hcz27_1
  try clear hcz27_2
  try clear hcz27_3
  try clear hcz27_4
  try clear hcz27_5
  try clear hcz27_6
  try clear hcz29_0
  try clear hcz29_1
  try clear hcz29_2
  try clear hcz29_3
  try clear hcz29_4
  try clear hcz29_5
  try clear hcz29_6
  try clear hcz31_0
  try clear hcz31_1
  try clear hcz31_2
  try clear hcz31_3
  try clear hcz31_4
  try clear hcz31_5
  try clear hcz31_6
  try clear hcz32_0
  try clear hcz32_1
  try clear hcz32_2
  try clear hcz32_3
  try clear hcz32_4
  try clear hcz32_5
  try clear hcz32_6
  try clear hcz33_0
  try clear hcz33_1
  try clear hcz33_2
  try clear hcz33_3
  try clear hcz33_4
  try clear hcz33_5
  try clear hcz33_6
  try clear hcz34_0
  try clear hcz34_1
  try clear hcz34_2
  try clear hcz34_3
  try clear hcz34_4
  try clear hcz34_5
  try clear hcz34_6
  try clear hfz14_0
  try clear hfz14_1
  try clear hfz14_2
  try clear hfz14_3
  try clear hfz14_4
  try clear hfz14_5
  try clear hfz14_6
  try clear hfz16_0
  try clear hfz16_1
  try clear hfz16_2
  try clear hfz16_3
  try clear hfz16_4
  try clear hfz16_5
  try clear hfz16_6
  try clear hfz18_0
  try clear hfz18_1
  try clear hfz18_2
  try clear hfz18_3
  try clear hfz18_4
  try clear hfz18_5
  try clear hfz18_6
  try clear hfz25_0
  try clear hfz25_1
  try clear hfz25_2
  try clear hfz25_3
  try clear hfz25_4
  try clear hfz25_5
  try clear hfz25_6
  try clear hfz27_0
  try clear hfz27_1
  try clear hfz27_2
  try clear hfz27_3
  try clear hfz27_4
  try clear hfz27_5
  try clear hfz27_6
  try clear hfz29_0
  try clear hfz29_1
  try clear hfz29_2
  try clear hfz29_3
  try clear hfz29_4
  try clear hfz29_5
  try clear hfz29_6
  try clear hfz31_0
  try clear hfz31_1
  try clear hfz31_2
  try clear hfz31_3
  try clear hfz31_4
  try clear hfz31_5
  try clear hfz31_6
  try clear hfz32_0
  try clear hfz32_1
  try clear hfz32_2
  try clear hfz32_3
  try clear hfz32_4
  try clear hfz32_5
  try clear hfz32_6
  try clear hfz33_0
  try clear hfz33_1
  try clear hfz33_2
  try clear hfz33_3
  try clear hfz33_4
  try clear hfz33_5
  try clear hfz33_6
  try clear hfz34_0
  try clear hfz34_1
  try clear hfz34_2
  try clear hfz34_3
  try clear hfz34_4
  try clear hfz34_5
  try clear hfz34_6
  obtain ⟨kq,x41_1,rfl,HA,HJ1,BK111,HB⟩:=hcut
  cases kq with
  | zero=>exact absurd (show none=some _ from HA.out) (by simp)
  | succ kj1 =>
   have H:=HA.out
   clear HA
   simp only [page_Check.j0] at H
   by_cases c35:x41_1=true
   ·subst c35
    have H1:(some 60)=some r:=by rw [if_pos rfl] at H;exact H
    clear H
    have H:=H1
    clear H1
    obtain rfl:=Option.some.inj H
    go_wp2
    go_ret
    exact ⟨by first|rfl|(simp [errW_none,errW_some] <;> rfl)|(simp [*,errW_none,errW_some] <;> rfl),by repeat (first|(with_reducible first|exact HB.out|apply below_alloc|apply pw_below_drewN|apply below_drew1|refine below_set ?_ GE111.out)|exact HB.out)⟩
   ·replace c35:=Bool.eq_false_iff.mpr c35
    subst c35
    have H1:(page_Check.l0 kj1 l0_4 (l0_4.length:Int) 0 a0_0 a0_1 a0_2 a0_3 l0_4 l0_5 l0_6)=some r:=by rw [if_neg (show ¬ (false=true) by decide)] at H;exact H
    clear H
    have H:=H1
    clear H1
    have H':=Aside0.mk H
    clear H
    have hcz36_0:wc.cell? ⟨gb111,0,none⟩=some (.int .i64 a0_0):=(blk_cell BK111.out 0).trans rfl
    have hcz36_1:wc.cell? ⟨gb111,1,none⟩=some (.int .i64 a0_1):=(blk_cell BK111.out 1).trans rfl
    have hcz36_2:wc.cell? ⟨gb111,2,none⟩=some (.int .i64 a0_2):=(blk_cell BK111.out 2).trans rfl
    have hcz36_3:wc.cell? ⟨gb111,3,none⟩=some (.string a0_3):=(blk_cell BK111.out 3).trans rfl
    have hcz36_4:wc.cell? ⟨gb111,4,none⟩=some (.slice A0_4 l0_4.length c0_4):=(blk_cell BK111.out 4).trans rfl
    have hcz36_5:wc.cell? ⟨gb111,5,none⟩=some (.slice A0_5 l0_5.length c0_5):=(blk_cell BK111.out 5).trans rfl
    have hcz36_6:wc.cell? ⟨gb111,6,none⟩=some (.slice A0_6 l0_6.length c0_6):=(blk_cell BK111.out 6).trans rfl
    have hfz36_0:=blk_frozen BK111.out 0
    have hfz36_1:=blk_frozen BK111.out 1
    have hfz36_2:=blk_frozen BK111.out 2
    have hfz36_3:=blk_frozen BK111.out 3
    have hfz36_4:=blk_frozen BK111.out 4
    have hfz36_5:=blk_frozen BK111.out 5
    have hfz36_6:=blk_frozen BK111.out 6
    go_wp2
    go_loopg [45] kj1 (fun kq v45 w'=>∃ (x45_2:Int),v45=.int .i64 x45_2∧Aside0 (page_Check.l0 kq l0_4 (l0_4.length:Int) x45_2 a0_0 a0_1 a0_2 a0_3 l0_4 l0_5 l0_6=some r)∧Aside0 (kq≤kj1)∧Aside0 (w'.heap[gb111]?=some (.cells #[.int .i64 a0_0,.int .i64 a0_1,.int .i64 a0_2,.string a0_3,(.slice A0_4 l0_4.length c0_4),(.slice A0_5 l0_5.length c0_5),(.slice A0_6 l0_6.length c0_6)] 113 (0,0)))∧Aside0 (Below w.heap.size w w'))
    case atStart=>exact ⟨(0),(by first|rfl|(simp;done)|(simp [*];done)),H',⟨Nat.le_refl _⟩,⟨by (with_reducible repeat (first|refine blk_drewN ?_ _|refine blk_drew ?_|refine blk_alloc ?_ _));exact BK111.out⟩,⟨by repeat (first|(with_reducible first|exact HB.out|apply below_alloc|apply pw_below_drewN|apply below_drew1|refine below_set ?_ GE111.out)|exact HB.out)⟩⟩
    case round =>
     clear H'
     try clear c1
     try clear c2
     try clear p2
     try clear c3
     try clear c5
     try clear c7
     try clear c9
     try clear c10
     try clear c10b0
     try clear c10b1
     try clear c11
     try clear c12
     try clear c21
     try clear c21b0
     try clear c21b1
     try clear c23
     try clear c35
     try clear hcz14_0
     try clear hcz14_1
     try clear hcz14_2
     try clear hcz14_3
     try clear hcz14_4
     try clear hcz14_5
     try clear hcz14_6
     try clear hcz16_0
     try clear hcz16_1
     try clear hcz16_2
     try clear hcz16_3
     try clear hcz16_4
     try clear hcz16_5
     try clear hcz16_6
     try clear hcz18_0
     try clear hcz18_1
     try clear hcz18_2
     try clear hcz18_3
     try clear hcz18_4
     try clear hcz18_5
     try clear hcz18_6
     try clear hcz25_0
     try clear hcz25_1
     try clear hcz25_2
     try clear hcz25_3
     try clear hcz25_4
     try clear hcz25_5
     try clear hcz25_6
     try clear hcz27_0
     try clear hcz27_1
     try clear hcz27_2
     try clear hcz27_3
     try clear hcz27_4
     try clear hcz27_5
     try clear hcz27_6
     try clear hcz29_0
     try clear hcz29_1
     try clear hcz29_2
     try clear hcz29_3
     try clear hcz29_4
     try clear hcz29_5
     try clear hcz29_6
     try clear hcz31_0
     try clear hcz31_1
     try clear hcz31_2
     try clear hcz31_3
     try clear hcz31_4
     try clear hcz31_5
     try clear hcz31_6
     try clear hcz32_0
     try clear hcz32_1
     try clear hcz32_2
     try clear hcz32_3
     try clear hcz32_4
     try clear hcz32_5
     try clear hcz32_6
     try clear hcz33_0
     try clear hcz33_1
     try clear hcz33_2
     try clear hcz33_3
     try clear hcz33_4
     try clear hcz33_5
     try clear hcz33_6
     try clear hcz34_0
     try clear hcz34_1
     try clear hcz34_2
     try clear hcz34_3
     try clear hcz34_4
     try clear hcz34_5
     try clear hcz34_6
     try clear hcz36_0
     try clear hcz36_1
     try clear hcz36_2
     try clear hcz36_3
     try clear hcz36_4
     try clear hcz36_5
     try clear hcz36_6
     try clear hfz14_0
     try clear hfz14_1
     try clear hfz14_2
     try clear hfz14_3
     try clear hfz14_4
     try clear hfz14_5
     try clear hfz14_6
     try clear hfz16_0
     try clear hfz16_1
     try clear hfz16_2
     try clear hfz16_3
     try clear hfz16_4
     try clear hfz16_5
     try clear hfz16_6
     try clear hfz18_0
     try clear hfz18_1
     try clear hfz18_2
     try clear hfz18_3
     try clear hfz18_4
     try clear hfz18_5
     try clear hfz18_6
     try clear hfz25_0
     try clear hfz25_1
     try clear hfz25_2
     try clear hfz25_3
     try clear hfz25_4
     try clear hfz25_5
     try clear hfz25_6
     try clear hfz27_0
     try clear hfz27_1
     try clear hfz27_2
     try clear hfz27_3
     try clear hfz27_4
     try clear hfz27_5
     try clear hfz27_6
     try clear hfz29_0
     try clear hfz29_1
     try clear hfz29_2
     try clear hfz29_3
     try clear hfz29_4
     try clear hfz29_5
     try clear hfz29_6
     try clear hfz31_0
     try clear hfz31_1
     try clear hfz31_2
     try clear hfz31_3
     try clear hfz31_4
     try clear hfz31_5
     try clear hfz31_6
     try clear hfz32_0
     try clear hfz32_1
     try clear hfz32_2
     try clear hfz32_3
     try clear hfz32_4
     try clear hfz32_5
     try clear hfz32_6
     try clear hfz33_0
     try clear hfz33_1
     try clear hfz33_2
     try clear hfz33_3
     try clear hfz33_4
     try clear hfz33_5
     try clear hfz33_6
     try clear hfz34_0
     try clear hfz34_1
     try clear hfz34_2
     try clear hfz34_3
     try clear hfz34_4
     try clear hfz34_5
     try clear hfz34_6
     try clear hfz36_0
     try clear hfz36_1
     try clear hfz36_2
     try clear hfz36_3
     try clear hfz36_4
     try clear hfz36_5
     try clear hfz36_6
     try clear p2
     obtain ⟨x45_2,rfl,HA,HK2,BK111,HB⟩:=hrel
     cases gk with
     | zero=>exact absurd (show none=some _ from HA.out) (by simp)
     | succ k2 =>
      have H:=HA.out
      clear HA
      simp only [page_Check.l0] at H
      by_cases c37:x45_2 < (l0_4.length:Int)
      ·rw [if_pos c37] at H
       have c37b0:decide (x45_2 < (l0_4.length:Int))=true:=decide_eq_true c37
       clear c37
       by_cases c38:0≤x45_2
       ·rw [if_pos c38] at H
        have c38b0:decide (0≤x45_2)=true:=decide_eq_true c38
        clear c38
        by_cases c39:x45_2 < (l0_4.length:Int)
        ·rw [if_pos c39] at H
         have c39b0:decide (x45_2 < (l0_4.length:Int))=true:=decide_eq_true c39
         clear c39
         replace H:=Option.bind_eq_some_iff.mp H
         obtain ⟨t121,A400,H⟩:=H
         try dsimp only at H
         have A40:=Aside0.mk A400
         clear A400
         by_cases c41:t121=0
         ·rw [if_pos c41] at H
          have c41b0:(t121==0)=true:=beq_iff_eq.mpr c41
          have c41b1:(t121 != 0)=false:=bne_eq_false_iff_eq.mpr c41
          clear c41
          by_cases c42:x45_2 > 0
          ·rw [if_pos c42] at H
           have c42b0:decide (0 < x45_2)=true:=decide_eq_true c42
           clear c42
           obtain ⟨ji43,hji43⟩:∃ j_:Int,(wrap64 (x45_2 - 1))=j_:=⟨_,rfl⟩
           replace H:(if 0≤(ji43) then (if (ji43) < (l0_4.length:Int) then (if ((Op.bytesLess ((rdOf ByteArray.empty l0_4 (ji43)).toList) ((rdOf ByteArray.empty l0_4 x45_2).toList))=true) then (if a0_3.toList=([]:List UInt8) then (page_Check.l0 k2 l0_4 (l0_4.length:Int) (wrap64 (x45_2+1)) a0_0 a0_1 a0_2 a0_3 l0_4 l0_5 l0_6) else (if ((Op.bytesLess ((rdOf ByteArray.empty l0_4 x45_2).toList) a0_3.toList)=true) then (page_Check.l0 k2 l0_4 (l0_4.length:Int) (wrap64 (x45_2+1)) a0_0 a0_1 a0_2 a0_3 l0_4 l0_5 l0_6) else (some 60))) else (some 60)) else (none)) else (none))=some r:=by first|(rw [hji43] at H;exact H)|(simp only [hji43] at H ⊢;exact H)
           (try rw [hji43] at A40)
           have hji43w:(IntKind.i64.wrap (x45_2 - 1))=ji43:=(i64_w _).trans hji43
           by_cases c44:0≤(ji43)
           ·rw [if_pos c44] at H
            have c44b0:decide (0≤(ji43))=true:=decide_eq_true c44
            clear c44
            by_cases c45:(ji43) < (l0_4.length:Int)
            ·rw [if_pos c45] at H
             have c45b0:decide ((ji43) < (l0_4.length:Int))=true:=decide_eq_true c45
             clear c45
             by_cases c46:((Op.bytesLess ((rdOf ByteArray.empty l0_4 (ji43)).toList) ((rdOf ByteArray.empty l0_4 x45_2).toList))=true)
             ·rw [if_pos c46] at H
              have c46b0:(Op.bytesLess ((rdOf ByteArray.empty l0_4 (ji43)).toList) ((rdOf ByteArray.empty l0_4 x45_2).toList))=true:=c46
              clear c46
              by_cases c47:a0_3.toList=([]:List UInt8)
              ·rw [if_pos c47] at H
               have c47b0:(a0_3.toList==([]:List UInt8))=true:=beq_iff_eq.mpr c47
               have c47b1:(a0_3.toList != ([]:List UInt8))=false:=bne_eq_false_iff_eq.mpr c47
               clear c47
               have H':=Aside0.mk H
               clear H
               have p120:0≤(x45_2:Int):=of_decide_eq_true (by first|(with_reducible assumption)|assumption)
               have q120:x45_2 < (l0_4.length:Int):=of_decide_eq_true (by first|(with_reducible assumption)|assumption)
               obtain ⟨ad120,e120,hx120_0⟩:=Kd.at_string HR0_4.out x45_2 p120 q120
               cases e120
               replace hx120_0:=(HB.out.cell (World.block_lt_of_cell? w _ hx120_0)).trans hx120_0
               replace p120:=eq_true p120
               replace q120:=eq_true q120
               go_wp2_with (first|((with_reducible refine gate_callee (f:=72) rfl ?_);refine goesL_ (some 51) rfl rfl Try.func72 (by kernel_rfl) rfl #[.string (rdOf ByteArray.empty l0_4 x45_2)] rfl (by (try simp only [List.map_toArray,List.map_cons,List.map_nil]);first|done|rfl|(simp only [List.length_drop,List.length_take];rfl)) ?_;(with_reducible refine (key_Check.calls (rdOf ByteArray.empty l0_4 x45_2) t121 _ A40.out).mono ?_);rintro e w' ⟨rfl,⟨nd,rfl⟩⟩;refine ⟨_,rfl,?_⟩;have hcz48_0:wr.cell? ⟨gb111,0,none⟩=some (.int .i64 a0_0):=(blk_cell BK111.out 0).trans rfl;have hcz48_1:wr.cell? ⟨gb111,1,none⟩=some (.int .i64 a0_1):=(blk_cell BK111.out 1).trans rfl;have hcz48_2:wr.cell? ⟨gb111,2,none⟩=some (.int .i64 a0_2):=(blk_cell BK111.out 2).trans rfl;have hcz48_3:wr.cell? ⟨gb111,3,none⟩=some (.string a0_3):=(blk_cell BK111.out 3).trans rfl;have hcz48_4:wr.cell? ⟨gb111,4,none⟩=some (.slice (some ad120) l0_4.length c0_4):=(blk_cell BK111.out 4).trans rfl;have hcz48_5:wr.cell? ⟨gb111,5,none⟩=some (.slice A0_5 l0_5.length c0_5):=(blk_cell BK111.out 5).trans rfl;have hcz48_6:wr.cell? ⟨gb111,6,none⟩=some (.slice A0_6 l0_6.length c0_6):=(blk_cell BK111.out 6).trans rfl;have hfz48_0:=blk_frozen BK111.out 0;have hfz48_1:=blk_frozen BK111.out 1;have hfz48_2:=blk_frozen BK111.out 2;have hfz48_3:=blk_frozen BK111.out 3;have hfz48_4:=blk_frozen BK111.out 4;have hfz48_5:=blk_frozen BK111.out 5;have hfz48_6:=blk_frozen BK111.out 6;have p122:0≤((ji43):Int):=of_decide_eq_true (by first|(with_reducible assumption)|assumption);have q122:(ji43) < (l0_4.length:Int):=of_decide_eq_true (by first|(with_reducible assumption)|assumption);obtain ⟨ad122,e122,hx122_0⟩:=Kd.at_string HR0_4.out (ji43) p122 q122;obtain rfl:ad120=ad122:=(by injection e122);replace hx122_0:=(HB.out.cell (World.block_lt_of_cell? w _ hx122_0)).trans hx122_0;replace p122:=eq_true p122;replace q122:=eq_true q122))
               go_roundg k2
               case measure=>have:=HJ1.out;have:=HK2.out;omega
               case rel=>exact ⟨(wrap64 (x45_2+1)),(by first|rfl|(simp;done)|(simp [*];done)),H',⟨by have:=HJ1.out;have:=HK2.out;omega⟩,⟨by (with_reducible repeat (first|refine blk_drewN ?_ _|refine blk_drew ?_|refine blk_alloc ?_ _));exact BK111.out⟩,⟨by repeat (first|(with_reducible first|exact HB.out|apply below_alloc|apply pw_below_drewN|apply below_drew1|refine below_set ?_ GE111.out)|exact HB.out)⟩⟩
              ·rw [if_neg c47] at H
               have c47b0:(a0_3.toList==([]:List UInt8))=false:=beq_eq_false_iff_ne.mpr c47
               have c47b1:(a0_3.toList != ([]:List UInt8))=true:=bne_iff_ne.mpr c47
               by_cases c49:((Op.bytesLess ((rdOf ByteArray.empty l0_4 x45_2).toList) a0_3.toList)=true)
               ·rw [if_pos c49] at H
                have c49b0:(Op.bytesLess ((rdOf ByteArray.empty l0_4 x45_2).toList) a0_3.toList)=true:=c49
                clear c49
                have H':=Aside0.mk H
                clear H
                have p120:0≤(x45_2:Int):=of_decide_eq_true (by first|(with_reducible assumption)|assumption)
                have q120:x45_2 < (l0_4.length:Int):=of_decide_eq_true (by first|(with_reducible assumption)|assumption)
                obtain ⟨ad120,e120,hx120_0⟩:=Kd.at_string HR0_4.out x45_2 p120 q120
                cases e120
                replace hx120_0:=(HB.out.cell (World.block_lt_of_cell? w _ hx120_0)).trans hx120_0
                replace p120:=eq_true p120
                replace q120:=eq_true q120
                go_wp2_with (first|((with_reducible refine gate_callee (f:=72) rfl ?_);refine goesL_ (some 51) rfl rfl Try.func72 (by kernel_rfl) rfl #[.string (rdOf ByteArray.empty l0_4 x45_2)] rfl (by (try simp only [List.map_toArray,List.map_cons,List.map_nil]);first|done|rfl|(simp only [List.length_drop,List.length_take];rfl)) ?_;(with_reducible refine (key_Check.calls (rdOf ByteArray.empty l0_4 x45_2) t121 _ A40.out).mono ?_);rintro e w' ⟨rfl,⟨nd,rfl⟩⟩;refine ⟨_,rfl,?_⟩;have hcz50_0:wr.cell? ⟨gb111,0,none⟩=some (.int .i64 a0_0):=(blk_cell BK111.out 0).trans rfl;have hcz50_1:wr.cell? ⟨gb111,1,none⟩=some (.int .i64 a0_1):=(blk_cell BK111.out 1).trans rfl;have hcz50_2:wr.cell? ⟨gb111,2,none⟩=some (.int .i64 a0_2):=(blk_cell BK111.out 2).trans rfl;have hcz50_3:wr.cell? ⟨gb111,3,none⟩=some (.string a0_3):=(blk_cell BK111.out 3).trans rfl;have hcz50_4:wr.cell? ⟨gb111,4,none⟩=some (.slice (some ad120) l0_4.length c0_4):=(blk_cell BK111.out 4).trans rfl;have hcz50_5:wr.cell? ⟨gb111,5,none⟩=some (.slice A0_5 l0_5.length c0_5):=(blk_cell BK111.out 5).trans rfl;have hcz50_6:wr.cell? ⟨gb111,6,none⟩=some (.slice A0_6 l0_6.length c0_6):=(blk_cell BK111.out 6).trans rfl;have hfz50_0:=blk_frozen BK111.out 0;have hfz50_1:=blk_frozen BK111.out 1;have hfz50_2:=blk_frozen BK111.out 2;have hfz50_3:=blk_frozen BK111.out 3;have hfz50_4:=blk_frozen BK111.out 4;have hfz50_5:=blk_frozen BK111.out 5;have hfz50_6:=blk_frozen BK111.out 6;have p122:0≤((ji43):Int):=of_decide_eq_true (by first|(with_reducible assumption)|assumption);have q122:(ji43) < (l0_4.length:Int):=of_decide_eq_true (by first|(with_reducible assumption)|assumption);obtain ⟨ad122,e122,hx122_0⟩:=Kd.at_string HR0_4.out (ji43) p122 q122;obtain rfl:ad120=ad122:=(by injection e122);replace hx122_0:=(HB.out.cell (World.block_lt_of_cell? w _ hx122_0)).trans hx122_0;replace p122:=eq_true p122;replace q122:=eq_true q122))
                go_roundg k2
                case measure=>have:=HJ1.out;have:=HK2.out;omega
                case rel=>exact ⟨(wrap64 (x45_2+1)),(by first|rfl|(simp;done)|(simp [*];done)),H',⟨by have:=HJ1.out;have:=HK2.out;omega⟩,⟨by (with_reducible repeat (first|refine blk_drewN ?_ _|refine blk_drew ?_|refine blk_alloc ?_ _));exact BK111.out⟩,⟨by repeat (first|(with_reducible first|exact HB.out|apply below_alloc|apply pw_below_drewN|apply below_drew1|refine below_set ?_ GE111.out)|exact HB.out)⟩⟩
               ·rw [if_neg c49] at H
                have c49b0:(Op.bytesLess ((rdOf ByteArray.empty l0_4 x45_2).toList) a0_3.toList)=false:=by simpa using c49
                clear c49
                obtain rfl:=Option.some.inj H
                have p120:0≤(x45_2:Int):=of_decide_eq_true (by first|(with_reducible assumption)|assumption)
                have q120:x45_2 < (l0_4.length:Int):=of_decide_eq_true (by first|(with_reducible assumption)|assumption)
                obtain ⟨ad120,e120,hx120_0⟩:=Kd.at_string HR0_4.out x45_2 p120 q120
                cases e120
                replace hx120_0:=(HB.out.cell (World.block_lt_of_cell? w _ hx120_0)).trans hx120_0
                replace p120:=eq_true p120
                replace q120:=eq_true q120
                go_wp2_with (first|((with_reducible refine gate_callee (f:=72) rfl ?_);refine goesL_ (some 51) rfl rfl Try.func72 (by kernel_rfl) rfl #[.string (rdOf ByteArray.empty l0_4 x45_2)] rfl (by (try simp only [List.map_toArray,List.map_cons,List.map_nil]);first|done|rfl|(simp only [List.length_drop,List.length_take];rfl)) ?_;(with_reducible refine (key_Check.calls (rdOf ByteArray.empty l0_4 x45_2) t121 _ A40.out).mono ?_);rintro e w' ⟨rfl,⟨nd,rfl⟩⟩;refine ⟨_,rfl,?_⟩;have hcz51_0:wr.cell? ⟨gb111,0,none⟩=some (.int .i64 a0_0):=(blk_cell BK111.out 0).trans rfl;have hcz51_1:wr.cell? ⟨gb111,1,none⟩=some (.int .i64 a0_1):=(blk_cell BK111.out 1).trans rfl;have hcz51_2:wr.cell? ⟨gb111,2,none⟩=some (.int .i64 a0_2):=(blk_cell BK111.out 2).trans rfl;have hcz51_3:wr.cell? ⟨gb111,3,none⟩=some (.string a0_3):=(blk_cell BK111.out 3).trans rfl;have hcz51_4:wr.cell? ⟨gb111,4,none⟩=some (.slice (some ad120) l0_4.length c0_4):=(blk_cell BK111.out 4).trans rfl;have hcz51_5:wr.cell? ⟨gb111,5,none⟩=some (.slice A0_5 l0_5.length c0_5):=(blk_cell BK111.out 5).trans rfl;have hcz51_6:wr.cell? ⟨gb111,6,none⟩=some (.slice A0_6 l0_6.length c0_6):=(blk_cell BK111.out 6).trans rfl;have hfz51_0:=blk_frozen BK111.out 0;have hfz51_1:=blk_frozen BK111.out 1;have hfz51_2:=blk_frozen BK111.out 2;have hfz51_3:=blk_frozen BK111.out 3;have hfz51_4:=blk_frozen BK111.out 4;have hfz51_5:=blk_frozen BK111.out 5;have hfz51_6:=blk_frozen BK111.out 6;have p122:0≤((ji43):Int):=of_decide_eq_true (by first|(with_reducible assumption)|assumption);have q122:(ji43) < (l0_4.length:Int):=of_decide_eq_true (by first|(with_reducible assumption)|assumption);obtain ⟨ad122,e122,hx122_0⟩:=Kd.at_string HR0_4.out (ji43) p122 q122;obtain rfl:ad120=ad122:=(by injection e122);replace hx122_0:=(HB.out.cell (World.block_lt_of_cell? w _ hx122_0)).trans hx122_0;replace p122:=eq_true p122;replace q122:=eq_true q122))
                go_ret
                exact ⟨by first|rfl|(simp [errW_none,errW_some] <;> rfl)|(simp only [← hji43];first|rfl|(simp [errW_none,errW_some] <;> rfl))|(simp [*,errW_none,errW_some] <;> rfl),by repeat (first|(with_reducible first|exact HB.out|apply below_alloc|apply pw_below_drewN|apply below_drew1|refine below_set ?_ GE111.out)|exact HB.out)⟩
             ·rw [if_neg c46] at H
              have c46b0:(Op.bytesLess ((rdOf ByteArray.empty l0_4 (ji43)).toList) ((rdOf ByteArray.empty l0_4 x45_2).toList))=false:=by simpa using c46
              clear c46
              obtain rfl:=Option.some.inj H
              have p120:0≤(x45_2:Int):=of_decide_eq_true (by first|(with_reducible assumption)|assumption)
              have q120:x45_2 < (l0_4.length:Int):=of_decide_eq_true (by first|(with_reducible assumption)|assumption)
              obtain ⟨ad120,e120,hx120_0⟩:=Kd.at_string HR0_4.out x45_2 p120 q120
              cases e120
              replace hx120_0:=(HB.out.cell (World.block_lt_of_cell? w _ hx120_0)).trans hx120_0
              replace p120:=eq_true p120
              replace q120:=eq_true q120
              go_wp2_with (first|((with_reducible refine gate_callee (f:=72) rfl ?_);refine goesL_ (some 51) rfl rfl Try.func72 (by kernel_rfl) rfl #[.string (rdOf ByteArray.empty l0_4 x45_2)] rfl (by (try simp only [List.map_toArray,List.map_cons,List.map_nil]);first|done|rfl|(simp only [List.length_drop,List.length_take];rfl)) ?_;(with_reducible refine (key_Check.calls (rdOf ByteArray.empty l0_4 x45_2) t121 _ A40.out).mono ?_);rintro e w' ⟨rfl,⟨nd,rfl⟩⟩;refine ⟨_,rfl,?_⟩;have hcz52_0:wr.cell? ⟨gb111,0,none⟩=some (.int .i64 a0_0):=(blk_cell BK111.out 0).trans rfl;have hcz52_1:wr.cell? ⟨gb111,1,none⟩=some (.int .i64 a0_1):=(blk_cell BK111.out 1).trans rfl;have hcz52_2:wr.cell? ⟨gb111,2,none⟩=some (.int .i64 a0_2):=(blk_cell BK111.out 2).trans rfl;have hcz52_3:wr.cell? ⟨gb111,3,none⟩=some (.string a0_3):=(blk_cell BK111.out 3).trans rfl;have hcz52_4:wr.cell? ⟨gb111,4,none⟩=some (.slice (some ad120) l0_4.length c0_4):=(blk_cell BK111.out 4).trans rfl;have hcz52_5:wr.cell? ⟨gb111,5,none⟩=some (.slice A0_5 l0_5.length c0_5):=(blk_cell BK111.out 5).trans rfl;have hcz52_6:wr.cell? ⟨gb111,6,none⟩=some (.slice A0_6 l0_6.length c0_6):=(blk_cell BK111.out 6).trans rfl;have hfz52_0:=blk_frozen BK111.out 0;have hfz52_1:=blk_frozen BK111.out 1;have hfz52_2:=blk_frozen BK111.out 2;have hfz52_3:=blk_frozen BK111.out 3;have hfz52_4:=blk_frozen BK111.out 4;have hfz52_5:=blk_frozen BK111.out 5;have hfz52_6:=blk_frozen BK111.out 6;have p122:0≤((ji43):Int):=of_decide_eq_true (by first|(with_reducible assumption)|assumption);have q122:(ji43) < (l0_4.length:Int):=of_decide_eq_true (by first|(with_reducible assumption)|assumption);obtain ⟨ad122,e122,hx122_0⟩:=Kd.at_string HR0_4.out (ji43) p122 q122;obtain rfl:ad120=ad122:=(by injection e122);replace hx122_0:=(HB.out.cell (World.block_lt_of_cell? w _ hx122_0)).trans hx122_0;replace p122:=eq_true p122;replace q122:=eq_true q122))
              go_ret
              exact ⟨by first|rfl|(simp [errW_none,errW_some] <;> rfl)|(simp only [← hji43];first|rfl|(simp [errW_none,errW_some] <;> rfl))|(simp [*,errW_none,errW_some] <;> rfl),by repeat (first|(with_reducible first|exact HB.out|apply below_alloc|apply pw_below_drewN|apply below_drew1|refine below_set ?_ GE111.out)|exact HB.out)⟩
            ·rw [if_neg c45] at H
             exact absurd H (by simp)
           ·rw [if_neg c44] at H
            exact absurd H (by simp)
          ·rw [if_neg c42] at H
           have c42b0:decide (0 < x45_2)=false:=decide_eq_false c42
           clear c42
           by_cases c53:a0_3.toList=([]:List UInt8)
           ·rw [if_pos c53] at H
            have c53b0:(a0_3.toList==([]:List UInt8))=true:=beq_iff_eq.mpr c53
            have c53b1:(a0_3.toList != ([]:List UInt8))=false:=bne_eq_false_iff_eq.mpr c53
            clear c53
            have H':=Aside0.mk H
            clear H
            have p120:0≤(x45_2:Int):=of_decide_eq_true (by first|(with_reducible assumption)|assumption)
            have q120:x45_2 < (l0_4.length:Int):=of_decide_eq_true (by first|(with_reducible assumption)|assumption)
            obtain ⟨ad120,e120,hx120_0⟩:=Kd.at_string HR0_4.out x45_2 p120 q120
            cases e120
            replace hx120_0:=(HB.out.cell (World.block_lt_of_cell? w _ hx120_0)).trans hx120_0
            replace p120:=eq_true p120
            replace q120:=eq_true q120
            go_wp2_with (first|((with_reducible refine gate_callee (f:=72) rfl ?_);refine goesL_ (some 51) rfl rfl Try.func72 (by kernel_rfl) rfl #[.string (rdOf ByteArray.empty l0_4 x45_2)] rfl (by (try simp only [List.map_toArray,List.map_cons,List.map_nil]);first|done|rfl|(simp only [List.length_drop,List.length_take];rfl)) ?_;(with_reducible refine (key_Check.calls (rdOf ByteArray.empty l0_4 x45_2) t121 _ A40.out).mono ?_);rintro e w' ⟨rfl,⟨nd,rfl⟩⟩;refine ⟨_,rfl,?_⟩;have hcz54_0:wr.cell? ⟨gb111,0,none⟩=some (.int .i64 a0_0):=(blk_cell BK111.out 0).trans rfl;have hcz54_1:wr.cell? ⟨gb111,1,none⟩=some (.int .i64 a0_1):=(blk_cell BK111.out 1).trans rfl;have hcz54_2:wr.cell? ⟨gb111,2,none⟩=some (.int .i64 a0_2):=(blk_cell BK111.out 2).trans rfl;have hcz54_3:wr.cell? ⟨gb111,3,none⟩=some (.string a0_3):=(blk_cell BK111.out 3).trans rfl;have hcz54_4:wr.cell? ⟨gb111,4,none⟩=some (.slice (some ad120) l0_4.length c0_4):=(blk_cell BK111.out 4).trans rfl;have hcz54_5:wr.cell? ⟨gb111,5,none⟩=some (.slice A0_5 l0_5.length c0_5):=(blk_cell BK111.out 5).trans rfl;have hcz54_6:wr.cell? ⟨gb111,6,none⟩=some (.slice A0_6 l0_6.length c0_6):=(blk_cell BK111.out 6).trans rfl;have hfz54_0:=blk_frozen BK111.out 0;have hfz54_1:=blk_frozen BK111.out 1;have hfz54_2:=blk_frozen BK111.out 2;have hfz54_3:=blk_frozen BK111.out 3;have hfz54_4:=blk_frozen BK111.out 4;have hfz54_5:=blk_frozen BK111.out 5;have hfz54_6:=blk_frozen BK111.out 6))
            go_roundg k2
            case measure=>have:=HJ1.out;have:=HK2.out;omega
            case rel=>exact ⟨(wrap64 (x45_2+1)),(by first|rfl|(simp;done)|(simp [*];done)),H',⟨by have:=HJ1.out;have:=HK2.out;omega⟩,⟨by (with_reducible repeat (first|refine blk_drewN ?_ _|refine blk_drew ?_|refine blk_alloc ?_ _));exact BK111.out⟩,⟨by repeat (first|(with_reducible first|exact HB.out|apply below_alloc|apply pw_below_drewN|apply below_drew1|refine below_set ?_ GE111.out)|exact HB.out)⟩⟩
           ·rw [if_neg c53] at H
            have c53b0:(a0_3.toList==([]:List UInt8))=false:=beq_eq_false_iff_ne.mpr c53
            have c53b1:(a0_3.toList != ([]:List UInt8))=true:=bne_iff_ne.mpr c53
            by_cases c55:((Op.bytesLess ((rdOf ByteArray.empty l0_4 x45_2).toList) a0_3.toList)=true)
            ·rw [if_pos c55] at H
             have c55b0:(Op.bytesLess ((rdOf ByteArray.empty l0_4 x45_2).toList) a0_3.toList)=true:=c55
             clear c55
             have H':=Aside0.mk H
             clear H
             have p120:0≤(x45_2:Int):=of_decide_eq_true (by first|(with_reducible assumption)|assumption)
             have q120:x45_2 < (l0_4.length:Int):=of_decide_eq_true (by first|(with_reducible assumption)|assumption)
             obtain ⟨ad120,e120,hx120_0⟩:=Kd.at_string HR0_4.out x45_2 p120 q120
             cases e120
             replace hx120_0:=(HB.out.cell (World.block_lt_of_cell? w _ hx120_0)).trans hx120_0
             replace p120:=eq_true p120
             replace q120:=eq_true q120
             go_wp2_with (first|((with_reducible refine gate_callee (f:=72) rfl ?_);refine goesL_ (some 51) rfl rfl Try.func72 (by kernel_rfl) rfl #[.string (rdOf ByteArray.empty l0_4 x45_2)] rfl (by (try simp only [List.map_toArray,List.map_cons,List.map_nil]);first|done|rfl|(simp only [List.length_drop,List.length_take];rfl)) ?_;(with_reducible refine (key_Check.calls (rdOf ByteArray.empty l0_4 x45_2) t121 _ A40.out).mono ?_);rintro e w' ⟨rfl,⟨nd,rfl⟩⟩;refine ⟨_,rfl,?_⟩;have hcz56_0:wr.cell? ⟨gb111,0,none⟩=some (.int .i64 a0_0):=(blk_cell BK111.out 0).trans rfl;have hcz56_1:wr.cell? ⟨gb111,1,none⟩=some (.int .i64 a0_1):=(blk_cell BK111.out 1).trans rfl;have hcz56_2:wr.cell? ⟨gb111,2,none⟩=some (.int .i64 a0_2):=(blk_cell BK111.out 2).trans rfl;have hcz56_3:wr.cell? ⟨gb111,3,none⟩=some (.string a0_3):=(blk_cell BK111.out 3).trans rfl;have hcz56_4:wr.cell? ⟨gb111,4,none⟩=some (.slice (some ad120) l0_4.length c0_4):=(blk_cell BK111.out 4).trans rfl;have hcz56_5:wr.cell? ⟨gb111,5,none⟩=some (.slice A0_5 l0_5.length c0_5):=(blk_cell BK111.out 5).trans rfl;have hcz56_6:wr.cell? ⟨gb111,6,none⟩=some (.slice A0_6 l0_6.length c0_6):=(blk_cell BK111.out 6).trans rfl;have hfz56_0:=blk_frozen BK111.out 0;have hfz56_1:=blk_frozen BK111.out 1;have hfz56_2:=blk_frozen BK111.out 2;have hfz56_3:=blk_frozen BK111.out 3;have hfz56_4:=blk_frozen BK111.out 4;have hfz56_5:=blk_frozen BK111.out 5;have hfz56_6:=blk_frozen BK111.out 6))
             go_roundg k2
             case measure=>have:=HJ1.out;have:=HK2.out;omega
             case rel=>exact ⟨(wrap64 (x45_2+1)),(by first|rfl|(simp;done)|(simp [*];done)),H',⟨by have:=HJ1.out;have:=HK2.out;omega⟩,⟨by (with_reducible repeat (first|refine blk_drewN ?_ _|refine blk_drew ?_|refine blk_alloc ?_ _));exact BK111.out⟩,⟨by repeat (first|(with_reducible first|exact HB.out|apply below_alloc|apply pw_below_drewN|apply below_drew1|refine below_set ?_ GE111.out)|exact HB.out)⟩⟩
            ·rw [if_neg c55] at H
             have c55b0:(Op.bytesLess ((rdOf ByteArray.empty l0_4 x45_2).toList) a0_3.toList)=false:=by simpa using c55
             clear c55
             obtain rfl:=Option.some.inj H
             have p120:0≤(x45_2:Int):=of_decide_eq_true (by first|(with_reducible assumption)|assumption)
             have q120:x45_2 < (l0_4.length:Int):=of_decide_eq_true (by first|(with_reducible assumption)|assumption)
             obtain ⟨ad120,e120,hx120_0⟩:=Kd.at_string HR0_4.out x45_2 p120 q120
             cases e120
             replace hx120_0:=(HB.out.cell (World.block_lt_of_cell? w _ hx120_0)).trans hx120_0
             replace p120:=eq_true p120
             replace q120:=eq_true q120
             go_wp2_with (first|((with_reducible refine gate_callee (f:=72) rfl ?_);refine goesL_ (some 51) rfl rfl Try.func72 (by kernel_rfl) rfl #[.string (rdOf ByteArray.empty l0_4 x45_2)] rfl (by (try simp only [List.map_toArray,List.map_cons,List.map_nil]);first|done|rfl|(simp only [List.length_drop,List.length_take];rfl)) ?_;(with_reducible refine (key_Check.calls (rdOf ByteArray.empty l0_4 x45_2) t121 _ A40.out).mono ?_);rintro e w' ⟨rfl,⟨nd,rfl⟩⟩;refine ⟨_,rfl,?_⟩;have hcz57_0:wr.cell? ⟨gb111,0,none⟩=some (.int .i64 a0_0):=(blk_cell BK111.out 0).trans rfl;have hcz57_1:wr.cell? ⟨gb111,1,none⟩=some (.int .i64 a0_1):=(blk_cell BK111.out 1).trans rfl;have hcz57_2:wr.cell? ⟨gb111,2,none⟩=some (.int .i64 a0_2):=(blk_cell BK111.out 2).trans rfl;have hcz57_3:wr.cell? ⟨gb111,3,none⟩=some (.string a0_3):=(blk_cell BK111.out 3).trans rfl;have hcz57_4:wr.cell? ⟨gb111,4,none⟩=some (.slice (some ad120) l0_4.length c0_4):=(blk_cell BK111.out 4).trans rfl;have hcz57_5:wr.cell? ⟨gb111,5,none⟩=some (.slice A0_5 l0_5.length c0_5):=(blk_cell BK111.out 5).trans rfl;have hcz57_6:wr.cell? ⟨gb111,6,none⟩=some (.slice A0_6 l0_6.length c0_6):=(blk_cell BK111.out 6).trans rfl;have hfz57_0:=blk_frozen BK111.out 0;have hfz57_1:=blk_frozen BK111.out 1;have hfz57_2:=blk_frozen BK111.out 2;have hfz57_3:=blk_frozen BK111.out 3;have hfz57_4:=blk_frozen BK111.out 4;have hfz57_5:=blk_frozen BK111.out 5;have hfz57_6:=blk_frozen BK111.out 6))
             go_ret
             exact ⟨by first|rfl|(simp [errW_none,errW_some] <;> rfl)|(simp [*,errW_none,errW_some] <;> rfl),by repeat (first|(with_reducible first|exact HB.out|apply below_alloc|apply pw_below_drewN|apply below_drew1|refine below_set ?_ GE111.out)|exact HB.out)⟩
         ·rw [if_neg c41] at H
          have c41b0:(t121==0)=false:=beq_eq_false_iff_ne.mpr c41
          have c41b1:(t121 != 0)=true:=bne_iff_ne.mpr c41
          obtain rfl:=Option.some.inj H
          have p120:0≤(x45_2:Int):=of_decide_eq_true (by first|(with_reducible assumption)|assumption)
          have q120:x45_2 < (l0_4.length:Int):=of_decide_eq_true (by first|(with_reducible assumption)|assumption)
          obtain ⟨ad120,e120,hx120_0⟩:=Kd.at_string HR0_4.out x45_2 p120 q120
          cases e120
          replace hx120_0:=(HB.out.cell (World.block_lt_of_cell? w _ hx120_0)).trans hx120_0
          replace p120:=eq_true p120
          replace q120:=eq_true q120
          go_wp2_with (first|((with_reducible refine gate_callee (f:=72) rfl ?_);refine goesL_ (some 51) rfl rfl Try.func72 (by kernel_rfl) rfl #[.string (rdOf ByteArray.empty l0_4 x45_2)] rfl (by (try simp only [List.map_toArray,List.map_cons,List.map_nil]);first|done|rfl|(simp only [List.length_drop,List.length_take];rfl)) ?_;(with_reducible refine (key_Check.calls (rdOf ByteArray.empty l0_4 x45_2) t121 _ A40.out).mono ?_);rintro e w' ⟨rfl,⟨nd,rfl⟩⟩;refine ⟨_,rfl,?_⟩))
          go_ret
          exact ⟨by first|rfl|(simp [errW_none,errW_some] <;> rfl)|(simp [*,errW_none,errW_some] <;> rfl),by repeat (first|(with_reducible first|exact HB.out|apply below_alloc|apply pw_below_drewN|apply below_drew1|refine below_set ?_ GE111.out)|exact HB.out)⟩
        ·rw [if_neg c39] at H
         exact absurd H (by simp)
       ·rw [if_neg c38] at H
        exact absurd H (by simp)
      ·rw [if_neg c37] at H
       have c37b0:decide (x45_2 < (l0_4.length:Int))=false:=decide_eq_false c37
       clear c37
       obtain rfl:=Option.some.inj H
       go_wp2
       go_ret
       exact ⟨by first|rfl|(simp [errW_none,errW_some] <;> rfl)|(simp [*,errW_none,errW_some] <;> rfl),by repeat (first|(with_reducible first|exact HB.out|apply below_alloc|apply pw_below_drewN|apply below_drew1|refine below_set ?_ GE111.out)|exact HB.out)⟩
end Go.Proofs.Ytgjibcfkjaedfaa.Pr
