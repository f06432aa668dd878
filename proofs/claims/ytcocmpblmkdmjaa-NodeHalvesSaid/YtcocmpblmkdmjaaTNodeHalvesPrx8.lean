-- A part of the text Prx8, thinned by a program of this session.
import Derived.Test.YtcocmpblmkdmjaaTNodeHalvesPrx0
import Derived.Test.YtcocmpblmkdmjaaTNodeHalvesPrx6
import Derived.Test.YtcocmpblmkdmjaaTNodeHalvesPrx4
namespace Go.Proofs.Ytcocmpblmkdmjaa.Pr
open Go.RowKit Go.Proofs.YtcocmpblmkdmjaaW.PrintWords Go.Proofs.YtcocmpblmkdmjaaW.PrintLast Go.Proofs.YtcocmpblmkdmjaaW.PrintMore
attribute [local go_sem] max2_int min2_int max_two min_two max_three min_three max_four min_four
set_option linter.unusedVariables false
set_option linter.unusedSimpArgs false
def node_Further.f (a0_0:Int) (a0_1:Int) (a0_2:Int) (a0_3:ByteArray) (l0_4:List ByteArray) (l0_5:List ByteArray) (l0_6:List Int) (a1:ByteArray):Option (Bool):=if a0_3.toList=([]:List UInt8) then (some false) else (some (!(Op.bytesLess a1.toList a0_3.toList)))
set_option maxHeartbeats 8000000 in
set_option maxRecDepth 100000 in
theorem node_Further.calls (a0_0:Int) (a0_1:Int) (a0_2:Int) (a0_3:ByteArray) (A0_4:Option Addr) (c0_4:Nat) (l0_4:List ByteArray) (A0_5:Option Addr) (c0_5:Nat) (l0_5:List ByteArray) (A0_6:Option Addr) (c0_6:Nat) (l0_6:List Int) (a1:ByteArray) (r:Bool) (w:World) (hr0_4:Kd.C Kd.string w A0_4 l0_4.length l0_4) (hc0_4:l0_4.length≤c0_4) (hr0_5:Kd.C Kd.string w A0_5 l0_5.length l0_5) (hc0_5:l0_5.length≤c0_5) (hr0_6:Kd.C (Kd.int .i64) w A0_6 l0_6.length l0_6) (hc0_6:l0_6.length≤c0_6) (h:node_Further.f a0_0 a0_1 a0_2 a0_3 l0_4 l0_5 l0_6 a1=some r) :
  Calls Try.prog 22 #[.agg #[.int .i64 a0_0,.int .i64 a0_1,.int .i64 a0_2,.string a0_3,.slice A0_4 l0_4.length c0_4,.slice A0_5 l0_5.length c0_5,.slice A0_6 l0_6.length c0_6],.string a1] w fun e w'=>e=.returned (.bool r)∧Below w.heap.size w w':=by
 have hu25:=Try.underlying25
 have HR0_4:=Aside0.mk hr0_4
 have HC0_4:=Aside0.mk hc0_4
 clear hr0_4 hc0_4
 have HR0_5:=Aside0.mk hr0_5
 have HC0_5:=Aside0.mk hc0_5
 clear hr0_5 hc0_5
 have HR0_6:=Aside0.mk hr0_6
 have HC0_6:=Aside0.mk hc0_6
 clear hr0_6 hc0_6
 have HB:=Aside0.mk (Below.refl w.heap.size w)
 have H:(if a0_3.toList=([]:List UInt8) then (some false) else (some (!(Op.bytesLess a1.toList a0_3.toList))))=some r:=h
 clear h
 by_cases c3:a0_3.toList=([]:List UInt8)
 ·rw [if_pos c3] at H
  have c3b0:(a0_3.toList==([]:List UInt8))=true:=beq_iff_eq.mpr c3
  have c3b1:(a0_3.toList != ([]:List UInt8))=false:=bne_eq_false_iff_eq.mpr c3
  clear c3
  obtain rfl:=Option.some.inj H
  go_enter Try.func22,Try.ntmps22
  go_wp2_with (first|((with_reducible refine gate_dst (N:=2) rfl ?_);refine box_event ?hg (N:=2) ?hd (cs:=#[.int .i64 a0_0,.int .i64 a0_1,.int .i64 a0_2,.string a0_3,.slice A0_4 l0_4.length c0_4,.slice A0_5 l0_5.length c0_5,.slice A0_6 l0_6.length c0_6]) (t:=25) ?hr ?_;(case hd=>rfl);(case hg=>rfl);(case hr=>first|(go_simp;done)|(go_simp;rfl));intro gb165 hg w4 hbox hb;have n0_:=Aside0.mk (below_step (by repeat (first|(with_reducible first|exact HB.out|apply below_alloc|apply pw_below_drewN|apply below_drew1)|exact HB.out)) hb);have n1_:=Aside0.mk (hbox);have n2_:=Aside0.mk ((by rw [hg];exact (below_size (by repeat (first|(with_reducible first|exact HB.out|apply below_alloc|apply pw_below_drewN|apply below_drew1)|exact HB.out))):w.heap.size≤gb165));have n3_:=Aside0.mk ((by rw [hg];exact (below_size (by repeat (first|(with_reducible first|exact HB.out|apply below_alloc|apply pw_below_drewN|apply below_drew1)|exact HB.out))):w.heap.size≤gb165));clear HB;have HB:=n0_;have BK165:=n1_;have GW165:=n2_;have GE165:=n3_;clear n0_ n1_ n2_ n3_;clear hb hbox hg;have hcz5_0:w4.cell? ⟨gb165,0,none⟩=some (.int .i64 a0_0):=(blk_cell BK165.out 0).trans rfl;have hcz5_1:w4.cell? ⟨gb165,1,none⟩=some (.int .i64 a0_1):=(blk_cell BK165.out 1).trans rfl;have hcz5_2:w4.cell? ⟨gb165,2,none⟩=some (.int .i64 a0_2):=(blk_cell BK165.out 2).trans rfl;have hcz5_3:w4.cell? ⟨gb165,3,none⟩=some (.string a0_3):=(blk_cell BK165.out 3).trans rfl;have hcz5_4:w4.cell? ⟨gb165,4,none⟩=some (.slice A0_4 l0_4.length c0_4):=(blk_cell BK165.out 4).trans rfl;have hcz5_5:w4.cell? ⟨gb165,5,none⟩=some (.slice A0_5 l0_5.length c0_5):=(blk_cell BK165.out 5).trans rfl;have hcz5_6:w4.cell? ⟨gb165,6,none⟩=some (.slice A0_6 l0_6.length c0_6):=(blk_cell BK165.out 6).trans rfl;have hfz5_0:=blk_frozen BK165.out 0;have hfz5_1:=blk_frozen BK165.out 1;have hfz5_2:=blk_frozen BK165.out 2;have hfz5_3:=blk_frozen BK165.out 3;have hfz5_4:=blk_frozen BK165.out 4;have hfz5_5:=blk_frozen BK165.out 5;have hfz5_6:=blk_frozen BK165.out 6))
  go_ret
  exact ⟨by first|rfl|(simp [errW_none,errW_some] <;> rfl)|(simp [*,errW_none,errW_some] <;> rfl),by repeat (first|(with_reducible first|exact HB.out|apply below_alloc|apply pw_below_drewN|apply below_drew1|refine below_set ?_ GE165.out)|exact HB.out)⟩
 ·rw [if_neg c3] at H
  have c3b0:(a0_3.toList==([]:List UInt8))=false:=beq_eq_false_iff_ne.mpr c3
  have c3b1:(a0_3.toList != ([]:List UInt8))=true:=bne_iff_ne.mpr c3
  obtain rfl:=Option.some.inj H
  go_enter Try.func22,Try.ntmps22
  go_wp2_with (first|((with_reducible refine gate_dst (N:=2) rfl ?_);refine box_event ?hg (N:=2) ?hd (cs:=#[.int .i64 a0_0,.int .i64 a0_1,.int .i64 a0_2,.string a0_3,.slice A0_4 l0_4.length c0_4,.slice A0_5 l0_5.length c0_5,.slice A0_6 l0_6.length c0_6]) (t:=25) ?hr ?_;(case hd=>rfl);(case hg=>rfl);(case hr=>first|(go_simp;done)|(go_simp;rfl));intro gb165 hg w6 hbox hb;have n0_:=Aside0.mk (below_step (by repeat (first|(with_reducible first|exact HB.out|apply below_alloc|apply pw_below_drewN|apply below_drew1)|exact HB.out)) hb);have n1_:=Aside0.mk (hbox);have n2_:=Aside0.mk ((by rw [hg];exact (below_size (by repeat (first|(with_reducible first|exact HB.out|apply below_alloc|apply pw_below_drewN|apply below_drew1)|exact HB.out))):w.heap.size≤gb165));have n3_:=Aside0.mk ((by rw [hg];exact (below_size (by repeat (first|(with_reducible first|exact HB.out|apply below_alloc|apply pw_below_drewN|apply below_drew1)|exact HB.out))):w.heap.size≤gb165));clear HB;have HB:=n0_;have BK165:=n1_;have GW165:=n2_;have GE165:=n3_;clear n0_ n1_ n2_ n3_;clear hb hbox hg;have hcz7_0:w6.cell? ⟨gb165,0,none⟩=some (.int .i64 a0_0):=(blk_cell BK165.out 0).trans rfl;have hcz7_1:w6.cell? ⟨gb165,1,none⟩=some (.int .i64 a0_1):=(blk_cell BK165.out 1).trans rfl;have hcz7_2:w6.cell? ⟨gb165,2,none⟩=some (.int .i64 a0_2):=(blk_cell BK165.out 2).trans rfl;have hcz7_3:w6.cell? ⟨gb165,3,none⟩=some (.string a0_3):=(blk_cell BK165.out 3).trans rfl;have hcz7_4:w6.cell? ⟨gb165,4,none⟩=some (.slice A0_4 l0_4.length c0_4):=(blk_cell BK165.out 4).trans rfl;have hcz7_5:w6.cell? ⟨gb165,5,none⟩=some (.slice A0_5 l0_5.length c0_5):=(blk_cell BK165.out 5).trans rfl;have hcz7_6:w6.cell? ⟨gb165,6,none⟩=some (.slice A0_6 l0_6.length c0_6):=(blk_cell BK165.out 6).trans rfl;have hfz7_0:=blk_frozen BK165.out 0;have hfz7_1:=blk_frozen BK165.out 1;have hfz7_2:=blk_frozen BK165.out 2;have hfz7_3:=blk_frozen BK165.out 3;have hfz7_4:=blk_frozen BK165.out 4;have hfz7_5:=blk_frozen BK165.out 5;have hfz7_6:=blk_frozen BK165.out 6))
  go_ret
  exact ⟨by first|rfl|(simp [errW_none,errW_some] <;> rfl)|(simp [*,errW_none,errW_some] <;> rfl),by repeat (first|(with_reducible first|exact HB.out|apply below_alloc|apply pw_below_drewN|apply below_drew1|refine below_set ?_ GE165.out)|exact HB.out)⟩
def key_Value.f (a0:ByteArray):Option (Int):=if (a0.size:Int) > 32 then (some 51) else (some 0)
set_option maxHeartbeats 8000000 in
set_option maxRecDepth 100000 in
theorem key_Value.calls (a0:ByteArray) (r:Int) (w:World) (h:key_Value.f a0=some r) :
  Calls Try.prog 60 #[.string a0] w fun e w'=>e=.returned (.int .i64 r)∧Drawn0 w w':=by
 have H:(if (a0.size:Int) > 32 then (some 51) else (some 0))=some r:=h
 clear h
 by_cases c2:(a0.size:Int) > 32
 ·rw [if_pos c2] at H
  have c2b0:decide (32 < (a0.size:Int))=true:=decide_eq_true c2
  have c2b1:decide (32 < a0.size)=true:=decide_eq_true (by omega)
  clear c2
  obtain rfl:=Option.some.inj H
  go_enter Try.func60,Try.ntmps60
  go_wp2
  go_ret
  exact ⟨by first|rfl|(simp;done)|(simp [*];done),by repeat (first|exact Drawn0.refl _|apply Drawn0.step)⟩
 ·rw [if_neg c2] at H
  have c2b0:decide (32 < (a0.size:Int))=false:=decide_eq_false c2
  have c2b1:decide (32 < a0.size)=false:=decide_eq_false (by omega)
  clear c2
  obtain rfl:=Option.some.inj H
  go_enter Try.func60,Try.ntmps60
  go_wp2
  go_ret
  exact ⟨by first|rfl|(simp;done)|(simp [*];done),by repeat (first|exact Drawn0.refl _|apply Drawn0.step)⟩
end Go.Proofs.Ytcocmpblmkdmjaa.Pr
