-- A part of the text Prx16, thinned by a program of this session.
import Derived.Test.YtgjibcfkjaedfaaTHPrx0
import Derived.Test.YtgjibcfkjaedfaaTHPrxS
import Derived.Test.YtgjibcfkjaedfaaTHPrx15
namespace Go.Proofs.Ytgjibcfkjaedfaa.Pr
open Go.RowKit Go.Proofs.YtgjibcfkjaedfaaW.PrintWords Go.Proofs.YtgjibcfkjaedfaaW.PrintLast Go.Proofs.YtgjibcfkjaedfaaW.PrintMore
attribute [local go_sem] max2_int min2_int max_two min_two max_three min_three max_four min_four
set_option linter.unusedVariables false
set_option linter.unusedSimpArgs false
mutual
def latticeref06_Right.j0:Nat→Bool→Int→Int→Int→ByteArray→List ByteArray→List ByteArray→List Int→Option (Bool)
 | 0,_,_,_,_,_,_,_,_=>none
 | k+1,x47,x156000,x156001,x156002,x156003,x156004,x156005,x156006=>if x47=true then (some false) else (latticeref06_Right.l0 k x156004 (x156004.length:Int) 0 x156000 x156001 x156002 x156003 x156004 x156005 x156006)
def latticeref06_Right.l0:Nat→List ByteArray→Int→Int→Int→Int→Int→ByteArray→List ByteArray→List ByteArray→List Int→Option (Bool)
 | 0,_,_,_,_,_,_,_,_,_,_=>none
 | k+1,x49,x50,x51,x156000,x156001,x156002,x156003,x156004,x156005,x156006=>if x51 < x50 then (if 0≤x51 then (if x51 < (x49.length:Int) then ((latticeref05_Check.f (rdOf ByteArray.empty x49 x51)).bind fun t158=>(if t158=0 then (if x156003.toList=([]:List UInt8) then (latticeref06_Right.j2 k x51 (rdOf ByteArray.empty x49 x51) x49 x50 x51 false x156000 x156001 x156002 x156003 x156004 x156005 x156006) else ((latticeref05_Compare.f k (rdOf ByteArray.empty x49 x51) x156003).bind fun t159=>(latticeref06_Right.j2 k x51 (rdOf ByteArray.empty x49 x51) x49 x50 x51 (decide (t159≥0)) x156000 x156001 x156002 x156003 x156004 x156005 x156006))) else (latticeref06_Right.j2 k x51 (rdOf ByteArray.empty x49 x51) x49 x50 x51 true x156000 x156001 x156002 x156003 x156004 x156005 x156006))) else (none)) else (none)) else (if x156000=0 then (if (x156005.length:Int)=(x156004.length:Int) then (latticeref06_Right.j3 k (decide ((x156006.length:Int) > 0)) x156000 x156001 x156002 x156003 x156004 x156005 x156006) else (latticeref06_Right.j3 k true x156000 x156001 x156002 x156003 x156004 x156005 x156006)) else (if (x156006.length:Int)=(wrap64 ((x156004.length:Int)+1)) then (latticeref06_Right.j5 k (decide ((x156005.length:Int) > 0)) x156000 x156001 x156002 x156003 x156004 x156005 x156006) else (latticeref06_Right.j5 k true x156000 x156001 x156002 x156003 x156004 x156005 x156006)))
def latticeref06_Right.j2:Nat→Int→ByteArray→List ByteArray→Int→Int→Bool→Int→Int→Int→ByteArray→List ByteArray→List ByteArray→List Int→Option (Bool)
 | 0,_,_,_,_,_,_,_,_,_,_,_,_,_=>none
 | k+1,x3,x4,x49,x50,x51,x70,x156000,x156001,x156002,x156003,x156004,x156005,x156006=>if x70=true then (some false) else (if x3 > 0 then (if 0≤(wrap64 (x3 - 1)) then (if (wrap64 (x3 - 1)) < (x156004.length:Int) then ((latticeref05_Compare.f k (rdOf ByteArray.empty x156004 (wrap64 (x3 - 1))) x4).bind fun t161=>(if t161≥0 then (some false) else (latticeref06_Right.l0 k x49 x50 (wrap64 (x51+1)) x156000 x156001 x156002 x156003 x156004 x156005 x156006))) else (none)) else (none)) else (latticeref06_Right.l0 k x49 x50 (wrap64 (x51+1)) x156000 x156001 x156002 x156003 x156004 x156005 x156006))
def latticeref06_Right.j3:Nat→Bool→Int→Int→Int→ByteArray→List ByteArray→List ByteArray→List Int→Option (Bool)
 | 0,_,_,_,_,_,_,_,_=>none
 | k+1,x100,x156000,x156001,x156002,x156003,x156004,x156005,x156006=>if x100=true then (some false) else (latticeref06_Right.l1 k x156005 (x156005.length:Int) 0 x156000 x156001 x156002 x156003 x156004 x156005 x156006)
def latticeref06_Right.l1:Nat→List ByteArray→Int→Int→Int→Int→Int→ByteArray→List ByteArray→List ByteArray→List Int→Option (Bool)
 | 0,_,_,_,_,_,_,_,_,_,_=>none
 | k+1,x102,x103,x104,x156000,x156001,x156002,x156003,x156004,x156005,x156006=>if x104 < x103 then (if 0≤x104 then (if x104 < (x102.length:Int) then ((latticeref05_Value.f (rdOf ByteArray.empty x102 x104)).bind fun t163=>(if t163=0 then (latticeref06_Right.l1 k x102 x103 (wrap64 (x104+1)) x156000 x156001 x156002 x156003 x156004 x156005 x156006) else (some false))) else (none)) else (none)) else ((latticeref06_Size.f k x156000 x156001 x156002 x156003 x156004 x156005 x156006).bind fun t164=>(some (decide (t164≤256))))
def latticeref06_Right.j5:Nat→Bool→Int→Int→Int→ByteArray→List ByteArray→List ByteArray→List Int→Option (Bool)
 | 0,_,_,_,_,_,_,_,_=>none
 | k+1,x125,x156000,x156001,x156002,x156003,x156004,x156005,x156006=>if x125=true then (some false) else (latticeref06_Right.l2 k x156006 (x156006.length:Int) 0 x156000 x156001 x156002 x156003 x156004 x156005 x156006)
def latticeref06_Right.l2:Nat→List Int→Int→Int→Int→Int→Int→ByteArray→List ByteArray→List ByteArray→List Int→Option (Bool)
 | 0,_,_,_,_,_,_,_,_,_,_=>none
 | k+1,x127,x128,x129,x156000,x156001,x156002,x156003,x156004,x156005,x156006=>if x129 < x128 then (if 0≤x129 then (if x129 < (x127.length:Int) then (if (rd x127 x129) < 1 then (some false) else (if (rd x127 x129) > 4096 then (some false) else (latticeref06_Right.l2 k x127 x128 (wrap64 (x129+1)) x156000 x156001 x156002 x156003 x156004 x156005 x156006))) else (none)) else (none)) else ((latticeref06_Size.f k x156000 x156001 x156002 x156003 x156004 x156005 x156006).bind fun t166=>(some (decide (t166≤256))))
end
def latticeref06_Right.f (k:Nat) (a0_0:Int) (a0_1:Int) (a0_2:Int) (a0_3:ByteArray) (l0_4:List ByteArray) (l0_5:List ByteArray) (l0_6:List Int):Option (Bool):=if a0_0 < 0 then (latticeref06_Right.j0 k true a0_0 a0_1 a0_2 a0_3 l0_4 l0_5 l0_6) else (if a0_0 > 20 then (latticeref06_Right.j0 k true a0_0 a0_1 a0_2 a0_3 l0_4 l0_5 l0_6) else (if a0_1 < 0 then (latticeref06_Right.j0 k true a0_0 a0_1 a0_2 a0_3 l0_4 l0_5 l0_6) else (if a0_1 > 1099511627776 then (latticeref06_Right.j0 k true a0_0 a0_1 a0_2 a0_3 l0_4 l0_5 l0_6) else (if a0_2 < 0 then (latticeref06_Right.j0 k true a0_0 a0_1 a0_2 a0_3 l0_4 l0_5 l0_6) else (if a0_2 > 4096 then (latticeref06_Right.j0 k true a0_0 a0_1 a0_2 a0_3 l0_4 l0_5 l0_6) else (if a0_3.toList=([]:List UInt8) then (latticeref06_Right.j0 k false a0_0 a0_1 a0_2 a0_3 l0_4 l0_5 l0_6) else ((latticeref05_Check.f a0_3).bind fun t156=>(latticeref06_Right.j0 k (t156 != 0) a0_0 a0_1 a0_2 a0_3 l0_4 l0_5 l0_6))))))))
set_option maxHeartbeats 8000000 in
set_option maxRecDepth 100000 in
theorem latticeref06_Right.calls (k:Nat) (a0_0:Int) (a0_1:Int) (a0_2:Int) (a0_3:ByteArray) (A0_4:Option Addr) (c0_4:Nat) (l0_4:List ByteArray) (A0_5:Option Addr) (c0_5:Nat) (l0_5:List ByteArray) (A0_6:Option Addr) (c0_6:Nat) (l0_6:List Int) (r:Bool) (w:World) (hr0_4:Kd.C Kd.string w A0_4 l0_4.length l0_4) (hc0_4:l0_4.length≤c0_4) (hr0_5:Kd.C Kd.string w A0_5 l0_5.length l0_5) (hc0_5:l0_5.length≤c0_5) (hr0_6:Kd.C (Kd.int .i64) w A0_6 l0_6.length l0_6) (hc0_6:l0_6.length≤c0_6) (h:latticeref06_Right.f k a0_0 a0_1 a0_2 a0_3 l0_4 l0_5 l0_6=some r) :
  Calls Try.prog 102 #[.agg #[.int .i64 a0_0,.int .i64 a0_1,.int .i64 a0_2,.string a0_3,.slice A0_4 l0_4.length c0_4,.slice A0_5 l0_5.length c0_5,.slice A0_6 l0_6.length c0_6]] w fun e w'=>e=.returned (.bool r)∧Below w.heap.size w w':=by
 have hu113:=Try.underlying113
 have HR0_4:=Aside0.mk hr0_4
 have HC0_4:=Aside0.mk hc0_4
 clear hr0_4 hc0_4
 have HR0_5:=Aside0.mk hr0_5
 have HC0_5:=Aside0.mk hc0_5
 clear hr0_5 hc0_5
 have HR0_6:=Aside0.mk hr0_6
 have HC0_6:=Aside0.mk hc0_6
 clear hr0_6 hc0_6
 have HB:=Aside0.mk (Below.refl w.heap.size w)
 have H:(if a0_0 < 0 then (latticeref06_Right.j0 k true a0_0 a0_1 a0_2 a0_3 l0_4 l0_5 l0_6) else (if a0_0 > 20 then (latticeref06_Right.j0 k true a0_0 a0_1 a0_2 a0_3 l0_4 l0_5 l0_6) else (if a0_1 < 0 then (latticeref06_Right.j0 k true a0_0 a0_1 a0_2 a0_3 l0_4 l0_5 l0_6) else (if a0_1 > 1099511627776 then (latticeref06_Right.j0 k true a0_0 a0_1 a0_2 a0_3 l0_4 l0_5 l0_6) else (if a0_2 < 0 then (latticeref06_Right.j0 k true a0_0 a0_1 a0_2 a0_3 l0_4 l0_5 l0_6) else (if a0_2 > 4096 then (latticeref06_Right.j0 k true a0_0 a0_1 a0_2 a0_3 l0_4 l0_5 l0_6) else (if a0_3.toList=([]:List UInt8) then (latticeref06_Right.j0 k false a0_0 a0_1 a0_2 a0_3 l0_4 l0_5 l0_6) else ((latticeref05_Check.f a0_3).bind fun t156=>(latticeref06_Right.j0 k (t156 != 0) a0_0 a0_1 a0_2 a0_3 l0_4 l0_5 l0_6)))))))))=some r:=h
 clear h
 have HC2:=Aside0.mk H
 clear H
 go_enter Try.func102,Try.ntmps102
 go_upto_region 1 with (first|((with_reducible refine gate_dst (N:=1) rfl ?_);(try (refine gate_guard (by rfl) ?_;dsimp only));refine box_event ?hg (N:=1) ?hd (cs:=#[.int .i64 a0_0,.int .i64 a0_1,.int .i64 a0_2,.string a0_3,.slice A0_4 l0_4.length c0_4,.slice A0_5 l0_5.length c0_5,.slice A0_6 l0_6.length c0_6]) (t:=113) ?hr ?_;(case hd=>rfl);(case hg=>rfl);(case hr=>first|(go_simp;done)|(go_simp;rfl));intro gb155 hg w3 hbox hb;have n0_:=Aside0.mk (below_step (by repeat (first|(with_reducible first|exact HB.out|apply below_alloc|apply pw_below_drewN|apply below_drew1)|exact HB.out)) hb);have n1_:=Aside0.mk (hbox);have n2_:=Aside0.mk ((by rw [hg];exact (below_size (by repeat (first|(with_reducible first|exact HB.out|apply below_alloc|apply pw_below_drewN|apply below_drew1)|exact HB.out))):w.heap.size≤gb155));have n3_:=Aside0.mk ((by rw [hg];exact (below_size (by repeat (first|(with_reducible first|exact HB.out|apply below_alloc|apply pw_below_drewN|apply below_drew1)|exact HB.out))):w.heap.size≤gb155));clear HB;have HB:=n0_;have BK155:=n1_;have GW155:=n2_;have GE155:=n3_;clear n0_ n1_ n2_ n3_;clear hb hbox hg))
 (try simp only [Act.put,List.setIfInBounds_toArray,List.set_cons_zero,List.set_cons_succ])
 go_cut [47] (fun v47 wc=>∃ (kq:Nat) (x47_1:Bool),v47=.bool x47_1∧Aside0 (latticeref06_Right.j0 kq x47_1 a0_0 a0_1 a0_2 a0_3 l0_4 l0_5 l0_6=some r)∧Aside0 (kq≤k)∧Aside0 (wc.heap[gb155]?=some (.cells #[.int .i64 a0_0,.int .i64 a0_1,.int .i64 a0_2,.string a0_3,(.slice A0_4 l0_4.length c0_4),(.slice A0_5 l0_5.length c0_5),(.slice A0_6 l0_6.length c0_6)] 113 (0,0)))∧Aside0 (Below w.heap.size w wc))
 case first =>
  have H:=HC2.out
  clear HC2
  by_cases c4:a0_0 < 0
  ·rw [if_pos c4] at H
   have c4b0:decide (a0_0 < 0)=true:=decide_eq_true c4
   clear c4
   (first|rw [c4b0]|(simp only [i64_w,i32_w];rw [c4b0])|skip)
   have H':=Aside0.mk H
   clear H
   have hcz5_0:w3.cell? ⟨gb155,0,none⟩=some (.int .i64 a0_0):=(blk_cell BK155.out 0).trans rfl
   have hcz5_1:w3.cell? ⟨gb155,1,none⟩=some (.int .i64 a0_1):=(blk_cell BK155.out 1).trans rfl
   have hcz5_2:w3.cell? ⟨gb155,2,none⟩=some (.int .i64 a0_2):=(blk_cell BK155.out 2).trans rfl
   have hcz5_3:w3.cell? ⟨gb155,3,none⟩=some (.string a0_3):=(blk_cell BK155.out 3).trans rfl
   have hcz5_4:w3.cell? ⟨gb155,4,none⟩=some (.slice A0_4 l0_4.length c0_4):=(blk_cell BK155.out 4).trans rfl
   have hcz5_5:w3.cell? ⟨gb155,5,none⟩=some (.slice A0_5 l0_5.length c0_5):=(blk_cell BK155.out 5).trans rfl
   have hcz5_6:w3.cell? ⟨gb155,6,none⟩=some (.slice A0_6 l0_6.length c0_6):=(blk_cell BK155.out 6).trans rfl
   have hfz5_0:=blk_frozen BK155.out 0
   have hfz5_1:=blk_frozen BK155.out 1
   have hfz5_2:=blk_frozen BK155.out 2
   have hfz5_3:=blk_frozen BK155.out 3
   have hfz5_4:=blk_frozen BK155.out 4
   have hfz5_5:=blk_frozen BK155.out 5
   have hfz5_6:=blk_frozen BK155.out 6
   go_wp2
   go_meet
   case rel=>exact ⟨_,(true),(by first|rfl|(simp;done)|(simp [*];done)),H',⟨by first|omega|exact Nat.le_refl _⟩,⟨by (with_reducible repeat (first|refine blk_drewN ?_ _|refine blk_drew ?_|refine blk_alloc ?_ _));exact BK155.out⟩,⟨by repeat (first|(with_reducible first|exact HB.out|apply below_alloc|apply pw_below_drewN|apply below_drew1|refine below_set ?_ GE155.out)|exact HB.out)⟩⟩
  ·rw [if_neg c4] at H
   have c4b0:decide (a0_0 < 0)=false:=decide_eq_false c4
   clear c4
   (first|rw [c4b0]|(simp only [i64_w,i32_w];rw [c4b0])|skip)
   by_cases c6:a0_0 > 20
   ·rw [if_pos c6] at H
    have c6b0:decide (20 < a0_0)=true:=decide_eq_true c6
    clear c6
    have H':=Aside0.mk H
    clear H
    have hcz7_0:w3.cell? ⟨gb155,0,none⟩=some (.int .i64 a0_0):=(blk_cell BK155.out 0).trans rfl
    have hcz7_1:w3.cell? ⟨gb155,1,none⟩=some (.int .i64 a0_1):=(blk_cell BK155.out 1).trans rfl
    have hcz7_2:w3.cell? ⟨gb155,2,none⟩=some (.int .i64 a0_2):=(blk_cell BK155.out 2).trans rfl
    have hcz7_3:w3.cell? ⟨gb155,3,none⟩=some (.string a0_3):=(blk_cell BK155.out 3).trans rfl
    have hcz7_4:w3.cell? ⟨gb155,4,none⟩=some (.slice A0_4 l0_4.length c0_4):=(blk_cell BK155.out 4).trans rfl
    have hcz7_5:w3.cell? ⟨gb155,5,none⟩=some (.slice A0_5 l0_5.length c0_5):=(blk_cell BK155.out 5).trans rfl
    have hcz7_6:w3.cell? ⟨gb155,6,none⟩=some (.slice A0_6 l0_6.length c0_6):=(blk_cell BK155.out 6).trans rfl
    have hfz7_0:=blk_frozen BK155.out 0
    have hfz7_1:=blk_frozen BK155.out 1
    have hfz7_2:=blk_frozen BK155.out 2
    have hfz7_3:=blk_frozen BK155.out 3
    have hfz7_4:=blk_frozen BK155.out 4
    have hfz7_5:=blk_frozen BK155.out 5
    have hfz7_6:=blk_frozen BK155.out 6
    go_wp2
    go_meet
    case rel=>exact ⟨_,(true),(by first|rfl|(simp;done)|(simp [*];done)),H',⟨by first|omega|exact Nat.le_refl _⟩,⟨by (with_reducible repeat (first|refine blk_drewN ?_ _|refine blk_drew ?_|refine blk_alloc ?_ _));exact BK155.out⟩,⟨by repeat (first|(with_reducible first|exact HB.out|apply below_alloc|apply pw_below_drewN|apply below_drew1|refine below_set ?_ GE155.out)|exact HB.out)⟩⟩
   ·rw [if_neg c6] at H
    have c6b0:decide (20 < a0_0)=false:=decide_eq_false c6
    clear c6
    by_cases c8:a0_1 < 0
    ·rw [if_pos c8] at H
     have c8b0:decide (a0_1 < 0)=true:=decide_eq_true c8
     clear c8
     have H':=Aside0.mk H
     clear H
     have hcz9_0:w3.cell? ⟨gb155,0,none⟩=some (.int .i64 a0_0):=(blk_cell BK155.out 0).trans rfl
     have hcz9_1:w3.cell? ⟨gb155,1,none⟩=some (.int .i64 a0_1):=(blk_cell BK155.out 1).trans rfl
     have hcz9_2:w3.cell? ⟨gb155,2,none⟩=some (.int .i64 a0_2):=(blk_cell BK155.out 2).trans rfl
     have hcz9_3:w3.cell? ⟨gb155,3,none⟩=some (.string a0_3):=(blk_cell BK155.out 3).trans rfl
     have hcz9_4:w3.cell? ⟨gb155,4,none⟩=some (.slice A0_4 l0_4.length c0_4):=(blk_cell BK155.out 4).trans rfl
     have hcz9_5:w3.cell? ⟨gb155,5,none⟩=some (.slice A0_5 l0_5.length c0_5):=(blk_cell BK155.out 5).trans rfl
     have hcz9_6:w3.cell? ⟨gb155,6,none⟩=some (.slice A0_6 l0_6.length c0_6):=(blk_cell BK155.out 6).trans rfl
     have hfz9_0:=blk_frozen BK155.out 0
     have hfz9_1:=blk_frozen BK155.out 1
     have hfz9_2:=blk_frozen BK155.out 2
     have hfz9_3:=blk_frozen BK155.out 3
     have hfz9_4:=blk_frozen BK155.out 4
     have hfz9_5:=blk_frozen BK155.out 5
     have hfz9_6:=blk_frozen BK155.out 6
     go_wp2
     go_meet
     case rel=>exact ⟨_,(true),(by first|rfl|(simp;done)|(simp [*];done)),H',⟨by first|omega|exact Nat.le_refl _⟩,⟨by (with_reducible repeat (first|refine blk_drewN ?_ _|refine blk_drew ?_|refine blk_alloc ?_ _));exact BK155.out⟩,⟨by repeat (first|(with_reducible first|exact HB.out|apply below_alloc|apply pw_below_drewN|apply below_drew1|refine below_set ?_ GE155.out)|exact HB.out)⟩⟩
    ·rw [if_neg c8] at H
     have c8b0:decide (a0_1 < 0)=false:=decide_eq_false c8
     clear c8
     by_cases c10:a0_1 > 1099511627776
     ·rw [if_pos c10] at H
      have c10b0:decide (1099511627776 < a0_1)=true:=decide_eq_true c10
      clear c10
      have H':=Aside0.mk H
      clear H
      have hcz11_0:w3.cell? ⟨gb155,0,none⟩=some (.int .i64 a0_0):=(blk_cell BK155.out 0).trans rfl
      have hcz11_1:w3.cell? ⟨gb155,1,none⟩=some (.int .i64 a0_1):=(blk_cell BK155.out 1).trans rfl
      have hcz11_2:w3.cell? ⟨gb155,2,none⟩=some (.int .i64 a0_2):=(blk_cell BK155.out 2).trans rfl
      have hcz11_3:w3.cell? ⟨gb155,3,none⟩=some (.string a0_3):=(blk_cell BK155.out 3).trans rfl
      have hcz11_4:w3.cell? ⟨gb155,4,none⟩=some (.slice A0_4 l0_4.length c0_4):=(blk_cell BK155.out 4).trans rfl
      have hcz11_5:w3.cell? ⟨gb155,5,none⟩=some (.slice A0_5 l0_5.length c0_5):=(blk_cell BK155.out 5).trans rfl
      have hcz11_6:w3.cell? ⟨gb155,6,none⟩=some (.slice A0_6 l0_6.length c0_6):=(blk_cell BK155.out 6).trans rfl
      have hfz11_0:=blk_frozen BK155.out 0
      have hfz11_1:=blk_frozen BK155.out 1
      have hfz11_2:=blk_frozen BK155.out 2
      have hfz11_3:=blk_frozen BK155.out 3
      have hfz11_4:=blk_frozen BK155.out 4
      have hfz11_5:=blk_frozen BK155.out 5
      have hfz11_6:=blk_frozen BK155.out 6
      go_wp2
      go_meet
      case rel=>exact ⟨_,(true),(by first|rfl|(simp;done)|(simp [*];done)),H',⟨by first|omega|exact Nat.le_refl _⟩,⟨by (with_reducible repeat (first|refine blk_drewN ?_ _|refine blk_drew ?_|refine blk_alloc ?_ _));exact BK155.out⟩,⟨by repeat (first|(with_reducible first|exact HB.out|apply below_alloc|apply pw_below_drewN|apply below_drew1|refine below_set ?_ GE155.out)|exact HB.out)⟩⟩
     ·rw [if_neg c10] at H
      have c10b0:decide (1099511627776 < a0_1)=false:=decide_eq_false c10
      clear c10
      by_cases c12:a0_2 < 0
      ·rw [if_pos c12] at H
       have c12b0:decide (a0_2 < 0)=true:=decide_eq_true c12
       clear c12
       have H':=Aside0.mk H
       clear H
       have hcz13_0:w3.cell? ⟨gb155,0,none⟩=some (.int .i64 a0_0):=(blk_cell BK155.out 0).trans rfl
       have hcz13_1:w3.cell? ⟨gb155,1,none⟩=some (.int .i64 a0_1):=(blk_cell BK155.out 1).trans rfl
       have hcz13_2:w3.cell? ⟨gb155,2,none⟩=some (.int .i64 a0_2):=(blk_cell BK155.out 2).trans rfl
       have hcz13_3:w3.cell? ⟨gb155,3,none⟩=some (.string a0_3):=(blk_cell BK155.out 3).trans rfl
       have hcz13_4:w3.cell? ⟨gb155,4,none⟩=some (.slice A0_4 l0_4.length c0_4):=(blk_cell BK155.out 4).trans rfl
       have hcz13_5:w3.cell? ⟨gb155,5,none⟩=some (.slice A0_5 l0_5.length c0_5):=(blk_cell BK155.out 5).trans rfl
       have hcz13_6:w3.cell? ⟨gb155,6,none⟩=some (.slice A0_6 l0_6.length c0_6):=(blk_cell BK155.out 6).trans rfl
       have hfz13_0:=blk_frozen BK155.out 0
       have hfz13_1:=blk_frozen BK155.out 1
       have hfz13_2:=blk_frozen BK155.out 2
       have hfz13_3:=blk_frozen BK155.out 3
       have hfz13_4:=blk_frozen BK155.out 4
       have hfz13_5:=blk_frozen BK155.out 5
       have hfz13_6:=blk_frozen BK155.out 6
       go_wp2
       go_meet
       case rel=>exact ⟨_,(true),(by first|rfl|(simp;done)|(simp [*];done)),H',⟨by first|omega|exact Nat.le_refl _⟩,⟨by (with_reducible repeat (first|refine blk_drewN ?_ _|refine blk_drew ?_|refine blk_alloc ?_ _));exact BK155.out⟩,⟨by repeat (first|(with_reducible first|exact HB.out|apply below_alloc|apply pw_below_drewN|apply below_drew1|refine below_set ?_ GE155.out)|exact HB.out)⟩⟩
      ·rw [if_neg c12] at H
       have c12b0:decide (a0_2 < 0)=false:=decide_eq_false c12
       clear c12
       by_cases c14:a0_2 > 4096
       ·rw [if_pos c14] at H
        have c14b0:decide (4096 < a0_2)=true:=decide_eq_true c14
        clear c14
        have H':=Aside0.mk H
        clear H
        have hcz15_0:w3.cell? ⟨gb155,0,none⟩=some (.int .i64 a0_0):=(blk_cell BK155.out 0).trans rfl
        have hcz15_1:w3.cell? ⟨gb155,1,none⟩=some (.int .i64 a0_1):=(blk_cell BK155.out 1).trans rfl
        have hcz15_2:w3.cell? ⟨gb155,2,none⟩=some (.int .i64 a0_2):=(blk_cell BK155.out 2).trans rfl
        have hcz15_3:w3.cell? ⟨gb155,3,none⟩=some (.string a0_3):=(blk_cell BK155.out 3).trans rfl
        have hcz15_4:w3.cell? ⟨gb155,4,none⟩=some (.slice A0_4 l0_4.length c0_4):=(blk_cell BK155.out 4).trans rfl
        have hcz15_5:w3.cell? ⟨gb155,5,none⟩=some (.slice A0_5 l0_5.length c0_5):=(blk_cell BK155.out 5).trans rfl
        have hcz15_6:w3.cell? ⟨gb155,6,none⟩=some (.slice A0_6 l0_6.length c0_6):=(blk_cell BK155.out 6).trans rfl
        have hfz15_0:=blk_frozen BK155.out 0
        have hfz15_1:=blk_frozen BK155.out 1
        have hfz15_2:=blk_frozen BK155.out 2
        have hfz15_3:=blk_frozen BK155.out 3
        have hfz15_4:=blk_frozen BK155.out 4
        have hfz15_5:=blk_frozen BK155.out 5
        have hfz15_6:=blk_frozen BK155.out 6
        go_wp2
        go_meet
        case rel=>exact ⟨_,(true),(by first|rfl|(simp;done)|(simp [*];done)),H',⟨by first|omega|exact Nat.le_refl _⟩,⟨by (with_reducible repeat (first|refine blk_drewN ?_ _|refine blk_drew ?_|refine blk_alloc ?_ _));exact BK155.out⟩,⟨by repeat (first|(with_reducible first|exact HB.out|apply below_alloc|apply pw_below_drewN|apply below_drew1|refine below_set ?_ GE155.out)|exact HB.out)⟩⟩
       ·rw [if_neg c14] at H
        have c14b0:decide (4096 < a0_2)=false:=decide_eq_false c14
        clear c14
        by_cases c16:a0_3.toList=([]:List UInt8)
        ·rw [if_pos c16] at H
         have c16b0:(a0_3.toList==([]:List UInt8))=true:=beq_iff_eq.mpr c16
         have c16b1:(a0_3.toList != ([]:List UInt8))=false:=bne_eq_false_iff_eq.mpr c16
         clear c16
         have H':=Aside0.mk H
         clear H
         have hcz17_0:w3.cell? ⟨gb155,0,none⟩=some (.int .i64 a0_0):=(blk_cell BK155.out 0).trans rfl
         have hcz17_1:w3.cell? ⟨gb155,1,none⟩=some (.int .i64 a0_1):=(blk_cell BK155.out 1).trans rfl
         have hcz17_2:w3.cell? ⟨gb155,2,none⟩=some (.int .i64 a0_2):=(blk_cell BK155.out 2).trans rfl
         have hcz17_3:w3.cell? ⟨gb155,3,none⟩=some (.string a0_3):=(blk_cell BK155.out 3).trans rfl
         have hcz17_4:w3.cell? ⟨gb155,4,none⟩=some (.slice A0_4 l0_4.length c0_4):=(blk_cell BK155.out 4).trans rfl
         have hcz17_5:w3.cell? ⟨gb155,5,none⟩=some (.slice A0_5 l0_5.length c0_5):=(blk_cell BK155.out 5).trans rfl
         have hcz17_6:w3.cell? ⟨gb155,6,none⟩=some (.slice A0_6 l0_6.length c0_6):=(blk_cell BK155.out 6).trans rfl
         have hfz17_0:=blk_frozen BK155.out 0
         have hfz17_1:=blk_frozen BK155.out 1
         have hfz17_2:=blk_frozen BK155.out 2
         have hfz17_3:=blk_frozen BK155.out 3
         have hfz17_4:=blk_frozen BK155.out 4
         have hfz17_5:=blk_frozen BK155.out 5
         have hfz17_6:=blk_frozen BK155.out 6
         go_wp2
         go_meet
         case rel=>exact ⟨_,(false),(by first|rfl|(simp;done)|(simp [*];done)),H',⟨by first|omega|exact Nat.le_refl _⟩,⟨by (with_reducible repeat (first|refine blk_drewN ?_ _|refine blk_drew ?_|refine blk_alloc ?_ _));exact BK155.out⟩,⟨by repeat (first|(with_reducible first|exact HB.out|apply below_alloc|apply pw_below_drewN|apply below_drew1|refine below_set ?_ GE155.out)|exact HB.out)⟩⟩
        ·rw [if_neg c16] at H
         have c16b0:(a0_3.toList==([]:List UInt8))=false:=beq_eq_false_iff_ne.mpr c16
         have c16b1:(a0_3.toList != ([]:List UInt8))=true:=bne_iff_ne.mpr c16
         replace H:=Option.bind_eq_some_iff.mp H
         obtain ⟨t156,A180,H⟩:=H
         try dsimp only at H
         have A18:=Aside0.mk A180
         clear A180
         have H':=Aside0.mk H
         clear H
         have hcz19_0:w3.cell? ⟨gb155,0,none⟩=some (.int .i64 a0_0):=(blk_cell BK155.out 0).trans rfl
         have hcz19_1:w3.cell? ⟨gb155,1,none⟩=some (.int .i64 a0_1):=(blk_cell BK155.out 1).trans rfl
         have hcz19_2:w3.cell? ⟨gb155,2,none⟩=some (.int .i64 a0_2):=(blk_cell BK155.out 2).trans rfl
         have hcz19_3:w3.cell? ⟨gb155,3,none⟩=some (.string a0_3):=(blk_cell BK155.out 3).trans rfl
         have hcz19_4:w3.cell? ⟨gb155,4,none⟩=some (.slice A0_4 l0_4.length c0_4):=(blk_cell BK155.out 4).trans rfl
         have hcz19_5:w3.cell? ⟨gb155,5,none⟩=some (.slice A0_5 l0_5.length c0_5):=(blk_cell BK155.out 5).trans rfl
         have hcz19_6:w3.cell? ⟨gb155,6,none⟩=some (.slice A0_6 l0_6.length c0_6):=(blk_cell BK155.out 6).trans rfl
         have hfz19_0:=blk_frozen BK155.out 0
         have hfz19_1:=blk_frozen BK155.out 1
         have hfz19_2:=blk_frozen BK155.out 2
         have hfz19_3:=blk_frozen BK155.out 3
         have hfz19_4:=blk_frozen BK155.out 4
         have hfz19_5:=blk_frozen BK155.out 5
         have hfz19_6:=blk_frozen BK155.out 6
         go_wp2_with (first|(go_at_call 63;(with_reducible refine (latticeref05_Check.calls a0_3 t156 _ A18.out).mono ?_);rintro e w' ⟨rfl,⟨nd,rfl⟩⟩))
         go_meet
         case rel=>exact ⟨_,((t156 != 0)),(by first|rfl|(simp;done)|(simp [*];done)),H',⟨by first|omega|exact Nat.le_refl _⟩,⟨by (with_reducible repeat (first|refine blk_drewN ?_ _|refine blk_drew ?_|refine blk_alloc ?_ _));exact BK155.out⟩,⟨by repeat (first|(with_reducible first|exact HB.out|apply below_alloc|apply pw_below_drewN|apply below_drew1|refine below_set ?_ GE155.out)|exact HB.out)⟩⟩
 case rest =>
  clear HC2
  try clear c1
  try clear p2
  try clear c4
  try clear c4b0
  try clear c6
  try clear c6b0
  try clear c8
  try clear c8b0
  try clear c10
  try clear c10b0
  try clear c12
  try clear c12b0
  try clear c14
  try clear c14b0
  try clear c16
  try clear c16b0
  try clear c16b1
  try clear hcz11_0
  try clear hcz11_1
  try clear hcz11_2
  try clear hcz11_3
  try clear hcz11_4
  try clear hcz11_5
  try clear hcz11_6
  try clear hcz13_0
  try clear hcz13_1
  try clear hcz13_2
  try clear hcz13_3
  try clear hcz13_4
  try clear hcz13_5
  try clear hcz13_6
  try clear hcz15_0
  try clear hcz15_1
  try clear hcz15_2
  try clear hcz15_3
  try clear hcz15_4
  try clear hcz15_5
  try clear hcz15_6
  try clear hcz17_0
  try clear hcz17_1
  try clear hcz17_2
  try clear hcz17_3
  try clear hcz17_4
  try clear hcz17_5
  try clear hcz17_6
  try clear hcz19_0
  try clear hcz19_1
  try clear hcz19_2
  try clear hcz19_3
  try clear hcz19_4
  try clear hcz19_5
  try clear hcz19_6
  try clear hcz5_0
  try clear hcz5_1
  try clear hcz5_2
  try clear hcz5_3
  try clear hcz5_4
  try clear hcz5_5
  try clear hcz5_6
  try clear hcz7_0
  try clear hcz7_1
  try clear hcz7_2
  try clear hcz7_3
  try clear hcz7_4
  try clear hcz7_5
  try clear hcz7_6
  try clear hcz9_0
  try clear hcz9_1
  try clear hcz9_2
  try clear hcz9_3
  try clear hcz9_4
  try clear hcz9_5
  try clear hcz9_6
  try clear hfz11_0
  try clear hfz11_1
  try clear hfz11_2
  try clear hfz11_3
  try clear hfz11_4
  try clear hfz11_5
  try clear hfz11_6
  try clear hfz13_0
  try clear hfz13_1
  try clear hfz13_2
  try clear hfz13_3
  try clear hfz13_4
  try clear hfz13_5
  try clear hfz13_6
  try clear hfz15_0
  try clear hfz15_1
  try clear hfz15_2
  try clear hfz15_3
  try clear hfz15_4
  try clear hfz15_5
  try clear hfz15_6
  try clear hfz17_0
  try clear hfz17_1
  try clear hfz17_2
  try clear hfz17_3
  try clear hfz17_4
  try clear hfz17_5
  try clear hfz17_6
  try clear hfz19_0
  try clear hfz19_1
  try clear hfz19_2
  try clear hfz19_3
  try clear hfz19_4
  try clear hfz19_5
  try clear hfz19_6
  try clear hfz5_0
  try clear hfz5_1
  try clear hfz5_2
  try clear hfz5_3
  try clear hfz5_4
  try clear hfz5_5
  try clear hfz5_6
  try clear hfz7_0
  try clear hfz7_1
  try clear hfz7_2
  try clear hfz7_3
  try clear hfz7_4
  try clear hfz7_5
  try clear hfz7_6
  try clear hfz9_0
  try clear hfz9_1
  try clear hfz9_2
  try clear hfz9_3
  try clear hfz9_4
  try clear hfz9_5
  try clear hfz9_6
  obtain ⟨kq,x47_1,rfl,HA,HJ1,BK155,HB⟩:=hcut
  cases kq with
  | zero=>exact absurd (show none=some _ from HA.out) (by simp)
  | succ kj1 =>
   have H:=HA.out
   clear HA
   simp only [latticeref06_Right.j0] at H
   by_cases c20:x47_1=true
   ·subst c20
    have H1:(some false)=some r:=by rw [if_pos rfl] at H;exact H
    clear H
    have H:=H1
    clear H1
    obtain rfl:=Option.some.inj H
    go_wp2
    go_ret
    exact ⟨by first|rfl|(simp [errW_none,errW_some] <;> rfl)|(simp [*,errW_none,errW_some] <;> rfl),by repeat (first|(with_reducible first|exact HB.out|apply below_alloc|apply pw_below_drewN|apply below_drew1|refine below_set ?_ GE155.out)|exact HB.out)⟩
   ·replace c20:=Bool.eq_false_iff.mpr c20
    subst c20
    have H1:(latticeref06_Right.l0 kj1 l0_4 (l0_4.length:Int) 0 a0_0 a0_1 a0_2 a0_3 l0_4 l0_5 l0_6)=some r:=by rw [if_neg (show ¬ (false=true) by decide)] at H;exact H
    clear H
    have H:=H1
    clear H1
    have H':=Aside0.mk H
    clear H
    have hcz21_0:wc.cell? ⟨gb155,0,none⟩=some (.int .i64 a0_0):=(blk_cell BK155.out 0).trans rfl
    have hcz21_1:wc.cell? ⟨gb155,1,none⟩=some (.int .i64 a0_1):=(blk_cell BK155.out 1).trans rfl
    have hcz21_2:wc.cell? ⟨gb155,2,none⟩=some (.int .i64 a0_2):=(blk_cell BK155.out 2).trans rfl
    have hcz21_3:wc.cell? ⟨gb155,3,none⟩=some (.string a0_3):=(blk_cell BK155.out 3).trans rfl
    have hcz21_4:wc.cell? ⟨gb155,4,none⟩=some (.slice A0_4 l0_4.length c0_4):=(blk_cell BK155.out 4).trans rfl
    have hcz21_5:wc.cell? ⟨gb155,5,none⟩=some (.slice A0_5 l0_5.length c0_5):=(blk_cell BK155.out 5).trans rfl
    have hcz21_6:wc.cell? ⟨gb155,6,none⟩=some (.slice A0_6 l0_6.length c0_6):=(blk_cell BK155.out 6).trans rfl
    have hfz21_0:=blk_frozen BK155.out 0
    have hfz21_1:=blk_frozen BK155.out 1
    have hfz21_2:=blk_frozen BK155.out 2
    have hfz21_3:=blk_frozen BK155.out 3
    have hfz21_4:=blk_frozen BK155.out 4
    have hfz21_5:=blk_frozen BK155.out 5
    have hfz21_6:=blk_frozen BK155.out 6
    go_wp2
    go_loopg [51] kj1 (fun kq v51 w'=>∃ (x51_2:Int),v51=.int .i64 x51_2∧Aside0 (latticeref06_Right.l0 kq l0_4 (l0_4.length:Int) x51_2 a0_0 a0_1 a0_2 a0_3 l0_4 l0_5 l0_6=some r)∧Aside0 (kq≤kj1)∧Aside0 (w'.heap[gb155]?=some (.cells #[.int .i64 a0_0,.int .i64 a0_1,.int .i64 a0_2,.string a0_3,(.slice A0_4 l0_4.length c0_4),(.slice A0_5 l0_5.length c0_5),(.slice A0_6 l0_6.length c0_6)] 113 (0,0)))∧Aside0 (Below w.heap.size w w'))
    case atStart=>exact ⟨(0),(by first|rfl|(simp;done)|(simp [*];done)),H',⟨Nat.le_refl _⟩,⟨by (with_reducible repeat (first|refine blk_drewN ?_ _|refine blk_drew ?_|refine blk_alloc ?_ _));exact BK155.out⟩,⟨by repeat (first|(with_reducible first|exact HB.out|apply below_alloc|apply pw_below_drewN|apply below_drew1|refine below_set ?_ GE155.out)|exact HB.out)⟩⟩
    case round =>
     clear H'
     try clear c1
     try clear c2
     try clear p2
     try clear c4
     try clear c4b0
     try clear c6
     try clear c6b0
     try clear c8
     try clear c8b0
     try clear c10
     try clear c10b0
     try clear c12
     try clear c12b0
     try clear c14
     try clear c14b0
     try clear c16
     try clear c16b0
     try clear c16b1
     try clear c20
     try clear hcz11_0
     try clear hcz11_1
     try clear hcz11_2
     try clear hcz11_3
     try clear hcz11_4
     try clear hcz11_5
     try clear hcz11_6
     try clear hcz13_0
     try clear hcz13_1
     try clear hcz13_2
     try clear hcz13_3
     try clear hcz13_4
     try clear hcz13_5
     try clear hcz13_6
     try clear hcz15_0
     try clear hcz15_1
     try clear hcz15_2
     try clear hcz15_3
     try clear hcz15_4
     try clear hcz15_5
     try clear hcz15_6
     try clear hcz17_0
     try clear hcz17_1
     try clear hcz17_2
     try clear hcz17_3
     try clear hcz17_4
     try clear hcz17_5
     try clear hcz17_6
     try clear hcz19_0
     try clear hcz19_1
     try clear hcz19_2
     try clear hcz19_3
     try clear hcz19_4
     try clear hcz19_5
     try clear hcz19_6
     try clear hcz21_0
     try clear hcz21_1
     try clear hcz21_2
     try clear hcz21_3
     try clear hcz21_4
     try clear hcz21_5
     try clear hcz21_6
     try clear hcz5_0
     try clear hcz5_1
     try clear hcz5_2
     try clear hcz5_3
     try clear hcz5_4
     try clear hcz5_5
     try clear hcz5_6
     try clear hcz7_0
     try clear hcz7_1
     try clear hcz7_2
     try clear hcz7_3
     try clear hcz7_4
     try clear hcz7_5
     try clear hcz7_6
     try clear hcz9_0
     try clear hcz9_1
     try clear hcz9_2
     try clear hcz9_3
     try clear hcz9_4
     try clear hcz9_5
     try clear hcz9_6
     try clear hfz11_0
     try clear hfz11_1
     try clear hfz11_2
     try clear hfz11_3
     try clear hfz11_4
     try clear hfz11_5
     try clear hfz11_6
     try clear hfz13_0
     try clear hfz13_1
     try clear hfz13_2
     try clear hfz13_3
     try clear hfz13_4
     try clear hfz13_5
     try clear hfz13_6
     try clear hfz15_0
     try clear hfz15_1
     try clear hfz15_2
     try clear hfz15_3
     try clear hfz15_4
     try clear hfz15_5
     try clear hfz15_6
     try clear hfz17_0
     try clear hfz17_1
     try clear hfz17_2
     try clear hfz17_3
     try clear hfz17_4
     try clear hfz17_5
     try clear hfz17_6
     try clear hfz19_0
     try clear hfz19_1
     try clear hfz19_2
     try clear hfz19_3
     try clear hfz19_4
     try clear hfz19_5
     try clear hfz19_6
     try clear hfz21_0
     try clear hfz21_1
     try clear hfz21_2
     try clear hfz21_3
     try clear hfz21_4
     try clear hfz21_5
     try clear hfz21_6
     try clear hfz5_0
     try clear hfz5_1
     try clear hfz5_2
     try clear hfz5_3
     try clear hfz5_4
     try clear hfz5_5
     try clear hfz5_6
     try clear hfz7_0
     try clear hfz7_1
     try clear hfz7_2
     try clear hfz7_3
     try clear hfz7_4
     try clear hfz7_5
     try clear hfz7_6
     try clear hfz9_0
     try clear hfz9_1
     try clear hfz9_2
     try clear hfz9_3
     try clear hfz9_4
     try clear hfz9_5
     try clear hfz9_6
     try clear p2
     obtain ⟨x51_2,rfl,HA,HK2,BK155,HB⟩:=hrel
     cases gk with
     | zero=>exact absurd (show none=some _ from HA.out) (by simp)
     | succ k2 =>
      have H:=HA.out
      clear HA
      simp only [latticeref06_Right.l0] at H
      by_cases c22:x51_2 < (l0_4.length:Int)
      ·rw [if_pos c22] at H
       have c22b0:decide (x51_2 < (l0_4.length:Int))=true:=decide_eq_true c22
       clear c22
       by_cases c23:0≤x51_2
       ·rw [if_pos c23] at H
        have c23b0:decide (0≤x51_2)=true:=decide_eq_true c23
        clear c23
        by_cases c24:x51_2 < (l0_4.length:Int)
        ·rw [if_pos c24] at H
         have c24b0:decide (x51_2 < (l0_4.length:Int))=true:=decide_eq_true c24
         clear c24
         have HC25:=Aside0.mk H
         clear H
         have p157:0≤(x51_2:Int):=of_decide_eq_true (by first|(with_reducible assumption)|assumption)
         have q157:x51_2 < (l0_4.length:Int):=of_decide_eq_true (by first|(with_reducible assumption)|assumption)
         obtain ⟨ad157,e157,hx157_0⟩:=Kd.at_string HR0_4.out x51_2 p157 q157
         cases e157
         replace hx157_0:=(HB.out.cell (World.block_lt_of_cell? w _ hx157_0)).trans hx157_0
         replace p157:=eq_true p157
         replace q157:=eq_true q157
         go_upto_region 6 with (fail)
         go_cut [70] (fun v70 wc=>∃ (kq:Nat) (x70_24:Bool),v70=.bool x70_24∧Aside0 (latticeref06_Right.j2 kq x51_2 (rdOf ByteArray.empty l0_4 x51_2) l0_4 (l0_4.length:Int) x51_2 x70_24 a0_0 a0_1 a0_2 a0_3 l0_4 l0_5 l0_6=some r)∧Aside0 (kq≤k2)∧Aside0 (wc.heap[gb155]?=some (.cells #[.int .i64 a0_0,.int .i64 a0_1,.int .i64 a0_2,.string a0_3,(.slice (some ad157) l0_4.length c0_4),(.slice A0_5 l0_5.length c0_5),(.slice A0_6 l0_6.length c0_6)] 113 (0,0)))∧Aside0 (Below w.heap.size w wc))
         case first =>
          have H:=HC25.out
          clear HC25
          replace H:=Option.bind_eq_some_iff.mp H
          obtain ⟨t158,A260,H⟩:=H
          try dsimp only at H
          have A26:=Aside0.mk A260
          clear A260
          by_cases c27:t158=0
          ·rw [if_pos c27] at H
           have c27b0:(t158==0)=true:=beq_iff_eq.mpr c27
           have c27b1:(t158 != 0)=false:=bne_eq_false_iff_eq.mpr c27
           clear c27
           (first|rw [c27b0]|(simp only [i64_w,i32_w];rw [c27b0])|skip)
           by_cases c28:a0_3.toList=([]:List UInt8)
           ·rw [if_pos c28] at H
            have c28b0:(a0_3.toList==([]:List UInt8))=true:=beq_iff_eq.mpr c28
            have c28b1:(a0_3.toList != ([]:List UInt8))=false:=bne_eq_false_iff_eq.mpr c28
            clear c28
            have H':=Aside0.mk H
            clear H
            go_wp2_with (first|((with_reducible refine gate_callee (f:=63) rfl ?_);refine goesL_ (some 57) rfl rfl Try.func63 (by kernel_rfl) rfl #[.string (rdOf ByteArray.empty l0_4 x51_2)] rfl (by (try simp only [List.map_toArray,List.map_cons,List.map_nil]);first|done|rfl|(simp only [List.length_drop,List.length_take];rfl)) ?_;(with_reducible refine (latticeref05_Check.calls (rdOf ByteArray.empty l0_4 x51_2) t158 _ A26.out).mono ?_);rintro e w' ⟨rfl,⟨nd,rfl⟩⟩;refine ⟨_,rfl,?_⟩;have hcz29_0:wr.cell? ⟨gb155,0,none⟩=some (.int .i64 a0_0):=(blk_cell BK155.out 0).trans rfl;have hcz29_1:wr.cell? ⟨gb155,1,none⟩=some (.int .i64 a0_1):=(blk_cell BK155.out 1).trans rfl;have hcz29_2:wr.cell? ⟨gb155,2,none⟩=some (.int .i64 a0_2):=(blk_cell BK155.out 2).trans rfl;have hcz29_3:wr.cell? ⟨gb155,3,none⟩=some (.string a0_3):=(blk_cell BK155.out 3).trans rfl;have hcz29_4:wr.cell? ⟨gb155,4,none⟩=some (.slice (some ad157) l0_4.length c0_4):=(blk_cell BK155.out 4).trans rfl;have hcz29_5:wr.cell? ⟨gb155,5,none⟩=some (.slice A0_5 l0_5.length c0_5):=(blk_cell BK155.out 5).trans rfl;have hcz29_6:wr.cell? ⟨gb155,6,none⟩=some (.slice A0_6 l0_6.length c0_6):=(blk_cell BK155.out 6).trans rfl;have hfz29_0:=blk_frozen BK155.out 0;have hfz29_1:=blk_frozen BK155.out 1;have hfz29_2:=blk_frozen BK155.out 2;have hfz29_3:=blk_frozen BK155.out 3;have hfz29_4:=blk_frozen BK155.out 4;have hfz29_5:=blk_frozen BK155.out 5;have hfz29_6:=blk_frozen BK155.out 6))
            go_meet
            case rel=>exact ⟨_,(false),(by first|rfl|(simp;done)|(simp [*];done)),H',⟨by have:=HJ1.out;have:=HK2.out;first|omega|exact Nat.le_refl _⟩,⟨by (with_reducible repeat (first|refine blk_drewN ?_ _|refine blk_drew ?_|refine blk_alloc ?_ _));exact BK155.out⟩,⟨by repeat (first|(with_reducible first|exact HB.out|apply below_alloc|apply pw_below_drewN|apply below_drew1|refine below_set ?_ GE155.out)|exact HB.out)⟩⟩
           ·rw [if_neg c28] at H
            have c28b0:(a0_3.toList==([]:List UInt8))=false:=beq_eq_false_iff_ne.mpr c28
            have c28b1:(a0_3.toList != ([]:List UInt8))=true:=bne_iff_ne.mpr c28
            replace H:=Option.bind_eq_some_iff.mp H
            obtain ⟨t159,A300,H⟩:=H
            try dsimp only at H
            have A30:=Aside0.mk A300
            clear A300
            have H':=Aside0.mk H
            clear H
            go_wp2_with (first|((with_reducible refine gate_callee (f:=63) rfl ?_);refine goesL_ (some 57) rfl rfl Try.func63 (by kernel_rfl) rfl #[.string (rdOf ByteArray.empty l0_4 x51_2)] rfl (by (try simp only [List.map_toArray,List.map_cons,List.map_nil]);first|done|rfl|(simp only [List.length_drop,List.length_take];rfl)) ?_;(with_reducible refine (latticeref05_Check.calls (rdOf ByteArray.empty l0_4 x51_2) t158 _ A26.out).mono ?_);rintro e w' ⟨rfl,⟨nd,rfl⟩⟩;refine ⟨_,rfl,?_⟩;have hcz31_0:wr.cell? ⟨gb155,0,none⟩=some (.int .i64 a0_0):=(blk_cell BK155.out 0).trans rfl;have hcz31_1:wr.cell? ⟨gb155,1,none⟩=some (.int .i64 a0_1):=(blk_cell BK155.out 1).trans rfl;have hcz31_2:wr.cell? ⟨gb155,2,none⟩=some (.int .i64 a0_2):=(blk_cell BK155.out 2).trans rfl;have hcz31_3:wr.cell? ⟨gb155,3,none⟩=some (.string a0_3):=(blk_cell BK155.out 3).trans rfl;have hcz31_4:wr.cell? ⟨gb155,4,none⟩=some (.slice (some ad157) l0_4.length c0_4):=(blk_cell BK155.out 4).trans rfl;have hcz31_5:wr.cell? ⟨gb155,5,none⟩=some (.slice A0_5 l0_5.length c0_5):=(blk_cell BK155.out 5).trans rfl;have hcz31_6:wr.cell? ⟨gb155,6,none⟩=some (.slice A0_6 l0_6.length c0_6):=(blk_cell BK155.out 6).trans rfl;have hfz31_0:=blk_frozen BK155.out 0;have hfz31_1:=blk_frozen BK155.out 1;have hfz31_2:=blk_frozen BK155.out 2;have hfz31_3:=blk_frozen BK155.out 3;have hfz31_4:=blk_frozen BK155.out 4;have hfz31_5:=blk_frozen BK155.out 5;have hfz31_6:=blk_frozen BK155.out 6)|(go_at_call 108;(with_reducible refine (latticeref05_Compare.calls k2 (rdOf ByteArray.empty l0_4 x51_2) a0_3 t159 _ A30.out).mono ?_);rintro e w' ⟨rfl,⟨nd,rfl⟩⟩))
            go_meet
            case rel=>exact ⟨_,(decide (t159≥0)),(by first|rfl|(simp;done)|(simp [*];done)),H',⟨by have:=HJ1.out;have:=HK2.out;first|omega|exact Nat.le_refl _⟩,⟨by (with_reducible repeat (first|refine blk_drewN ?_ _|refine blk_drew ?_|refine blk_alloc ?_ _));exact BK155.out⟩,⟨by repeat (first|(with_reducible first|exact HB.out|apply below_alloc|apply pw_below_drewN|apply below_drew1|refine below_set ?_ GE155.out)|exact HB.out)⟩⟩
          ·rw [if_neg c27] at H
           have c27b0:(t158==0)=false:=beq_eq_false_iff_ne.mpr c27
           have c27b1:(t158 != 0)=true:=bne_iff_ne.mpr c27
           (first|rw [c27b0]|(simp only [i64_w,i32_w];rw [c27b0])|skip)
           have H':=Aside0.mk H
           clear H
           go_wp2_with (first|((with_reducible refine gate_callee (f:=63) rfl ?_);refine goesL_ (some 57) rfl rfl Try.func63 (by kernel_rfl) rfl #[.string (rdOf ByteArray.empty l0_4 x51_2)] rfl (by (try simp only [List.map_toArray,List.map_cons,List.map_nil]);first|done|rfl|(simp only [List.length_drop,List.length_take];rfl)) ?_;(with_reducible refine (latticeref05_Check.calls (rdOf ByteArray.empty l0_4 x51_2) t158 _ A26.out).mono ?_);rintro e w' ⟨rfl,⟨nd,rfl⟩⟩;refine ⟨_,rfl,?_⟩))
           go_meet
           case rel=>exact ⟨_,(true),(by first|rfl|(simp;done)|(simp [*];done)),H',⟨by have:=HJ1.out;have:=HK2.out;first|omega|exact Nat.le_refl _⟩,⟨by (with_reducible repeat (first|refine blk_drewN ?_ _|refine blk_drew ?_|refine blk_alloc ?_ _));exact BK155.out⟩,⟨by repeat (first|(with_reducible first|exact HB.out|apply below_alloc|apply pw_below_drewN|apply below_drew1|refine below_set ?_ GE155.out)|exact HB.out)⟩⟩
         case rest =>
          clear HC25
          try clear c1
          try clear p1
          try clear q1
          try clear hx1
          try clear c2
          try clear p2
          try clear c4
          try clear c4b0
          try clear c6
          try clear c6b0
          try clear c8
          try clear c8b0
          try clear c10
          try clear c10b0
          try clear c12
          try clear c12b0
          try clear c14
          try clear c14b0
          try clear p15
          try clear q15
          try clear hx15
          try clear c16
          try clear c16b0
          try clear c16b1
          try clear c20
          try clear c22
          try clear c22b0
          try clear c23
          try clear c23b0
          try clear c24
          try clear c24b0
          try clear c27
          try clear c27b0
          try clear c27b1
          try clear c28
          try clear c28b0
          try clear c28b1
          try clear hcz11_0
          try clear hcz11_1
          try clear hcz11_2
          try clear hcz11_3
          try clear hcz11_4
          try clear hcz11_5
          try clear hcz11_6
          try clear hcz13_0
          try clear hcz13_1
          try clear hcz13_2
          try clear hcz13_3
          try clear hcz13_4
          try clear hcz13_5
          try clear hcz13_6
          try clear hcz15_0
          try clear hcz15_1
          try clear hcz15_2
          try clear hcz15_3
          try clear hcz15_4
          try clear hcz15_5
          try clear hcz15_6
          try clear hcz17_0
          try clear hcz17_1
          try clear hcz17_2
          try clear hcz17_3
          try clear hcz17_4
          try clear hcz17_5
          try clear hcz17_6
          try clear hcz19_0
          try clear hcz19_1
          try clear hcz19_2
          try clear hcz19_3
          try clear hcz19_4
          try clear hcz19_5
          try clear hcz19_6
          try clear hcz21_0
          try clear hcz21_1
          try clear hcz21_2
          try clear hcz21_3
          try clear hcz21_4
          try clear hcz21_5
          try clear hcz21_6
          try clear hcz29_0
          try clear hcz29_1
          try clear hcz29_2
          try clear hcz29_3
          try clear hcz29_4
          try clear hcz29_5
          try clear hcz29_6
          try clear hcz31_0
          try clear hcz31_1
          try clear hcz31_2
          try clear hcz31_3
          try clear hcz31_4
          try clear hcz31_5
          try clear hcz31_6
          try clear hcz5_0
          try clear hcz5_1
          try clear hcz5_2
          try clear hcz5_3
          try clear hcz5_4
          try clear hcz5_5
          try clear hcz5_6
          try clear hcz7_0
          try clear hcz7_1
          try clear hcz7_2
          try clear hcz7_3
          try clear hcz7_4
          try clear hcz7_5
          try clear hcz7_6
          try clear hcz9_0
          try clear hcz9_1
          try clear hcz9_2
          try clear hcz9_3
          try clear hcz9_4
          try clear hcz9_5
          try clear hcz9_6
          try clear hfz11_0
          try clear hfz11_1
          try clear hfz11_2
          try clear hfz11_3
          try clear hfz11_4
          try clear hfz11_5
          try clear hfz11_6
          try clear hfz13_0
          try clear hfz13_1
          try clear hfz13_2
          try clear hfz13_3
          try clear hfz13_4
          try clear hfz13_5
          try clear hfz13_6
          try clear hfz15_0
          try clear hfz15_1
          try clear hfz15_2
          try clear hfz15_3
          try clear hfz15_4
          try clear hfz15_5
          try clear hfz15_6
          try clear hfz17_0
          try clear hfz17_1
          try clear hfz17_2
          try clear hfz17_3
          try clear hfz17_4
          try clear hfz17_5
          try clear hfz17_6
          try clear hfz19_0
          try clear hfz19_1
          try clear hfz19_2
          try clear hfz19_3
          try clear hfz19_4
          try clear hfz19_5
          try clear hfz19_6
          try clear hfz21_0
          try clear hfz21_1
          try clear hfz21_2
          try clear hfz21_3
          try clear hfz21_4
          try clear hfz21_5
          try clear hfz21_6
          try clear hfz29_0
          try clear hfz29_1
          try clear hfz29_2
          try clear hfz29_3
          try clear hfz29_4
          try clear hfz29_5
          try clear hfz29_6
          try clear hfz31_0
          try clear hfz31_1
          try clear hfz31_2
          try clear hfz31_3
          try clear hfz31_4
          try clear hfz31_5
          try clear hfz31_6
          try clear hfz5_0
          try clear hfz5_1
          try clear hfz5_2
          try clear hfz5_3
          try clear hfz5_4
          try clear hfz5_5
          try clear hfz5_6
          try clear hfz7_0
          try clear hfz7_1
          try clear hfz7_2
          try clear hfz7_3
          try clear hfz7_4
          try clear hfz7_5
          try clear hfz7_6
          try clear hfz9_0
          try clear hfz9_1
          try clear hfz9_2
          try clear hfz9_3
          try clear hfz9_4
          try clear hfz9_5
          try clear hfz9_6
          try clear hx157_0
          try clear p157
          try clear p2
          try clear q157
          obtain ⟨kq,x70_24,rfl,HA,HJ24,BK155,HB⟩:=hcut
          cases kq with
          | zero=>exact absurd (show none=some _ from HA.out) (by simp)
          | succ kj24 =>
           have H:=HA.out
           clear HA
           simp only [latticeref06_Right.j2] at H
           by_cases c32:x70_24=true
           ·subst c32
            have H1:(some false)=some r:=by rw [if_pos rfl] at H;exact H
            clear H
            have H:=H1
            clear H1
            obtain rfl:=Option.some.inj H
            go_wp2
            go_ret
            exact ⟨by first|rfl|(simp [errW_none,errW_some] <;> rfl)|(simp [*,errW_none,errW_some] <;> rfl),by repeat (first|(with_reducible first|exact HB.out|apply below_alloc|apply pw_below_drewN|apply below_drew1|refine below_set ?_ GE155.out)|exact HB.out)⟩
           ·replace c32:=Bool.eq_false_iff.mpr c32
            subst c32
            have H1:(if x51_2 > 0 then (if 0≤(wrap64 (x51_2 - 1)) then (if (wrap64 (x51_2 - 1)) < (l0_4.length:Int) then ((latticeref05_Compare.f kj24 (rdOf ByteArray.empty l0_4 (wrap64 (x51_2 - 1))) (rdOf ByteArray.empty l0_4 x51_2)).bind fun t161=>(if t161≥0 then (some false) else (latticeref06_Right.l0 kj24 l0_4 (l0_4.length:Int) (wrap64 (x51_2+1)) a0_0 a0_1 a0_2 a0_3 l0_4 l0_5 l0_6))) else (none)) else (none)) else (latticeref06_Right.l0 kj24 l0_4 (l0_4.length:Int) (wrap64 (x51_2+1)) a0_0 a0_1 a0_2 a0_3 l0_4 l0_5 l0_6))=some r:=by rw [if_neg (show ¬ (false=true) by decide)] at H;exact H
            clear H
            have H:=H1
            clear H1
            by_cases c33:x51_2 > 0
            ·rw [if_pos c33] at H
             have c33b0:decide (0 < x51_2)=true:=decide_eq_true c33
             clear c33
             obtain ⟨ji34,hji34⟩:∃ j_:Int,(wrap64 (x51_2 - 1))=j_:=⟨_,rfl⟩
             replace H:(if 0≤(ji34) then (if (ji34) < (l0_4.length:Int) then ((latticeref05_Compare.f kj24 (rdOf ByteArray.empty l0_4 (ji34)) (rdOf ByteArray.empty l0_4 x51_2)).bind fun t161=>(if t161≥0 then (some false) else (latticeref06_Right.l0 kj24 l0_4 (l0_4.length:Int) (wrap64 (x51_2+1)) a0_0 a0_1 a0_2 a0_3 l0_4 l0_5 l0_6))) else (none)) else (none))=some r:=by first|(rw [hji34] at H;exact H)|(simp only [hji34] at H ⊢;exact H)
             have hji34w:(IntKind.i64.wrap (x51_2 - 1))=ji34:=(i64_w _).trans hji34
             by_cases c35:0≤(ji34)
             ·rw [if_pos c35] at H
              have c35b0:decide (0≤(ji34))=true:=decide_eq_true c35
              clear c35
              by_cases c36:(ji34) < (l0_4.length:Int)
              ·rw [if_pos c36] at H
               have c36b0:decide ((ji34) < (l0_4.length:Int))=true:=decide_eq_true c36
               clear c36
               replace H:=Option.bind_eq_some_iff.mp H
               obtain ⟨t161,A370,H⟩:=H
               try dsimp only at H
               have A37:=Aside0.mk A370
               clear A370
               by_cases c38:t161≥0
               ·rw [if_pos c38] at H
                have c38b0:decide (0≤t161)=true:=decide_eq_true c38
                clear c38
                obtain rfl:=Option.some.inj H
                have hcz39_0:wc.cell? ⟨gb155,0,none⟩=some (.int .i64 a0_0):=(blk_cell BK155.out 0).trans rfl
                have hcz39_1:wc.cell? ⟨gb155,1,none⟩=some (.int .i64 a0_1):=(blk_cell BK155.out 1).trans rfl
                have hcz39_2:wc.cell? ⟨gb155,2,none⟩=some (.int .i64 a0_2):=(blk_cell BK155.out 2).trans rfl
                have hcz39_3:wc.cell? ⟨gb155,3,none⟩=some (.string a0_3):=(blk_cell BK155.out 3).trans rfl
                have hcz39_4:wc.cell? ⟨gb155,4,none⟩=some (.slice (some ad157) l0_4.length c0_4):=(blk_cell BK155.out 4).trans rfl
                have hcz39_5:wc.cell? ⟨gb155,5,none⟩=some (.slice A0_5 l0_5.length c0_5):=(blk_cell BK155.out 5).trans rfl
                have hcz39_6:wc.cell? ⟨gb155,6,none⟩=some (.slice A0_6 l0_6.length c0_6):=(blk_cell BK155.out 6).trans rfl
                have hfz39_0:=blk_frozen BK155.out 0
                have hfz39_1:=blk_frozen BK155.out 1
                have hfz39_2:=blk_frozen BK155.out 2
                have hfz39_3:=blk_frozen BK155.out 3
                have hfz39_4:=blk_frozen BK155.out 4
                have hfz39_5:=blk_frozen BK155.out 5
                have hfz39_6:=blk_frozen BK155.out 6
                have p160:0≤((ji34):Int):=of_decide_eq_true (by first|(with_reducible assumption)|assumption)
                have q160:(ji34) < (l0_4.length:Int):=of_decide_eq_true (by first|(with_reducible assumption)|assumption)
                obtain ⟨ad160,e160,hx160_0⟩:=Kd.at_string HR0_4.out (ji34) p160 q160
                obtain rfl:ad157=ad160:=(by injection e160)
                replace hx160_0:=(HB.out.cell (World.block_lt_of_cell? w _ hx160_0)).trans hx160_0
                replace p160:=eq_true p160
                replace q160:=eq_true q160
                go_wp2_with (first|(go_at_call 108;(with_reducible refine (latticeref05_Compare.calls kj24 (rdOf ByteArray.empty l0_4 (ji34)) (rdOf ByteArray.empty l0_4 x51_2) t161 _ A37.out).mono ?_);rintro e w' ⟨rfl,⟨nd,rfl⟩⟩))
                go_ret
                exact ⟨by first|rfl|(simp [errW_none,errW_some] <;> rfl)|(simp only [← hji34];first|rfl|(simp [errW_none,errW_some] <;> rfl))|(simp [*,errW_none,errW_some] <;> rfl),by repeat (first|(with_reducible first|exact HB.out|apply below_alloc|apply pw_below_drewN|apply below_drew1|refine below_set ?_ GE155.out)|exact HB.out)⟩
               ·rw [if_neg c38] at H
                have c38b0:decide (0≤t161)=false:=decide_eq_false c38
                clear c38
                have H':=Aside0.mk H
                clear H
                have hcz40_0:wc.cell? ⟨gb155,0,none⟩=some (.int .i64 a0_0):=(blk_cell BK155.out 0).trans rfl
                have hcz40_1:wc.cell? ⟨gb155,1,none⟩=some (.int .i64 a0_1):=(blk_cell BK155.out 1).trans rfl
                have hcz40_2:wc.cell? ⟨gb155,2,none⟩=some (.int .i64 a0_2):=(blk_cell BK155.out 2).trans rfl
                have hcz40_3:wc.cell? ⟨gb155,3,none⟩=some (.string a0_3):=(blk_cell BK155.out 3).trans rfl
                have hcz40_4:wc.cell? ⟨gb155,4,none⟩=some (.slice (some ad157) l0_4.length c0_4):=(blk_cell BK155.out 4).trans rfl
                have hcz40_5:wc.cell? ⟨gb155,5,none⟩=some (.slice A0_5 l0_5.length c0_5):=(blk_cell BK155.out 5).trans rfl
                have hcz40_6:wc.cell? ⟨gb155,6,none⟩=some (.slice A0_6 l0_6.length c0_6):=(blk_cell BK155.out 6).trans rfl
                have hfz40_0:=blk_frozen BK155.out 0
                have hfz40_1:=blk_frozen BK155.out 1
                have hfz40_2:=blk_frozen BK155.out 2
                have hfz40_3:=blk_frozen BK155.out 3
                have hfz40_4:=blk_frozen BK155.out 4
                have hfz40_5:=blk_frozen BK155.out 5
                have hfz40_6:=blk_frozen BK155.out 6
                have p160:0≤((ji34):Int):=of_decide_eq_true (by first|(with_reducible assumption)|assumption)
                have q160:(ji34) < (l0_4.length:Int):=of_decide_eq_true (by first|(with_reducible assumption)|assumption)
                obtain ⟨ad160,e160,hx160_0⟩:=Kd.at_string HR0_4.out (ji34) p160 q160
                obtain rfl:ad157=ad160:=(by injection e160)
                replace hx160_0:=(HB.out.cell (World.block_lt_of_cell? w _ hx160_0)).trans hx160_0
                replace p160:=eq_true p160
                replace q160:=eq_true q160
                go_wp2_with (first|(go_at_call 108;(with_reducible refine (latticeref05_Compare.calls kj24 (rdOf ByteArray.empty l0_4 (ji34)) (rdOf ByteArray.empty l0_4 x51_2) t161 _ A37.out).mono ?_);rintro e w' ⟨rfl,⟨nd,rfl⟩⟩))
                go_roundg kj24
                case measure=>have:=HJ1.out;have:=HK2.out;have:=HJ24.out;omega
                case rel=>exact ⟨(wrap64 (x51_2+1)),(by first|rfl|(simp;done)|(simp [*];done)),H',⟨by have:=HJ1.out;have:=HK2.out;have:=HJ24.out;omega⟩,⟨by (with_reducible repeat (first|refine blk_drewN ?_ _|refine blk_drew ?_|refine blk_alloc ?_ _));exact BK155.out⟩,⟨by repeat (first|(with_reducible first|exact HB.out|apply below_alloc|apply pw_below_drewN|apply below_drew1|refine below_set ?_ GE155.out)|exact HB.out)⟩⟩
              ·rw [if_neg c36] at H
               exact absurd H (by simp)
             ·rw [if_neg c35] at H
              exact absurd H (by simp)
            ·rw [if_neg c33] at H
             have c33b0:decide (0 < x51_2)=false:=decide_eq_false c33
             clear c33
             have H':=Aside0.mk H
             clear H
             go_wp2
             go_roundg kj24
             case measure=>have:=HJ1.out;have:=HK2.out;have:=HJ24.out;omega
             case rel=>exact ⟨(wrap64 (x51_2+1)),(by first|rfl|(simp;done)|(simp [*];done)),H',⟨by have:=HJ1.out;have:=HK2.out;have:=HJ24.out;omega⟩,⟨by (with_reducible repeat (first|refine blk_drewN ?_ _|refine blk_drew ?_|refine blk_alloc ?_ _));exact BK155.out⟩,⟨by repeat (first|(with_reducible first|exact HB.out|apply below_alloc|apply pw_below_drewN|apply below_drew1|refine below_set ?_ GE155.out)|exact HB.out)⟩⟩
        ·rw [if_neg c24] at H
         exact absurd H (by simp)
       ·rw [if_neg c23] at H
        exact absurd H (by simp)
      ·rw [if_neg c22] at H
       have c22b0:decide (x51_2 < (l0_4.length:Int))=false:=decide_eq_false c22
       clear c22
       by_cases c41:a0_0=0
       ·rw [if_pos c41] at H
        have c41b0:(a0_0==0)=true:=beq_iff_eq.mpr c41
        have c41b1:(a0_0 != 0)=false:=bne_eq_false_iff_eq.mpr c41
        clear c41
        have HC42:=Aside0.mk H
        clear H
        have hcz43_0:wr.cell? ⟨gb155,0,none⟩=some (.int .i64 a0_0):=(blk_cell BK155.out 0).trans rfl
        have hcz43_1:wr.cell? ⟨gb155,1,none⟩=some (.int .i64 a0_1):=(blk_cell BK155.out 1).trans rfl
        have hcz43_2:wr.cell? ⟨gb155,2,none⟩=some (.int .i64 a0_2):=(blk_cell BK155.out 2).trans rfl
        have hcz43_3:wr.cell? ⟨gb155,3,none⟩=some (.string a0_3):=(blk_cell BK155.out 3).trans rfl
        have hcz43_4:wr.cell? ⟨gb155,4,none⟩=some (.slice A0_4 l0_4.length c0_4):=(blk_cell BK155.out 4).trans rfl
        have hcz43_5:wr.cell? ⟨gb155,5,none⟩=some (.slice A0_5 l0_5.length c0_5):=(blk_cell BK155.out 5).trans rfl
        have hcz43_6:wr.cell? ⟨gb155,6,none⟩=some (.slice A0_6 l0_6.length c0_6):=(blk_cell BK155.out 6).trans rfl
        have hfz43_0:=blk_frozen BK155.out 0
        have hfz43_1:=blk_frozen BK155.out 1
        have hfz43_2:=blk_frozen BK155.out 2
        have hfz43_3:=blk_frozen BK155.out 3
        have hfz43_4:=blk_frozen BK155.out 4
        have hfz43_5:=blk_frozen BK155.out 5
        have hfz43_6:=blk_frozen BK155.out 6
        go_upto_region 12 with (fail)
        go_cut [100] (fun v100 wc=>∃ (kq:Nat) (x100_41:Bool),v100=.bool x100_41∧Aside0 (latticeref06_Right.j3 kq x100_41 a0_0 a0_1 a0_2 a0_3 l0_4 l0_5 l0_6=some r)∧Aside0 (kq≤k2)∧Aside0 (wc.heap[gb155]?=some (.cells #[.int .i64 a0_0,.int .i64 a0_1,.int .i64 a0_2,.string a0_3,(.slice A0_4 l0_4.length c0_4),(.slice A0_5 l0_5.length c0_5),(.slice A0_6 l0_6.length c0_6)] 113 (0,0)))∧Aside0 (Below w.heap.size w wc))
        case first =>
         have H:=HC42.out
         clear HC42
         by_cases c44:(l0_5.length:Int)=(l0_4.length:Int)
         ·rw [if_pos c44] at H
          have c44b0:((l0_5.length:Int)==(l0_4.length:Int))=true:=beq_iff_eq.mpr c44
          have c44b1:((l0_5.length:Int) != (l0_4.length:Int))=false:=bne_eq_false_iff_eq.mpr c44
          have c44b2:(l0_5.length==l0_4.length)=true:=by first|simpa using c44|(simp at c44 ⊢;omega)
          clear c44
          (first|rw [c44b0]|(simp only [i64_w,i32_w];rw [c44b0])|skip)
          have H':=Aside0.mk H
          clear H
          have hcz45_0:wr.cell? ⟨gb155,0,none⟩=some (.int .i64 a0_0):=(blk_cell BK155.out 0).trans rfl
          have hcz45_1:wr.cell? ⟨gb155,1,none⟩=some (.int .i64 a0_1):=(blk_cell BK155.out 1).trans rfl
          have hcz45_2:wr.cell? ⟨gb155,2,none⟩=some (.int .i64 a0_2):=(blk_cell BK155.out 2).trans rfl
          have hcz45_3:wr.cell? ⟨gb155,3,none⟩=some (.string a0_3):=(blk_cell BK155.out 3).trans rfl
          have hcz45_4:wr.cell? ⟨gb155,4,none⟩=some (.slice A0_4 l0_4.length c0_4):=(blk_cell BK155.out 4).trans rfl
          have hcz45_5:wr.cell? ⟨gb155,5,none⟩=some (.slice A0_5 l0_5.length c0_5):=(blk_cell BK155.out 5).trans rfl
          have hcz45_6:wr.cell? ⟨gb155,6,none⟩=some (.slice A0_6 l0_6.length c0_6):=(blk_cell BK155.out 6).trans rfl
          have hfz45_0:=blk_frozen BK155.out 0
          have hfz45_1:=blk_frozen BK155.out 1
          have hfz45_2:=blk_frozen BK155.out 2
          have hfz45_3:=blk_frozen BK155.out 3
          have hfz45_4:=blk_frozen BK155.out 4
          have hfz45_5:=blk_frozen BK155.out 5
          have hfz45_6:=blk_frozen BK155.out 6
          go_wp2
          go_meet
          case rel=>exact ⟨_,(decide ((l0_6.length:Int) > 0)),(by first|rfl|(simp;done)|(simp [*];done)),H',⟨by have:=HJ1.out;have:=HK2.out;first|omega|exact Nat.le_refl _⟩,⟨by (with_reducible repeat (first|refine blk_drewN ?_ _|refine blk_drew ?_|refine blk_alloc ?_ _));exact BK155.out⟩,⟨by repeat (first|(with_reducible first|exact HB.out|apply below_alloc|apply pw_below_drewN|apply below_drew1|refine below_set ?_ GE155.out)|exact HB.out)⟩⟩
         ·rw [if_neg c44] at H
          have c44b0:((l0_5.length:Int)==(l0_4.length:Int))=false:=beq_eq_false_iff_ne.mpr c44
          have c44b1:((l0_5.length:Int) != (l0_4.length:Int))=true:=bne_iff_ne.mpr c44
          have c44b2:(l0_5.length==l0_4.length)=false:=by first|simpa using c44|(simp at c44 ⊢;omega)
          (first|rw [c44b0]|(simp only [i64_w,i32_w];rw [c44b0])|skip)
          have H':=Aside0.mk H
          clear H
          have hcz46_0:wr.cell? ⟨gb155,0,none⟩=some (.int .i64 a0_0):=(blk_cell BK155.out 0).trans rfl
          have hcz46_1:wr.cell? ⟨gb155,1,none⟩=some (.int .i64 a0_1):=(blk_cell BK155.out 1).trans rfl
          have hcz46_2:wr.cell? ⟨gb155,2,none⟩=some (.int .i64 a0_2):=(blk_cell BK155.out 2).trans rfl
          have hcz46_3:wr.cell? ⟨gb155,3,none⟩=some (.string a0_3):=(blk_cell BK155.out 3).trans rfl
          have hcz46_4:wr.cell? ⟨gb155,4,none⟩=some (.slice A0_4 l0_4.length c0_4):=(blk_cell BK155.out 4).trans rfl
          have hcz46_5:wr.cell? ⟨gb155,5,none⟩=some (.slice A0_5 l0_5.length c0_5):=(blk_cell BK155.out 5).trans rfl
          have hcz46_6:wr.cell? ⟨gb155,6,none⟩=some (.slice A0_6 l0_6.length c0_6):=(blk_cell BK155.out 6).trans rfl
          have hfz46_0:=blk_frozen BK155.out 0
          have hfz46_1:=blk_frozen BK155.out 1
          have hfz46_2:=blk_frozen BK155.out 2
          have hfz46_3:=blk_frozen BK155.out 3
          have hfz46_4:=blk_frozen BK155.out 4
          have hfz46_5:=blk_frozen BK155.out 5
          have hfz46_6:=blk_frozen BK155.out 6
          go_wp2
          go_meet
          case rel=>exact ⟨_,(true),(by first|rfl|(simp;done)|(simp [*];done)),H',⟨by have:=HJ1.out;have:=HK2.out;first|omega|exact Nat.le_refl _⟩,⟨by (with_reducible repeat (first|refine blk_drewN ?_ _|refine blk_drew ?_|refine blk_alloc ?_ _));exact BK155.out⟩,⟨by repeat (first|(with_reducible first|exact HB.out|apply below_alloc|apply pw_below_drewN|apply below_drew1|refine below_set ?_ GE155.out)|exact HB.out)⟩⟩
        case rest =>
         clear HC42
         try clear c1
         try clear p1
         try clear q1
         try clear hx1
         try clear c2
         try clear p2
         try clear c3
         try clear c4
         try clear c4b0
         try clear c6
         try clear c6b0
         try clear p6
         try clear c8
         try clear c8b0
         try clear c10
         try clear c10b0
         try clear c12
         try clear c12b0
         try clear c14
         try clear c14b0
         try clear p15
         try clear q15
         try clear hx15
         try clear c16
         try clear c16b0
         try clear c16b1
         try clear p16
         try clear q16
         try clear hx16
         try clear c20
         try clear c22
         try clear c22b0
         try clear c23
         try clear c23b0
         try clear c24
         try clear c24b0
         try clear c27
         try clear c27b0
         try clear c27b1
         try clear c28
         try clear c28b0
         try clear c28b1
         try clear c32
         try clear c33
         try clear c33b0
         try clear c35
         try clear c35b0
         try clear c36
         try clear c36b0
         try clear c38
         try clear c38b0
         try clear c41
         try clear c41b0
         try clear c41b1
         try clear c44
         try clear c44b0
         try clear c44b1
         try clear c44b2
         try clear hcz11_0
         try clear hcz11_1
         try clear hcz11_2
         try clear hcz11_3
         try clear hcz11_4
         try clear hcz11_5
         try clear hcz11_6
         try clear hcz13_0
         try clear hcz13_1
         try clear hcz13_2
         try clear hcz13_3
         try clear hcz13_4
         try clear hcz13_5
         try clear hcz13_6
         try clear hcz15_0
         try clear hcz15_1
         try clear hcz15_2
         try clear hcz15_3
         try clear hcz15_4
         try clear hcz15_5
         try clear hcz15_6
         try clear hcz17_0
         try clear hcz17_1
         try clear hcz17_2
         try clear hcz17_3
         try clear hcz17_4
         try clear hcz17_5
         try clear hcz17_6
         try clear hcz19_0
         try clear hcz19_1
         try clear hcz19_2
         try clear hcz19_3
         try clear hcz19_4
         try clear hcz19_5
         try clear hcz19_6
         try clear hcz21_0
         try clear hcz21_1
         try clear hcz21_2
         try clear hcz21_3
         try clear hcz21_4
         try clear hcz21_5
         try clear hcz21_6
         try clear hcz29_0
         try clear hcz29_1
         try clear hcz29_2
         try clear hcz29_3
         try clear hcz29_4
         try clear hcz29_5
         try clear hcz29_6
         try clear hcz31_0
         try clear hcz31_1
         try clear hcz31_2
         try clear hcz31_3
         try clear hcz31_4
         try clear hcz31_5
         try clear hcz31_6
         try clear hcz39_0
         try clear hcz39_1
         try clear hcz39_2
         try clear hcz39_3
         try clear hcz39_4
         try clear hcz39_5
         try clear hcz39_6
         try clear hcz40_0
         try clear hcz40_1
         try clear hcz40_2
         try clear hcz40_3
         try clear hcz40_4
         try clear hcz40_5
         try clear hcz40_6
         try clear hcz43_0
         try clear hcz43_1
         try clear hcz43_2
         try clear hcz43_3
         try clear hcz43_4
         try clear hcz43_5
         try clear hcz43_6
         try clear hcz45_0
         try clear hcz45_1
         try clear hcz45_2
         try clear hcz45_3
         try clear hcz45_4
         try clear hcz45_5
         try clear hcz45_6
         try clear hcz46_0
         try clear hcz46_1
         try clear hcz46_2
         try clear hcz46_3
         try clear hcz46_4
         try clear hcz46_5
         try clear hcz46_6
         try clear hcz5_0
         try clear hcz5_1
         try clear hcz5_2
         try clear hcz5_3
         try clear hcz5_4
         try clear hcz5_5
         try clear hcz5_6
         try clear hcz7_0
         try clear hcz7_1
         try clear hcz7_2
         try clear hcz7_3
         try clear hcz7_4
         try clear hcz7_5
         try clear hcz7_6
         try clear hcz9_0
         try clear hcz9_1
         try clear hcz9_2
         try clear hcz9_3
         try clear hcz9_4
         try clear hcz9_5
         try clear hcz9_6
         try clear hfz11_0
         try clear hfz11_1
         try clear hfz11_2
         try clear hfz11_3
         try clear hfz11_4
         try clear hfz11_5
         try clear hfz11_6
         try clear hfz13_0
         try clear hfz13_1
         try clear hfz13_2
         try clear hfz13_3
         try clear hfz13_4
         try clear hfz13_5
         try clear hfz13_6
         try clear hfz15_0
         try clear hfz15_1
         try clear hfz15_2
         try clear hfz15_3
         try clear hfz15_4
         try clear hfz15_5
         try clear hfz15_6
         try clear hfz17_0
         try clear hfz17_1
         try clear hfz17_2
         try clear hfz17_3
         try clear hfz17_4
         try clear hfz17_5
         try clear hfz17_6
         try clear hfz19_0
         try clear hfz19_1
         try clear hfz19_2
         try clear hfz19_3
         try clear hfz19_4
         try clear hfz19_5
         try clear hfz19_6
         try clear hfz21_0
         try clear hfz21_1
         try clear hfz21_2
         try clear hfz21_3
         try clear hfz21_4
         try clear hfz21_5
         try clear hfz21_6
         try clear hfz29_0
         try clear hfz29_1
         try clear hfz29_2
         try clear hfz29_3
         try clear hfz29_4
         try clear hfz29_5
         try clear hfz29_6
         try clear hfz31_0
         try clear hfz31_1
         try clear hfz31_2
         try clear hfz31_3
         try clear hfz31_4
         try clear hfz31_5
         try clear hfz31_6
         try clear hfz39_0
         try clear hfz39_1
         try clear hfz39_2
         try clear hfz39_3
         try clear hfz39_4
         try clear hfz39_5
         try clear hfz39_6
         try clear hfz40_0
         try clear hfz40_1
         try clear hfz40_2
         try clear hfz40_3
         try clear hfz40_4
         try clear hfz40_5
         try clear hfz40_6
         try clear hfz43_0
         try clear hfz43_1
         try clear hfz43_2
         try clear hfz43_3
         try clear hfz43_4
         try clear hfz43_5
         try clear hfz43_6
         try clear hfz45_0
         try clear hfz45_1
         try clear hfz45_2
         try clear hfz45_3
         try clear hfz45_4
         try clear hfz45_5
         try clear hfz45_6
         try clear hfz46_0
         try clear hfz46_1
         try clear hfz46_2
         try clear hfz46_3
         try clear hfz46_4
         try clear hfz46_5
         try clear hfz46_6
         try clear hfz5_0
         try clear hfz5_1
         try clear hfz5_2
         try clear hfz5_3
         try clear hfz5_4
         try clear hfz5_5
         try clear hfz5_6
         try clear hfz7_0
         try clear hfz7_1
         try clear hfz7_2
         try clear hfz7_3
         try clear hfz7_4
         try clear hfz7_5
         try clear hfz7_6
         try clear hfz9_0
         try clear hfz9_1
         try clear hfz9_2
         try clear hfz9_3
         try clear hfz9_4
         try clear hfz9_5
         try clear hfz9_6
         try clear hx157_0
         try clear hx160_0
         try clear p1
         try clear p15
         try clear p157
         try clear p160
         try clear p2
         try clear q1
         try clear q15
         try clear q157
         try clear q160
         obtain ⟨kq,x100_41,rfl,HA,HJ41,BK155,HB⟩:=hcut
         cases kq with
         | zero=>exact absurd (show none=some _ from HA.out) (by simp)
         | succ kj41 =>
          have H:=HA.out
          clear HA
          simp only [latticeref06_Right.j3] at H
          by_cases c47:x100_41=true
          ·subst c47
           have H1:(some false)=some r:=by rw [if_pos rfl] at H;exact H
           clear H
           have H:=H1
           clear H1
           obtain rfl:=Option.some.inj H
           go_wp2
           go_ret
           exact ⟨by first|rfl|(simp [errW_none,errW_some] <;> rfl)|(simp [*,errW_none,errW_some] <;> rfl),by repeat (first|(with_reducible first|exact HB.out|apply below_alloc|apply pw_below_drewN|apply below_drew1|refine below_set ?_ GE155.out)|exact HB.out)⟩
          ·replace c47:=Bool.eq_false_iff.mpr c47
           subst c47
           have H1:(latticeref06_Right.l1 kj41 l0_5 (l0_5.length:Int) 0 a0_0 a0_1 a0_2 a0_3 l0_4 l0_5 l0_6)=some r:=by rw [if_neg (show ¬ (false=true) by decide)] at H;exact H
           clear H
           have H:=H1
           clear H1
           have H':=Aside0.mk H
           clear H
           have hcz48_0:wc.cell? ⟨gb155,0,none⟩=some (.int .i64 a0_0):=(blk_cell BK155.out 0).trans rfl
           have hcz48_1:wc.cell? ⟨gb155,1,none⟩=some (.int .i64 a0_1):=(blk_cell BK155.out 1).trans rfl
           have hcz48_2:wc.cell? ⟨gb155,2,none⟩=some (.int .i64 a0_2):=(blk_cell BK155.out 2).trans rfl
           have hcz48_3:wc.cell? ⟨gb155,3,none⟩=some (.string a0_3):=(blk_cell BK155.out 3).trans rfl
           have hcz48_4:wc.cell? ⟨gb155,4,none⟩=some (.slice A0_4 l0_4.length c0_4):=(blk_cell BK155.out 4).trans rfl
           have hcz48_5:wc.cell? ⟨gb155,5,none⟩=some (.slice A0_5 l0_5.length c0_5):=(blk_cell BK155.out 5).trans rfl
           have hcz48_6:wc.cell? ⟨gb155,6,none⟩=some (.slice A0_6 l0_6.length c0_6):=(blk_cell BK155.out 6).trans rfl
           have hfz48_0:=blk_frozen BK155.out 0
           have hfz48_1:=blk_frozen BK155.out 1
           have hfz48_2:=blk_frozen BK155.out 2
           have hfz48_3:=blk_frozen BK155.out 3
           have hfz48_4:=blk_frozen BK155.out 4
           have hfz48_5:=blk_frozen BK155.out 5
           have hfz48_6:=blk_frozen BK155.out 6
           go_wp2
           go_loopg [104] kj41 (fun kq v104 w'=>∃ (x104_4:Int),v104=.int .i64 x104_4∧Aside0 (latticeref06_Right.l1 kq l0_5 (l0_5.length:Int) x104_4 a0_0 a0_1 a0_2 a0_3 l0_4 l0_5 l0_6=some r)∧Aside0 (kq≤kj41)∧Aside0 (w'.heap[gb155]?=some (.cells #[.int .i64 a0_0,.int .i64 a0_1,.int .i64 a0_2,.string a0_3,(.slice A0_4 l0_4.length c0_4),(.slice A0_5 l0_5.length c0_5),(.slice A0_6 l0_6.length c0_6)] 113 (0,0)))∧Aside0 (Below w.heap.size w w'))
           case atStart=>exact ⟨(0),(by first|rfl|(simp;done)|(simp [*];done)),H',⟨Nat.le_refl _⟩,⟨by (with_reducible repeat (first|refine blk_drewN ?_ _|refine blk_drew ?_|refine blk_alloc ?_ _));exact BK155.out⟩,⟨by repeat (first|(with_reducible first|exact HB.out|apply below_alloc|apply pw_below_drewN|apply below_drew1|refine below_set ?_ GE155.out)|exact HB.out)⟩⟩
           case round =>
            clear H'
            try clear c1
            try clear p1
            try clear q1
            try clear hx1
            try clear c2
            try clear p2
            try clear c3
            try clear c4
            try clear c4b0
            try clear c6
            try clear c6b0
            try clear p6
            try clear c8
            try clear c8b0
            try clear c10
            try clear c10b0
            try clear c12
            try clear c12b0
            try clear c14
            try clear c14b0
            try clear p15
            try clear q15
            try clear hx15
            try clear c16
            try clear c16b0
            try clear c16b1
            try clear p16
            try clear q16
            try clear hx16
            try clear c20
            try clear c22
            try clear c22b0
            try clear c23
            try clear c23b0
            try clear c24
            try clear c24b0
            try clear c27
            try clear c27b0
            try clear c27b1
            try clear c28
            try clear c28b0
            try clear c28b1
            try clear c32
            try clear c33
            try clear c33b0
            try clear c35
            try clear c35b0
            try clear c36
            try clear c36b0
            try clear c38
            try clear c38b0
            try clear c41
            try clear c41b0
            try clear c41b1
            try clear c44
            try clear c44b0
            try clear c44b1
            try clear c44b2
            try clear c47
            try clear hcz11_0
            try clear hcz11_1
            try clear hcz11_2
            try clear hcz11_3
            try clear hcz11_4
            try clear hcz11_5
            try clear hcz11_6
            try clear hcz13_0
            try clear hcz13_1
            try clear hcz13_2
            try clear hcz13_3
            try clear hcz13_4
            try clear hcz13_5
            try clear hcz13_6
            try clear hcz15_0
            try clear hcz15_1
            try clear hcz15_2
            try clear hcz15_3
            try clear hcz15_4
            try clear hcz15_5
            try clear hcz15_6
            try clear hcz17_0
            try clear hcz17_1
            try clear hcz17_2
            try clear hcz17_3
            try clear hcz17_4
            try clear hcz17_5
            try clear hcz17_6
            try clear hcz19_0
            try clear hcz19_1
            try clear hcz19_2
            try clear hcz19_3
            try clear hcz19_4
            try clear hcz19_5
            try clear hcz19_6
            try clear hcz21_0
            try clear hcz21_1
            try clear hcz21_2
            try clear hcz21_3
            try clear hcz21_4
            try clear hcz21_5
            try clear hcz21_6
            try clear hcz29_0
            try clear hcz29_1
            try clear hcz29_2
            try clear hcz29_3
            try clear hcz29_4
            try clear hcz29_5
            try clear hcz29_6
            try clear hcz31_0
            try clear hcz31_1
            try clear hcz31_2
            try clear hcz31_3
            try clear hcz31_4
            try clear hcz31_5
            try clear hcz31_6
            try clear hcz39_0
            try clear hcz39_1
            try clear hcz39_2
            try clear hcz39_3
            try clear hcz39_4
            try clear hcz39_5
            try clear hcz39_6
            try clear hcz40_0
            try clear hcz40_1
            try clear hcz40_2
            try clear hcz40_3
            try clear hcz40_4
            try clear hcz40_5
            try clear hcz40_6
            try clear hcz43_0
            try clear hcz43_1
            try clear hcz43_2
            try clear hcz43_3
            try clear hcz43_4
            try clear hcz43_5
            try clear hcz43_6
            try clear hcz45_0
            try clear hcz45_1
            try clear hcz45_2
            try clear hcz45_3
            try clear hcz45_4
            try clear hcz45_5
            try clear hcz45_6
            try clear hcz46_0
            try clear hcz46_1
            try clear hcz46_2
            try clear hcz46_3
            try clear hcz46_4
            try clear hcz46_5
            try clear hcz46_6
            try clear hcz48_0
            try clear hcz48_1
            try clear hcz48_2
            try clear hcz48_3
            try clear hcz48_4
            try clear hcz48_5
            try clear hcz48_6
            try clear hcz5_0
            try clear hcz5_1
            try clear hcz5_2
            try clear hcz5_3
            try clear hcz5_4
            try clear hcz5_5
            try clear hcz5_6
            try clear hcz7_0
            try clear hcz7_1
            try clear hcz7_2
            try clear hcz7_3
            try clear hcz7_4
            try clear hcz7_5
            try clear hcz7_6
            try clear hcz9_0
            try clear hcz9_1
            try clear hcz9_2
            try clear hcz9_3
            try clear hcz9_4
            try clear hcz9_5
            try clear hcz9_6
            try clear hfz11_0
            try clear hfz11_1
            try clear hfz11_2
            try clear hfz11_3
            try clear hfz11_4
            try clear hfz11_5
            try clear hfz11_6
            try clear hfz13_0
            try clear hfz13_1
            try clear hfz13_2
            try clear hfz13_3
            try clear hfz13_4
            try clear hfz13_5
            try clear hfz13_6
            try clear hfz15_0
            try clear hfz15_1
            try clear hfz15_2
            try clear hfz15_3
            try clear hfz15_4
            try clear hfz15_5
            try clear hfz15_6
            try clear hfz17_0
            try clear hfz17_1
            try clear hfz17_2
            try clear hfz17_3
            try clear hfz17_4
            try clear hfz17_5
            try clear hfz17_6
            try clear hfz19_0
            try clear hfz19_1
            try clear hfz19_2
            try clear hfz19_3
            try clear hfz19_4
            try clear hfz19_5
            try clear hfz19_6
            try clear hfz21_0
            try clear hfz21_1
            try clear hfz21_2
            try clear hfz21_3
            try clear hfz21_4
            try clear hfz21_5
            try clear hfz21_6
            try clear hfz29_0
            try clear hfz29_1
            try clear hfz29_2
            try clear hfz29_3
            try clear hfz29_4
            try clear hfz29_5
            try clear hfz29_6
            try clear hfz31_0
            try clear hfz31_1
            try clear hfz31_2
            try clear hfz31_3
            try clear hfz31_4
            try clear hfz31_5
            try clear hfz31_6
            try clear hfz39_0
            try clear hfz39_1
            try clear hfz39_2
            try clear hfz39_3
            try clear hfz39_4
            try clear hfz39_5
            try clear hfz39_6
            try clear hfz40_0
            try clear hfz40_1
            try clear hfz40_2
            try clear hfz40_3
            try clear hfz40_4
            try clear hfz40_5
            try clear hfz40_6
            try clear hfz43_0
            try clear hfz43_1
            try clear hfz43_2
            try clear hfz43_3
            try clear hfz43_4
            try clear hfz43_5
            try clear hfz43_6
            try clear hfz45_0
            try clear hfz45_1
            try clear hfz45_2
            try clear hfz45_3
            try clear hfz45_4
            try clear hfz45_5
            try clear hfz45_6
            try clear hfz46_0
            try clear hfz46_1
            try clear hfz46_2
            try clear hfz46_3
            try clear hfz46_4
            try clear hfz46_5
            try clear hfz46_6
            try clear hfz48_0
            try clear hfz48_1
            try clear hfz48_2
            try clear hfz48_3
            try clear hfz48_4
            try clear hfz48_5
            try clear hfz48_6
            try clear hfz5_0
            try clear hfz5_1
            try clear hfz5_2
            try clear hfz5_3
            try clear hfz5_4
            try clear hfz5_5
            try clear hfz5_6
            try clear hfz7_0
            try clear hfz7_1
            try clear hfz7_2
            try clear hfz7_3
            try clear hfz7_4
            try clear hfz7_5
            try clear hfz7_6
            try clear hfz9_0
            try clear hfz9_1
            try clear hfz9_2
            try clear hfz9_3
            try clear hfz9_4
            try clear hfz9_5
            try clear hfz9_6
            try clear hx157_0
            try clear hx160_0
            try clear p1
            try clear p15
            try clear p157
            try clear p16
            try clear p160
            try clear p2
            try clear p6
            try clear q1
            try clear q15
            try clear q157
            try clear q16
            try clear q160
            obtain ⟨x104_4,rfl,HA,HK4,BK155,HB⟩:=hrel
            cases gk with
            | zero=>exact absurd (show none=some _ from HA.out) (by simp)
            | succ k4 =>
             have H:=HA.out
             clear HA
             simp only [latticeref06_Right.l1] at H
             by_cases c49:x104_4 < (l0_5.length:Int)
             ·rw [if_pos c49] at H
              have c49b0:decide (x104_4 < (l0_5.length:Int))=true:=decide_eq_true c49
              clear c49
              by_cases c50:0≤x104_4
              ·rw [if_pos c50] at H
               have c50b0:decide (0≤x104_4)=true:=decide_eq_true c50
               clear c50
               by_cases c51:x104_4 < (l0_5.length:Int)
               ·rw [if_pos c51] at H
                have c51b0:decide (x104_4 < (l0_5.length:Int))=true:=decide_eq_true c51
                clear c51
                replace H:=Option.bind_eq_some_iff.mp H
                obtain ⟨t163,A520,H⟩:=H
                try dsimp only at H
                have A52:=Aside0.mk A520
                clear A520
                by_cases c53:t163=0
                ·rw [if_pos c53] at H
                 have c53b0:(t163==0)=true:=beq_iff_eq.mpr c53
                 have c53b1:(t163 != 0)=false:=bne_eq_false_iff_eq.mpr c53
                 clear c53
                 have H':=Aside0.mk H
                 clear H
                 have p162:0≤(x104_4:Int):=of_decide_eq_true (by first|(with_reducible assumption)|assumption)
                 have q162:x104_4 < (l0_5.length:Int):=of_decide_eq_true (by first|(with_reducible assumption)|assumption)
                 obtain ⟨ad162,e162,hx162_0⟩:=Kd.at_string HR0_5.out x104_4 p162 q162
                 cases e162
                 replace hx162_0:=(HB.out.cell (World.block_lt_of_cell? w _ hx162_0)).trans hx162_0
                 replace p162:=eq_true p162
                 replace q162:=eq_true q162
                 go_wp2_with (first|((with_reducible refine gate_callee (f:=64) rfl ?_);refine goesL_ (some 109) rfl rfl Try.func64 (by kernel_rfl) rfl #[.string (rdOf ByteArray.empty l0_5 x104_4)] rfl (by (try simp only [List.map_toArray,List.map_cons,List.map_nil]);first|done|rfl|(simp only [List.length_drop,List.length_take];rfl)) ?_;(with_reducible refine (latticeref05_Value.calls (rdOf ByteArray.empty l0_5 x104_4) t163 _ A52.out).mono ?_);rintro e w' ⟨rfl,⟨nd,rfl⟩⟩;refine ⟨_,rfl,?_⟩))
                 go_roundg k4
                 case measure=>have:=HJ1.out;have:=HK2.out;have:=HJ41.out;have:=HK4.out;omega
                 case rel=>exact ⟨(wrap64 (x104_4+1)),(by first|rfl|(simp;done)|(simp [*];done)),H',⟨by have:=HJ1.out;have:=HK2.out;have:=HJ41.out;have:=HK4.out;omega⟩,⟨by (with_reducible repeat (first|refine blk_drewN ?_ _|refine blk_drew ?_|refine blk_alloc ?_ _));exact BK155.out⟩,⟨by repeat (first|(with_reducible first|exact HB.out|apply below_alloc|apply pw_below_drewN|apply below_drew1|refine below_set ?_ GE155.out)|exact HB.out)⟩⟩
                ·rw [if_neg c53] at H
                 have c53b0:(t163==0)=false:=beq_eq_false_iff_ne.mpr c53
                 have c53b1:(t163 != 0)=true:=bne_iff_ne.mpr c53
                 obtain rfl:=Option.some.inj H
                 have p162:0≤(x104_4:Int):=of_decide_eq_true (by first|(with_reducible assumption)|assumption)
                 have q162:x104_4 < (l0_5.length:Int):=of_decide_eq_true (by first|(with_reducible assumption)|assumption)
                 obtain ⟨ad162,e162,hx162_0⟩:=Kd.at_string HR0_5.out x104_4 p162 q162
                 cases e162
                 replace hx162_0:=(HB.out.cell (World.block_lt_of_cell? w _ hx162_0)).trans hx162_0
                 replace p162:=eq_true p162
                 replace q162:=eq_true q162
                 go_wp2_with (first|((with_reducible refine gate_callee (f:=64) rfl ?_);refine goesL_ (some 109) rfl rfl Try.func64 (by kernel_rfl) rfl #[.string (rdOf ByteArray.empty l0_5 x104_4)] rfl (by (try simp only [List.map_toArray,List.map_cons,List.map_nil]);first|done|rfl|(simp only [List.length_drop,List.length_take];rfl)) ?_;(with_reducible refine (latticeref05_Value.calls (rdOf ByteArray.empty l0_5 x104_4) t163 _ A52.out).mono ?_);rintro e w' ⟨rfl,⟨nd,rfl⟩⟩;refine ⟨_,rfl,?_⟩))
                 go_ret
                 exact ⟨by first|rfl|(simp [errW_none,errW_some] <;> rfl)|(simp [*,errW_none,errW_some] <;> rfl),by repeat (first|(with_reducible first|exact HB.out|apply below_alloc|apply pw_below_drewN|apply below_drew1|refine below_set ?_ GE155.out)|exact HB.out)⟩
               ·rw [if_neg c51] at H
                exact absurd H (by simp)
              ·rw [if_neg c50] at H
               exact absurd H (by simp)
             ·rw [if_neg c49] at H
              have c49b0:decide (x104_4 < (l0_5.length:Int))=false:=decide_eq_false c49
              clear c49
              replace H:=Option.bind_eq_some_iff.mp H
              obtain ⟨t164,A540,H⟩:=H
              try dsimp only at H
              have A54:=Aside0.mk A540
              clear A540
              obtain rfl:=Option.some.inj H
              have hcz55_0:wr.cell? ⟨gb155,0,none⟩=some (.int .i64 a0_0):=(blk_cell BK155.out 0).trans rfl
              have hcz55_1:wr.cell? ⟨gb155,1,none⟩=some (.int .i64 a0_1):=(blk_cell BK155.out 1).trans rfl
              have hcz55_2:wr.cell? ⟨gb155,2,none⟩=some (.int .i64 a0_2):=(blk_cell BK155.out 2).trans rfl
              have hcz55_3:wr.cell? ⟨gb155,3,none⟩=some (.string a0_3):=(blk_cell BK155.out 3).trans rfl
              have hcz55_4:wr.cell? ⟨gb155,4,none⟩=some (.slice A0_4 l0_4.length c0_4):=(blk_cell BK155.out 4).trans rfl
              have hcz55_5:wr.cell? ⟨gb155,5,none⟩=some (.slice A0_5 l0_5.length c0_5):=(blk_cell BK155.out 5).trans rfl
              have hcz55_6:wr.cell? ⟨gb155,6,none⟩=some (.slice A0_6 l0_6.length c0_6):=(blk_cell BK155.out 6).trans rfl
              have hfz55_0:=blk_frozen BK155.out 0
              have hfz55_1:=blk_frozen BK155.out 1
              have hfz55_2:=blk_frozen BK155.out 2
              have hfz55_3:=blk_frozen BK155.out 3
              have hfz55_4:=blk_frozen BK155.out 4
              have hfz55_5:=blk_frozen BK155.out 5
              have hfz55_6:=blk_frozen BK155.out 6
              go_wp2_with (first|((with_reducible refine gate_callee (f:=109) rfl ?_);refine goesL_ (some 141) rfl rfl Try.func109 (by kernel_rfl) rfl #[.agg #[.int .i64 a0_0,.int .i64 a0_1,.int .i64 a0_2,.string a0_3,.slice A0_4 l0_4.length c0_4,.slice A0_5 l0_5.length c0_5,.slice A0_6 l0_6.length c0_6]] rfl (by (try simp only [List.map_toArray,List.map_cons,List.map_nil]);first|done|rfl|(simp only [List.length_drop,List.length_take];rfl)) ?_;(with_reducible refine (latticeref06_Size.calls k4 a0_0 a0_1 a0_2 a0_3 _ _ l0_4 _ _ l0_5 _ _ l0_6 t164 _ ?side1 ?side2 ?side3 ?side4 ?side5 ?side6 A54.out).mono ?_);(case side1=>repeat (first|exact (Kd.C_below HR0_4.out HB.out)|(with_reducible refine Kd.C_alloc ?_ _)|(with_reducible refine Kd.C_drewN ?_ _)|(with_reducible refine Kd.C_drew ?_)));(case side2=>exact HC0_4.out);(case side3=>repeat (first|exact (Kd.C_below HR0_5.out HB.out)|(with_reducible refine Kd.C_alloc ?_ _)|(with_reducible refine Kd.C_drewN ?_ _)|(with_reducible refine Kd.C_drew ?_)));(case side4=>exact HC0_5.out);(case side5=>repeat (first|exact (Kd.C_below HR0_6.out HB.out)|(with_reducible refine Kd.C_alloc ?_ _)|(with_reducible refine Kd.C_drewN ?_ _)|(with_reducible refine Kd.C_drew ?_)));(case side6=>exact HC0_6.out);rintro e w56 ⟨rfl,hb⟩;refine ⟨_,rfl,?_⟩;have n0_:=Aside0.mk (blk_below (g:=gb155) (o:=.cells #[.int .i64 a0_0,.int .i64 a0_1,.int .i64 a0_2,.string a0_3,.slice A0_4 l0_4.length c0_4,.slice A0_5 l0_5.length c0_5,.slice A0_6 l0_6.length c0_6] 113 (0,0)) (by (with_reducible repeat (first|refine blk_drewN ?_ _|refine blk_drew ?_|refine blk_alloc ?_ _));exact BK155.out) hb);have n1_:=Aside0.mk (below_step (by repeat (first|(with_reducible first|exact HB.out|apply below_alloc|apply pw_below_drewN|apply below_drew1|refine below_set ?_ GE155.out)|exact HB.out)) hb);clear BK155;clear HB;have BK155:=n0_;have HB:=n1_;clear n0_ n1_;(try clear hb);(try clear hb2);(try clear hk);(try clear hi)))
              go_ret
              exact ⟨by first|rfl|(simp [errW_none,errW_some] <;> rfl)|(simp [*,errW_none,errW_some] <;> rfl),by repeat (first|(with_reducible first|exact HB.out|apply below_alloc|apply pw_below_drewN|apply below_drew1|refine below_set ?_ GE155.out)|exact HB.out)⟩
       ·rw [if_neg c41] at H
        have c41b0:(a0_0==0)=false:=beq_eq_false_iff_ne.mpr c41
        have c41b1:(a0_0 != 0)=true:=bne_iff_ne.mpr c41
        have HC57:=Aside0.mk H
        clear H
        have hcz58_0:wr.cell? ⟨gb155,0,none⟩=some (.int .i64 a0_0):=(blk_cell BK155.out 0).trans rfl
        have hcz58_1:wr.cell? ⟨gb155,1,none⟩=some (.int .i64 a0_1):=(blk_cell BK155.out 1).trans rfl
        have hcz58_2:wr.cell? ⟨gb155,2,none⟩=some (.int .i64 a0_2):=(blk_cell BK155.out 2).trans rfl
        have hcz58_3:wr.cell? ⟨gb155,3,none⟩=some (.string a0_3):=(blk_cell BK155.out 3).trans rfl
        have hcz58_4:wr.cell? ⟨gb155,4,none⟩=some (.slice A0_4 l0_4.length c0_4):=(blk_cell BK155.out 4).trans rfl
        have hcz58_5:wr.cell? ⟨gb155,5,none⟩=some (.slice A0_5 l0_5.length c0_5):=(blk_cell BK155.out 5).trans rfl
        have hcz58_6:wr.cell? ⟨gb155,6,none⟩=some (.slice A0_6 l0_6.length c0_6):=(blk_cell BK155.out 6).trans rfl
        have hfz58_0:=blk_frozen BK155.out 0
        have hfz58_1:=blk_frozen BK155.out 1
        have hfz58_2:=blk_frozen BK155.out 2
        have hfz58_3:=blk_frozen BK155.out 3
        have hfz58_4:=blk_frozen BK155.out 4
        have hfz58_5:=blk_frozen BK155.out 5
        have hfz58_6:=blk_frozen BK155.out 6
        go_upto_region 20 with (fail)
        go_cut [125] (fun v125 wc=>∃ (kq:Nat) (x125_56:Bool),v125=.bool x125_56∧Aside0 (latticeref06_Right.j5 kq x125_56 a0_0 a0_1 a0_2 a0_3 l0_4 l0_5 l0_6=some r)∧Aside0 (kq≤k2)∧Aside0 (wc.heap[gb155]?=some (.cells #[.int .i64 a0_0,.int .i64 a0_1,.int .i64 a0_2,.string a0_3,(.slice A0_4 l0_4.length c0_4),(.slice A0_5 l0_5.length c0_5),(.slice A0_6 l0_6.length c0_6)] 113 (0,0)))∧Aside0 (Below w.heap.size w wc))
        case first =>
         have H:=HC57.out
         clear HC57
         by_cases c59:(l0_6.length:Int)=(wrap64 ((l0_4.length:Int)+1))
         ·rw [if_pos c59] at H
          have c59b0:((l0_6.length:Int)==(wrap64 ((l0_4.length:Int)+1)))=true:=beq_iff_eq.mpr c59
          have c59b1:((l0_6.length:Int) != (wrap64 ((l0_4.length:Int)+1)))=false:=bne_eq_false_iff_eq.mpr c59
          clear c59
          (first|rw [c59b0]|(simp only [i64_w,i32_w];rw [c59b0])|skip)
          have H':=Aside0.mk H
          clear H
          have hcz60_0:wr.cell? ⟨gb155,0,none⟩=some (.int .i64 a0_0):=(blk_cell BK155.out 0).trans rfl
          have hcz60_1:wr.cell? ⟨gb155,1,none⟩=some (.int .i64 a0_1):=(blk_cell BK155.out 1).trans rfl
          have hcz60_2:wr.cell? ⟨gb155,2,none⟩=some (.int .i64 a0_2):=(blk_cell BK155.out 2).trans rfl
          have hcz60_3:wr.cell? ⟨gb155,3,none⟩=some (.string a0_3):=(blk_cell BK155.out 3).trans rfl
          have hcz60_4:wr.cell? ⟨gb155,4,none⟩=some (.slice A0_4 l0_4.length c0_4):=(blk_cell BK155.out 4).trans rfl
          have hcz60_5:wr.cell? ⟨gb155,5,none⟩=some (.slice A0_5 l0_5.length c0_5):=(blk_cell BK155.out 5).trans rfl
          have hcz60_6:wr.cell? ⟨gb155,6,none⟩=some (.slice A0_6 l0_6.length c0_6):=(blk_cell BK155.out 6).trans rfl
          have hfz60_0:=blk_frozen BK155.out 0
          have hfz60_1:=blk_frozen BK155.out 1
          have hfz60_2:=blk_frozen BK155.out 2
          have hfz60_3:=blk_frozen BK155.out 3
          have hfz60_4:=blk_frozen BK155.out 4
          have hfz60_5:=blk_frozen BK155.out 5
          have hfz60_6:=blk_frozen BK155.out 6
          go_wp2
          go_meet
          case rel=>exact ⟨_,(decide ((l0_5.length:Int) > 0)),(by first|rfl|(simp;done)|(simp [*];done)),H',⟨by have:=HJ1.out;have:=HK2.out;first|omega|exact Nat.le_refl _⟩,⟨by (with_reducible repeat (first|refine blk_drewN ?_ _|refine blk_drew ?_|refine blk_alloc ?_ _));exact BK155.out⟩,⟨by repeat (first|(with_reducible first|exact HB.out|apply below_alloc|apply pw_below_drewN|apply below_drew1|refine below_set ?_ GE155.out)|exact HB.out)⟩⟩
         ·rw [if_neg c59] at H
          have c59b0:((l0_6.length:Int)==(wrap64 ((l0_4.length:Int)+1)))=false:=beq_eq_false_iff_ne.mpr c59
          have c59b1:((l0_6.length:Int) != (wrap64 ((l0_4.length:Int)+1)))=true:=bne_iff_ne.mpr c59
          (first|rw [c59b0]|(simp only [i64_w,i32_w];rw [c59b0])|skip)
          have H':=Aside0.mk H
          clear H
          have hcz61_0:wr.cell? ⟨gb155,0,none⟩=some (.int .i64 a0_0):=(blk_cell BK155.out 0).trans rfl
          have hcz61_1:wr.cell? ⟨gb155,1,none⟩=some (.int .i64 a0_1):=(blk_cell BK155.out 1).trans rfl
          have hcz61_2:wr.cell? ⟨gb155,2,none⟩=some (.int .i64 a0_2):=(blk_cell BK155.out 2).trans rfl
          have hcz61_3:wr.cell? ⟨gb155,3,none⟩=some (.string a0_3):=(blk_cell BK155.out 3).trans rfl
          have hcz61_4:wr.cell? ⟨gb155,4,none⟩=some (.slice A0_4 l0_4.length c0_4):=(blk_cell BK155.out 4).trans rfl
          have hcz61_5:wr.cell? ⟨gb155,5,none⟩=some (.slice A0_5 l0_5.length c0_5):=(blk_cell BK155.out 5).trans rfl
          have hcz61_6:wr.cell? ⟨gb155,6,none⟩=some (.slice A0_6 l0_6.length c0_6):=(blk_cell BK155.out 6).trans rfl
          have hfz61_0:=blk_frozen BK155.out 0
          have hfz61_1:=blk_frozen BK155.out 1
          have hfz61_2:=blk_frozen BK155.out 2
          have hfz61_3:=blk_frozen BK155.out 3
          have hfz61_4:=blk_frozen BK155.out 4
          have hfz61_5:=blk_frozen BK155.out 5
          have hfz61_6:=blk_frozen BK155.out 6
          go_wp2
          go_meet
          case rel=>exact ⟨_,(true),(by first|rfl|(simp;done)|(simp [*];done)),H',⟨by have:=HJ1.out;have:=HK2.out;first|omega|exact Nat.le_refl _⟩,⟨by (with_reducible repeat (first|refine blk_drewN ?_ _|refine blk_drew ?_|refine blk_alloc ?_ _));exact BK155.out⟩,⟨by repeat (first|(with_reducible first|exact HB.out|apply below_alloc|apply pw_below_drewN|apply below_drew1|refine below_set ?_ GE155.out)|exact HB.out)⟩⟩
        case rest =>
         clear HC57
         try clear c1
         try clear p1
         try clear q1
         try clear hx1
         try clear c2
         try clear p2
         try clear c3
         try clear c4
         try clear c4b0
         try clear c5
         try clear c6
         try clear c6b0
         try clear p6
         try clear c8
         try clear c8b0
         try clear c10
         try clear c10b0
         try clear c12
         try clear c12b0
         try clear c14
         try clear c14b0
         try clear p15
         try clear q15
         try clear hx15
         try clear c16
         try clear c16b0
         try clear c16b1
         try clear p16
         try clear q16
         try clear hx16
         try clear c20
         try clear c22
         try clear c22b0
         try clear c23
         try clear c23b0
         try clear c24
         try clear c24b0
         try clear c27
         try clear c27b0
         try clear c27b1
         try clear c28
         try clear c28b0
         try clear c28b1
         try clear c32
         try clear c33
         try clear c33b0
         try clear c35
         try clear c35b0
         try clear c36
         try clear c36b0
         try clear c38
         try clear c38b0
         try clear c41
         try clear c41b0
         try clear c41b1
         try clear c44
         try clear c44b0
         try clear c44b1
         try clear c44b2
         try clear c47
         try clear c49
         try clear c49b0
         try clear c50
         try clear c50b0
         try clear c51
         try clear c51b0
         try clear c53
         try clear c53b0
         try clear c53b1
         try clear c59
         try clear c59b0
         try clear c59b1
         try clear hcz11_0
         try clear hcz11_1
         try clear hcz11_2
         try clear hcz11_3
         try clear hcz11_4
         try clear hcz11_5
         try clear hcz11_6
         try clear hcz13_0
         try clear hcz13_1
         try clear hcz13_2
         try clear hcz13_3
         try clear hcz13_4
         try clear hcz13_5
         try clear hcz13_6
         try clear hcz15_0
         try clear hcz15_1
         try clear hcz15_2
         try clear hcz15_3
         try clear hcz15_4
         try clear hcz15_5
         try clear hcz15_6
         try clear hcz17_0
         try clear hcz17_1
         try clear hcz17_2
         try clear hcz17_3
         try clear hcz17_4
         try clear hcz17_5
         try clear hcz17_6
         try clear hcz19_0
         try clear hcz19_1
         try clear hcz19_2
         try clear hcz19_3
         try clear hcz19_4
         try clear hcz19_5
         try clear hcz19_6
         try clear hcz21_0
         try clear hcz21_1
         try clear hcz21_2
         try clear hcz21_3
         try clear hcz21_4
         try clear hcz21_5
         try clear hcz21_6
         try clear hcz29_0
         try clear hcz29_1
         try clear hcz29_2
         try clear hcz29_3
         try clear hcz29_4
         try clear hcz29_5
         try clear hcz29_6
         try clear hcz31_0
         try clear hcz31_1
         try clear hcz31_2
         try clear hcz31_3
         try clear hcz31_4
         try clear hcz31_5
         try clear hcz31_6
         try clear hcz39_0
         try clear hcz39_1
         try clear hcz39_2
         try clear hcz39_3
         try clear hcz39_4
         try clear hcz39_5
         try clear hcz39_6
         try clear hcz40_0
         try clear hcz40_1
         try clear hcz40_2
         try clear hcz40_3
         try clear hcz40_4
         try clear hcz40_5
         try clear hcz40_6
         try clear hcz43_0
         try clear hcz43_1
         try clear hcz43_2
         try clear hcz43_3
         try clear hcz43_4
         try clear hcz43_5
         try clear hcz43_6
         try clear hcz45_0
         try clear hcz45_1
         try clear hcz45_2
         try clear hcz45_3
         try clear hcz45_4
         try clear hcz45_5
         try clear hcz45_6
         try clear hcz46_0
         try clear hcz46_1
         try clear hcz46_2
         try clear hcz46_3
         try clear hcz46_4
         try clear hcz46_5
         try clear hcz46_6
         try clear hcz48_0
         try clear hcz48_1
         try clear hcz48_2
         try clear hcz48_3
         try clear hcz48_4
         try clear hcz48_5
         try clear hcz48_6
         try clear hcz55_0
         try clear hcz55_1
         try clear hcz55_2
         try clear hcz55_3
         try clear hcz55_4
         try clear hcz55_5
         try clear hcz55_6
         try clear hcz58_0
         try clear hcz58_1
         try clear hcz58_2
         try clear hcz58_3
         try clear hcz58_4
         try clear hcz58_5
         try clear hcz58_6
         try clear hcz5_0
         try clear hcz5_1
         try clear hcz5_2
         try clear hcz5_3
         try clear hcz5_4
         try clear hcz5_5
         try clear hcz5_6
         try clear hcz60_0
         try clear hcz60_1
         try clear hcz60_2
         try clear hcz60_3
         try clear hcz60_4
         try clear hcz60_5
         try clear hcz60_6
         try clear hcz61_0
         try clear hcz61_1
         try clear hcz61_2
         try clear hcz61_3
         try clear hcz61_4
         try clear hcz61_5
         try clear hcz61_6
         try clear hcz7_0
         try clear hcz7_1
         try clear hcz7_2
         try clear hcz7_3
         try clear hcz7_4
         try clear hcz7_5
         try clear hcz7_6
         try clear hcz9_0
         try clear hcz9_1
         try clear hcz9_2
         try clear hcz9_3
         try clear hcz9_4
         try clear hcz9_5
         try clear hcz9_6
         try clear hfz11_0
         try clear hfz11_1
         try clear hfz11_2
         try clear hfz11_3
         try clear hfz11_4
         try clear hfz11_5
         try clear hfz11_6
         try clear hfz13_0
         try clear hfz13_1
         try clear hfz13_2
         try clear hfz13_3
         try clear hfz13_4
         try clear hfz13_5
         try clear hfz13_6
         try clear hfz15_0
         try clear hfz15_1
         try clear hfz15_2
         try clear hfz15_3
         try clear hfz15_4
         try clear hfz15_5
         try clear hfz15_6
         try clear hfz17_0
         try clear hfz17_1
         try clear hfz17_2
         try clear hfz17_3
         try clear hfz17_4
         try clear hfz17_5
         try clear hfz17_6
         try clear hfz19_0
         try clear hfz19_1
         try clear hfz19_2
         try clear hfz19_3
         try clear hfz19_4
         try clear hfz19_5
         try clear hfz19_6
         try clear hfz21_0
         try clear hfz21_1
         try clear hfz21_2
         try clear hfz21_3
         try clear hfz21_4
         try clear hfz21_5
         try clear hfz21_6
         try clear hfz29_0
         try clear hfz29_1
         try clear hfz29_2
         try clear hfz29_3
         try clear hfz29_4
         try clear hfz29_5
         try clear hfz29_6
         try clear hfz31_0
         try clear hfz31_1
         try clear hfz31_2
         try clear hfz31_3
         try clear hfz31_4
         try clear hfz31_5
         try clear hfz31_6
         try clear hfz39_0
         try clear hfz39_1
         try clear hfz39_2
         try clear hfz39_3
         try clear hfz39_4
         try clear hfz39_5
         try clear hfz39_6
         try clear hfz40_0
         try clear hfz40_1
         try clear hfz40_2
         try clear hfz40_3
         try clear hfz40_4
         try clear hfz40_5
         try clear hfz40_6
         try clear hfz43_0
         try clear hfz43_1
         try clear hfz43_2
         try clear hfz43_3
         try clear hfz43_4
         try clear hfz43_5
         try clear hfz43_6
         try clear hfz45_0
         try clear hfz45_1
         try clear hfz45_2
         try clear hfz45_3
         try clear hfz45_4
         try clear hfz45_5
         try clear hfz45_6
         try clear hfz46_0
         try clear hfz46_1
         try clear hfz46_2
         try clear hfz46_3
         try clear hfz46_4
         try clear hfz46_5
         try clear hfz46_6
         try clear hfz48_0
         try clear hfz48_1
         try clear hfz48_2
         try clear hfz48_3
         try clear hfz48_4
         try clear hfz48_5
         try clear hfz48_6
         try clear hfz55_0
         try clear hfz55_1
         try clear hfz55_2
         try clear hfz55_3
         try clear hfz55_4
         try clear hfz55_5
         try clear hfz55_6
         try clear hfz58_0
         try clear hfz58_1
         try clear hfz58_2
         try clear hfz58_3
         try clear hfz58_4
         try clear hfz58_5
         try clear hfz58_6
         try clear hfz5_0
         try clear hfz5_1
         try clear hfz5_2
         try clear hfz5_3
         try clear hfz5_4
         try clear hfz5_5
         try clear hfz5_6
         try clear hfz60_0
         try clear hfz60_1
         try clear hfz60_2
         try clear hfz60_3
         try clear hfz60_4
         try clear hfz60_5
         try clear hfz60_6
         try clear hfz61_0
         try clear hfz61_1
         try clear hfz61_2
         try clear hfz61_3
         try clear hfz61_4
         try clear hfz61_5
         try clear hfz61_6
         try clear hfz7_0
         try clear hfz7_1
         try clear hfz7_2
         try clear hfz7_3
         try clear hfz7_4
         try clear hfz7_5
         try clear hfz7_6
         try clear hfz9_0
         try clear hfz9_1
         try clear hfz9_2
         try clear hfz9_3
         try clear hfz9_4
         try clear hfz9_5
         try clear hfz9_6
         try clear hx157_0
         try clear hx160_0
         try clear hx162_0
         try clear p1
         try clear p15
         try clear p157
         try clear p16
         try clear p160
         try clear p162
         try clear p2
         try clear p6
         try clear q1
         try clear q15
         try clear q157
         try clear q16
         try clear q160
         try clear q162
         obtain ⟨kq,x125_56,rfl,HA,HJ56,BK155,HB⟩:=hcut
         cases kq with
         | zero=>exact absurd (show none=some _ from HA.out) (by simp)
         | succ kj56 =>
          have H:=HA.out
          clear HA
          simp only [latticeref06_Right.j5] at H
          by_cases c62:x125_56=true
          ·subst c62
           have H1:(some false)=some r:=by rw [if_pos rfl] at H;exact H
           clear H
           have H:=H1
           clear H1
           obtain rfl:=Option.some.inj H
           go_wp2
           go_ret
           exact ⟨by first|rfl|(simp [errW_none,errW_some] <;> rfl)|(simp [*,errW_none,errW_some] <;> rfl),by repeat (first|(with_reducible first|exact HB.out|apply below_alloc|apply pw_below_drewN|apply below_drew1|refine below_set ?_ GE155.out)|exact HB.out)⟩
          ·replace c62:=Bool.eq_false_iff.mpr c62
           subst c62
           have H1:(latticeref06_Right.l2 kj56 l0_6 (l0_6.length:Int) 0 a0_0 a0_1 a0_2 a0_3 l0_4 l0_5 l0_6)=some r:=by rw [if_neg (show ¬ (false=true) by decide)] at H;exact H
           clear H
           have H:=H1
           clear H1
           have H':=Aside0.mk H
           clear H
           have hcz63_0:wc.cell? ⟨gb155,0,none⟩=some (.int .i64 a0_0):=(blk_cell BK155.out 0).trans rfl
           have hcz63_1:wc.cell? ⟨gb155,1,none⟩=some (.int .i64 a0_1):=(blk_cell BK155.out 1).trans rfl
           have hcz63_2:wc.cell? ⟨gb155,2,none⟩=some (.int .i64 a0_2):=(blk_cell BK155.out 2).trans rfl
           have hcz63_3:wc.cell? ⟨gb155,3,none⟩=some (.string a0_3):=(blk_cell BK155.out 3).trans rfl
           have hcz63_4:wc.cell? ⟨gb155,4,none⟩=some (.slice A0_4 l0_4.length c0_4):=(blk_cell BK155.out 4).trans rfl
           have hcz63_5:wc.cell? ⟨gb155,5,none⟩=some (.slice A0_5 l0_5.length c0_5):=(blk_cell BK155.out 5).trans rfl
           have hcz63_6:wc.cell? ⟨gb155,6,none⟩=some (.slice A0_6 l0_6.length c0_6):=(blk_cell BK155.out 6).trans rfl
           have hfz63_0:=blk_frozen BK155.out 0
           have hfz63_1:=blk_frozen BK155.out 1
           have hfz63_2:=blk_frozen BK155.out 2
           have hfz63_3:=blk_frozen BK155.out 3
           have hfz63_4:=blk_frozen BK155.out 4
           have hfz63_5:=blk_frozen BK155.out 5
           have hfz63_6:=blk_frozen BK155.out 6
           go_wp2
           go_loopg [129] kj56 (fun kq v129 w'=>∃ (x129_4:Int),v129=.int .i64 x129_4∧Aside0 (latticeref06_Right.l2 kq l0_6 (l0_6.length:Int) x129_4 a0_0 a0_1 a0_2 a0_3 l0_4 l0_5 l0_6=some r)∧Aside0 (kq≤kj56)∧Aside0 (w'.heap[gb155]?=some (.cells #[.int .i64 a0_0,.int .i64 a0_1,.int .i64 a0_2,.string a0_3,(.slice A0_4 l0_4.length c0_4),(.slice A0_5 l0_5.length c0_5),(.slice A0_6 l0_6.length c0_6)] 113 (0,0)))∧Aside0 (Below w.heap.size w w'))
           case atStart=>exact ⟨(0),(by first|rfl|(simp;done)|(simp [*];done)),H',⟨Nat.le_refl _⟩,⟨by (with_reducible repeat (first|refine blk_drewN ?_ _|refine blk_drew ?_|refine blk_alloc ?_ _));exact BK155.out⟩,⟨by repeat (first|(with_reducible first|exact HB.out|apply below_alloc|apply pw_below_drewN|apply below_drew1|refine below_set ?_ GE155.out)|exact HB.out)⟩⟩
           case round =>
            clear H'
            try clear c1
            try clear p1
            try clear q1
            try clear hx1
            try clear c2
            try clear p2
            try clear c3
            try clear c4
            try clear c4b0
            try clear c5
            try clear c6
            try clear c6b0
            try clear p6
            try clear c8
            try clear c8b0
            try clear c10
            try clear c10b0
            try clear c12
            try clear c12b0
            try clear c14
            try clear c14b0
            try clear p15
            try clear q15
            try clear hx15
            try clear c16
            try clear c16b0
            try clear c16b1
            try clear p16
            try clear q16
            try clear hx16
            try clear c20
            try clear c22
            try clear c22b0
            try clear c23
            try clear c23b0
            try clear c24
            try clear c24b0
            try clear c27
            try clear c27b0
            try clear c27b1
            try clear c28
            try clear c28b0
            try clear c28b1
            try clear c32
            try clear c33
            try clear c33b0
            try clear c35
            try clear c35b0
            try clear c36
            try clear c36b0
            try clear c38
            try clear c38b0
            try clear c41
            try clear c41b0
            try clear c41b1
            try clear c44
            try clear c44b0
            try clear c44b1
            try clear c44b2
            try clear c47
            try clear c49
            try clear c49b0
            try clear c50
            try clear c50b0
            try clear c51
            try clear c51b0
            try clear c53
            try clear c53b0
            try clear c53b1
            try clear c59
            try clear c59b0
            try clear c59b1
            try clear c62
            try clear hcz11_0
            try clear hcz11_1
            try clear hcz11_2
            try clear hcz11_3
            try clear hcz11_4
            try clear hcz11_5
            try clear hcz11_6
            try clear hcz13_0
            try clear hcz13_1
            try clear hcz13_2
            try clear hcz13_3
            try clear hcz13_4
            try clear hcz13_5
            try clear hcz13_6
            try clear hcz15_0
            try clear hcz15_1
            try clear hcz15_2
            try clear hcz15_3
            try clear hcz15_4
            try clear hcz15_5
            try clear hcz15_6
            try clear hcz17_0
            try clear hcz17_1
            try clear hcz17_2
            try clear hcz17_3
            try clear hcz17_4
            try clear hcz17_5
            try clear hcz17_6
            try clear hcz19_0
            try clear hcz19_1
            try clear hcz19_2
            try clear hcz19_3
            try clear hcz19_4
            try clear hcz19_5
            try clear hcz19_6
            try clear hcz21_0
            try clear hcz21_1
            try clear hcz21_2
            try clear hcz21_3
            try clear hcz21_4
            try clear hcz21_5
            try clear hcz21_6
            try clear hcz29_0
            try clear hcz29_1
            try clear hcz29_2
            try clear hcz29_3
            try clear hcz29_4
            try clear hcz29_5
            try clear hcz29_6
            try clear hcz31_0
            try clear hcz31_1
            try clear hcz31_2
            try clear hcz31_3
            try clear hcz31_4
            try clear hcz31_5
            try clear hcz31_6
            try clear hcz39_0
            try clear hcz39_1
            try clear hcz39_2
            try clear hcz39_3
            try clear hcz39_4
            try clear hcz39_5
            try clear hcz39_6
            try clear hcz40_0
            try clear hcz40_1
            try clear hcz40_2
            try clear hcz40_3
            try clear hcz40_4
            try clear hcz40_5
            try clear hcz40_6
            try clear hcz43_0
            try clear hcz43_1
            try clear hcz43_2
            try clear hcz43_3
            try clear hcz43_4
            try clear hcz43_5
            try clear hcz43_6
            try clear hcz45_0
            try clear hcz45_1
            try clear hcz45_2
            try clear hcz45_3
            try clear hcz45_4
            try clear hcz45_5
            try clear hcz45_6
            try clear hcz46_0
            try clear hcz46_1
            try clear hcz46_2
            try clear hcz46_3
            try clear hcz46_4
            try clear hcz46_5
            try clear hcz46_6
            try clear hcz48_0
            try clear hcz48_1
            try clear hcz48_2
            try clear hcz48_3
            try clear hcz48_4
            try clear hcz48_5
            try clear hcz48_6
            try clear hcz55_0
            try clear hcz55_1
            try clear hcz55_2
            try clear hcz55_3
            try clear hcz55_4
            try clear hcz55_5
            try clear hcz55_6
            try clear hcz58_0
            try clear hcz58_1
            try clear hcz58_2
            try clear hcz58_3
            try clear hcz58_4
            try clear hcz58_5
            try clear hcz58_6
            try clear hcz5_0
            try clear hcz5_1
            try clear hcz5_2
            try clear hcz5_3
            try clear hcz5_4
            try clear hcz5_5
            try clear hcz5_6
            try clear hcz60_0
            try clear hcz60_1
            try clear hcz60_2
            try clear hcz60_3
            try clear hcz60_4
            try clear hcz60_5
            try clear hcz60_6
            try clear hcz61_0
            try clear hcz61_1
            try clear hcz61_2
            try clear hcz61_3
            try clear hcz61_4
            try clear hcz61_5
            try clear hcz61_6
            try clear hcz63_0
            try clear hcz63_1
            try clear hcz63_2
            try clear hcz63_3
            try clear hcz63_4
            try clear hcz63_5
            try clear hcz63_6
            try clear hcz7_0
            try clear hcz7_1
            try clear hcz7_2
            try clear hcz7_3
            try clear hcz7_4
            try clear hcz7_5
            try clear hcz7_6
            try clear hcz9_0
            try clear hcz9_1
            try clear hcz9_2
            try clear hcz9_3
            try clear hcz9_4
            try clear hcz9_5
            try clear hcz9_6
            try clear hfz11_0
            try clear hfz11_1
            try clear hfz11_2
            try clear hfz11_3
            try clear hfz11_4
            try clear hfz11_5
            try clear hfz11_6
            try clear hfz13_0
            try clear hfz13_1
            try clear hfz13_2
            try clear hfz13_3
            try clear hfz13_4
            try clear hfz13_5
            try clear hfz13_6
            try clear hfz15_0
            try clear hfz15_1
            try clear hfz15_2
            try clear hfz15_3
            try clear hfz15_4
            try clear hfz15_5
            try clear hfz15_6
            try clear hfz17_0
            try clear hfz17_1
            try clear hfz17_2
            try clear hfz17_3
            try clear hfz17_4
            try clear hfz17_5
            try clear hfz17_6
            try clear hfz19_0
            try clear hfz19_1
            try clear hfz19_2
            try clear hfz19_3
            try clear hfz19_4
            try clear hfz19_5
            try clear hfz19_6
            try clear hfz21_0
            try clear hfz21_1
            try clear hfz21_2
            try clear hfz21_3
            try clear hfz21_4
            try clear hfz21_5
            try clear hfz21_6
            try clear hfz29_0
            try clear hfz29_1
            try clear hfz29_2
            try clear hfz29_3
            try clear hfz29_4
            try clear hfz29_5
            try clear hfz29_6
            try clear hfz31_0
            try clear hfz31_1
            try clear hfz31_2
            try clear hfz31_3
            try clear hfz31_4
            try clear hfz31_5
            try clear hfz31_6
            try clear hfz39_0
            try clear hfz39_1
            try clear hfz39_2
            try clear hfz39_3
            try clear hfz39_4
            try clear hfz39_5
            try clear hfz39_6
            try clear hfz40_0
            try clear hfz40_1
            try clear hfz40_2
            try clear hfz40_3
            try clear hfz40_4
            try clear hfz40_5
            try clear hfz40_6
            try clear hfz43_0
            try clear hfz43_1
            try clear hfz43_2
            try clear hfz43_3
            try clear hfz43_4
            try clear hfz43_5
            try clear hfz43_6
            try clear hfz45_0
            try clear hfz45_1
            try clear hfz45_2
            try clear hfz45_3
            try clear hfz45_4
            try clear hfz45_5
            try clear hfz45_6
            try clear hfz46_0
            try clear hfz46_1
            try clear hfz46_2
            try clear hfz46_3
            try clear hfz46_4
            try clear hfz46_5
            try clear hfz46_6
            try clear hfz48_0
            try clear hfz48_1
            try clear hfz48_2
            try clear hfz48_3
            try clear hfz48_4
            try clear hfz48_5
            try clear hfz48_6
            try clear hfz55_0
            try clear hfz55_1
            try clear hfz55_2
            try clear hfz55_3
            try clear hfz55_4
            try clear hfz55_5
            try clear hfz55_6
            try clear hfz58_0
            try clear hfz58_1
            try clear hfz58_2
            try clear hfz58_3
            try clear hfz58_4
            try clear hfz58_5
            try clear hfz58_6
            try clear hfz5_0
            try clear hfz5_1
            try clear hfz5_2
            try clear hfz5_3
            try clear hfz5_4
            try clear hfz5_5
            try clear hfz5_6
            try clear hfz60_0
            try clear hfz60_1
            try clear hfz60_2
            try clear hfz60_3
            try clear hfz60_4
            try clear hfz60_5
            try clear hfz60_6
            try clear hfz61_0
            try clear hfz61_1
            try clear hfz61_2
            try clear hfz61_3
            try clear hfz61_4
            try clear hfz61_5
            try clear hfz61_6
            try clear hfz63_0
            try clear hfz63_1
            try clear hfz63_2
            try clear hfz63_3
            try clear hfz63_4
            try clear hfz63_5
            try clear hfz63_6
            try clear hfz7_0
            try clear hfz7_1
            try clear hfz7_2
            try clear hfz7_3
            try clear hfz7_4
            try clear hfz7_5
            try clear hfz7_6
            try clear hfz9_0
            try clear hfz9_1
            try clear hfz9_2
            try clear hfz9_3
            try clear hfz9_4
            try clear hfz9_5
            try clear hfz9_6
            try clear hx157_0
            try clear hx160_0
            try clear hx162_0
            try clear p1
            try clear p15
            try clear p157
            try clear p16
            try clear p160
            try clear p162
            try clear p2
            try clear p6
            try clear q1
            try clear q15
            try clear q157
            try clear q16
            try clear q160
            try clear q162
            obtain ⟨x129_4,rfl,HA,HK4,BK155,HB⟩:=hrel
            cases gk with
            | zero=>exact absurd (show none=some _ from HA.out) (by simp)
            | succ k4 =>
             have H:=HA.out
             clear HA
             simp only [latticeref06_Right.l2] at H
             by_cases c64:x129_4 < (l0_6.length:Int)
             ·rw [if_pos c64] at H
              have c64b0:decide (x129_4 < (l0_6.length:Int))=true:=decide_eq_true c64
              clear c64
              by_cases c65:0≤x129_4
              ·rw [if_pos c65] at H
               have c65b0:decide (0≤x129_4)=true:=decide_eq_true c65
               clear c65
               by_cases c66:x129_4 < (l0_6.length:Int)
               ·rw [if_pos c66] at H
                have c66b0:decide (x129_4 < (l0_6.length:Int))=true:=decide_eq_true c66
                clear c66
                by_cases c67:(rd l0_6 x129_4) < 1
                ·rw [if_pos c67] at H
                 have c67b0:decide ((rd l0_6 x129_4) < 1)=true:=decide_eq_true c67
                 clear c67
                 obtain rfl:=Option.some.inj H
                 have p165:0≤(x129_4:Int):=of_decide_eq_true (by first|(with_reducible assumption)|assumption)
                 have q165:x129_4 < (l0_6.length:Int):=of_decide_eq_true (by first|(with_reducible assumption)|assumption)
                 obtain ⟨ad165,e165,hx165_0⟩:=Kd.at_int HR0_6.out x129_4 p165 q165
                 cases e165
                 replace hx165_0:=(HB.out.cell (World.block_lt_of_cell? w _ hx165_0)).trans hx165_0
                 replace p165:=eq_true p165
                 replace q165:=eq_true q165
                 go_wp2
                 go_ret
                 exact ⟨by first|rfl|(simp [errW_none,errW_some] <;> rfl)|(simp [*,errW_none,errW_some] <;> rfl),by repeat (first|(with_reducible first|exact HB.out|apply below_alloc|apply pw_below_drewN|apply below_drew1|refine below_set ?_ GE155.out)|exact HB.out)⟩
                ·rw [if_neg c67] at H
                 have c67b0:decide ((rd l0_6 x129_4) < 1)=false:=decide_eq_false c67
                 clear c67
                 by_cases c68:(rd l0_6 x129_4) > 4096
                 ·rw [if_pos c68] at H
                  have c68b0:decide (4096 < (rd l0_6 x129_4))=true:=decide_eq_true c68
                  clear c68
                  obtain rfl:=Option.some.inj H
                  have p165:0≤(x129_4:Int):=of_decide_eq_true (by first|(with_reducible assumption)|assumption)
                  have q165:x129_4 < (l0_6.length:Int):=of_decide_eq_true (by first|(with_reducible assumption)|assumption)
                  obtain ⟨ad165,e165,hx165_0⟩:=Kd.at_int HR0_6.out x129_4 p165 q165
                  cases e165
                  replace hx165_0:=(HB.out.cell (World.block_lt_of_cell? w _ hx165_0)).trans hx165_0
                  replace p165:=eq_true p165
                  replace q165:=eq_true q165
                  go_wp2
                  go_ret
                  exact ⟨by first|rfl|(simp [errW_none,errW_some] <;> rfl)|(simp [*,errW_none,errW_some] <;> rfl),by repeat (first|(with_reducible first|exact HB.out|apply below_alloc|apply pw_below_drewN|apply below_drew1|refine below_set ?_ GE155.out)|exact HB.out)⟩
                 ·rw [if_neg c68] at H
                  have c68b0:decide (4096 < (rd l0_6 x129_4))=false:=decide_eq_false c68
                  clear c68
                  have H':=Aside0.mk H
                  clear H
                  have p165:0≤(x129_4:Int):=of_decide_eq_true (by first|(with_reducible assumption)|assumption)
                  have q165:x129_4 < (l0_6.length:Int):=of_decide_eq_true (by first|(with_reducible assumption)|assumption)
                  obtain ⟨ad165,e165,hx165_0⟩:=Kd.at_int HR0_6.out x129_4 p165 q165
                  cases e165
                  replace hx165_0:=(HB.out.cell (World.block_lt_of_cell? w _ hx165_0)).trans hx165_0
                  replace p165:=eq_true p165
                  replace q165:=eq_true q165
                  go_wp2
                  go_roundg k4
                  case measure=>have:=HJ1.out;have:=HK2.out;have:=HJ56.out;have:=HK4.out;omega
                  case rel=>exact ⟨(wrap64 (x129_4+1)),(by first|rfl|(simp;done)|(simp [*];done)),H',⟨by have:=HJ1.out;have:=HK2.out;have:=HJ56.out;have:=HK4.out;omega⟩,⟨by (with_reducible repeat (first|refine blk_drewN ?_ _|refine blk_drew ?_|refine blk_alloc ?_ _));exact BK155.out⟩,⟨by repeat (first|(with_reducible first|exact HB.out|apply below_alloc|apply pw_below_drewN|apply below_drew1|refine below_set ?_ GE155.out)|exact HB.out)⟩⟩
               ·rw [if_neg c66] at H
                exact absurd H (by simp)
              ·rw [if_neg c65] at H
               exact absurd H (by simp)
             ·rw [if_neg c64] at H
              have c64b0:decide (x129_4 < (l0_6.length:Int))=false:=decide_eq_false c64
              clear c64
              replace H:=Option.bind_eq_some_iff.mp H
              obtain ⟨t166,A690,H⟩:=H
              try dsimp only at H
              have A69:=Aside0.mk A690
              clear A690
              obtain rfl:=Option.some.inj H
              have hcz70_0:wr.cell? ⟨gb155,0,none⟩=some (.int .i64 a0_0):=(blk_cell BK155.out 0).trans rfl
              have hcz70_1:wr.cell? ⟨gb155,1,none⟩=some (.int .i64 a0_1):=(blk_cell BK155.out 1).trans rfl
              have hcz70_2:wr.cell? ⟨gb155,2,none⟩=some (.int .i64 a0_2):=(blk_cell BK155.out 2).trans rfl
              have hcz70_3:wr.cell? ⟨gb155,3,none⟩=some (.string a0_3):=(blk_cell BK155.out 3).trans rfl
              have hcz70_4:wr.cell? ⟨gb155,4,none⟩=some (.slice A0_4 l0_4.length c0_4):=(blk_cell BK155.out 4).trans rfl
              have hcz70_5:wr.cell? ⟨gb155,5,none⟩=some (.slice A0_5 l0_5.length c0_5):=(blk_cell BK155.out 5).trans rfl
              have hcz70_6:wr.cell? ⟨gb155,6,none⟩=some (.slice A0_6 l0_6.length c0_6):=(blk_cell BK155.out 6).trans rfl
              have hfz70_0:=blk_frozen BK155.out 0
              have hfz70_1:=blk_frozen BK155.out 1
              have hfz70_2:=blk_frozen BK155.out 2
              have hfz70_3:=blk_frozen BK155.out 3
              have hfz70_4:=blk_frozen BK155.out 4
              have hfz70_5:=blk_frozen BK155.out 5
              have hfz70_6:=blk_frozen BK155.out 6
              go_wp2_with (first|((with_reducible refine gate_callee (f:=109) rfl ?_);refine goesL_ (some 141) rfl rfl Try.func109 (by kernel_rfl) rfl #[.agg #[.int .i64 a0_0,.int .i64 a0_1,.int .i64 a0_2,.string a0_3,.slice A0_4 l0_4.length c0_4,.slice A0_5 l0_5.length c0_5,.slice A0_6 l0_6.length c0_6]] rfl (by (try simp only [List.map_toArray,List.map_cons,List.map_nil]);first|done|rfl|(simp only [List.length_drop,List.length_take];rfl)) ?_;(with_reducible refine (latticeref06_Size.calls k4 a0_0 a0_1 a0_2 a0_3 _ _ l0_4 _ _ l0_5 _ _ l0_6 t166 _ ?side1 ?side2 ?side3 ?side4 ?side5 ?side6 A69.out).mono ?_);(case side1=>repeat (first|exact (Kd.C_below HR0_4.out HB.out)|(with_reducible refine Kd.C_alloc ?_ _)|(with_reducible refine Kd.C_drewN ?_ _)|(with_reducible refine Kd.C_drew ?_)));(case side2=>exact HC0_4.out);(case side3=>repeat (first|exact (Kd.C_below HR0_5.out HB.out)|(with_reducible refine Kd.C_alloc ?_ _)|(with_reducible refine Kd.C_drewN ?_ _)|(with_reducible refine Kd.C_drew ?_)));(case side4=>exact HC0_5.out);(case side5=>repeat (first|exact (Kd.C_below HR0_6.out HB.out)|(with_reducible refine Kd.C_alloc ?_ _)|(with_reducible refine Kd.C_drewN ?_ _)|(with_reducible refine Kd.C_drew ?_)));(case side6=>exact HC0_6.out);rintro e w71 ⟨rfl,hb⟩;refine ⟨_,rfl,?_⟩;have n0_:=Aside0.mk (blk_below (g:=gb155) (o:=.cells #[.int .i64 a0_0,.int .i64 a0_1,.int .i64 a0_2,.string a0_3,.slice A0_4 l0_4.length c0_4,.slice A0_5 l0_5.length c0_5,.slice A0_6 l0_6.length c0_6] 113 (0,0)) (by (with_reducible repeat (first|refine blk_drewN ?_ _|refine blk_drew ?_|refine blk_alloc ?_ _));exact BK155.out) hb);have n1_:=Aside0.mk (below_step (by repeat (first|(with_reducible first|exact HB.out|apply below_alloc|apply pw_below_drewN|apply below_drew1|refine below_set ?_ GE155.out)|exact HB.out)) hb);clear BK155;clear HB;have BK155:=n0_;have HB:=n1_;clear n0_ n1_;(try clear hb);(try clear hb2);(try clear hk);(try clear hi)))
              go_ret
              exact ⟨by first|rfl|(simp [errW_none,errW_some] <;> rfl)|(simp [*,errW_none,errW_some] <;> rfl),by repeat (first|(with_reducible first|exact HB.out|apply below_alloc|apply pw_below_drewN|apply below_drew1|refine below_set ?_ GE155.out)|exact HB.out)⟩
end Go.Proofs.Ytgjibcfkjaedfaa.Pr
