-- A part of the text Prx3, thinned by a program of this session.
import Derived.Test.YtcocmpblmkdmjaaTNodeHalvesPrx0
namespace Go.Proofs.Ytcocmpblmkdmjaa.Pr
open Go.RowKit Go.Proofs.YtcocmpblmkdmjaaW.PrintWords Go.Proofs.YtcocmpblmkdmjaaW.PrintLast Go.Proofs.YtcocmpblmkdmjaaW.PrintMore
attribute [local go_sem] max2_int min2_int max_two min_two max_three min_three max_four min_four
set_option linter.unusedVariables false
set_option linter.unusedSimpArgs false
mutual
def node_parting.l0:Nat→List Int→Int→List ByteArray→Int→Int→Int→Int→Int→ByteArray→List ByteArray→List ByteArray→List Int→Option (Int)
 | 0,_,_,_,_,_,_,_,_,_,_,_,_=>none
 | k+1,x3,x4,x11,x12,x13,x117000,x117001,x117002,x117003,x117004,x117005,x117006=>if x13 < x12 then (if 0≤x13 then (if x13 < (x11.length:Int) then (if x117000=0 then (if x13 < (x117005.length:Int) then (if x3.length < 17592186044416 then (node_parting.l0 k (x3++[wrap64 ((wrap64 (4+((rdOf ByteArray.empty x11 x13).size:Int)))+((rdOf ByteArray.empty x117005 x13).size:Int))]) (wrap64 (x4+(wrap64 ((wrap64 (4+((rdOf ByteArray.empty x11 x13).size:Int)))+((rdOf ByteArray.empty x117005 x13).size:Int))))) x11 x12 (wrap64 (x13+1)) x117000 x117001 x117002 x117003 x117004 x117005 x117006) else (none)) else (none)) else (if x3.length < 17592186044416 then (node_parting.l0 k (x3++[wrap64 (6+((rdOf ByteArray.empty x11 x13).size:Int))]) (wrap64 (x4+(wrap64 (6+((rdOf ByteArray.empty x11 x13).size:Int))))) x11 x12 (wrap64 (x13+1)) x117000 x117001 x117002 x117003 x117004 x117005 x117006) else (none))) else (none)) else (none)) else (if 0 < (x3.length:Int) then (node_parting.l1 k x3 x4 1 (rd x3 0)) else (none))
def node_parting.l1:Nat→List Int→Int→Int→Int→Option (Int)
 | 0,_,_,_,_=>none
 | k+1,x3,x4,x8,x9=>if (wrap64 (2*x9)) < x4 then (if x8 < (wrap64 ((x3.length:Int) - 1)) then (if 0≤x8 then (if x8 < (x3.length:Int) then (node_parting.l1 k x3 x4 (wrap64 (x8+1)) (wrap64 (x9+(rd x3 x8)))) else (none)) else (none)) else (some x8)) else (some x8)
end
def node_parting.f (k:Nat) (a0_0:Int) (a0_1:Int) (a0_2:Int) (a0_3:ByteArray) (l0_4:List ByteArray) (l0_5:List ByteArray) (l0_6:List Int):Option (Int):=node_parting.l0 k ([]:List Int) 0 l0_4 (l0_4.length:Int) 0 a0_0 a0_1 a0_2 a0_3 l0_4 l0_5 l0_6
set_option maxHeartbeats 8000000 in
set_option maxRecDepth 100000 in
theorem node_parting.calls (k:Nat) (a0_0:Int) (a0_1:Int) (a0_2:Int) (a0_3:ByteArray) (A0_4:Option Addr) (c0_4:Nat) (l0_4:List ByteArray) (A0_5:Option Addr) (c0_5:Nat) (l0_5:List ByteArray) (A0_6:Option Addr) (c0_6:Nat) (l0_6:List Int) (r:Int) (w:World) (hr0_4:Kd.C Kd.string w A0_4 l0_4.length l0_4) (hc0_4:l0_4.length≤c0_4) (hr0_5:Kd.C Kd.string w A0_5 l0_5.length l0_5) (hc0_5:l0_5.length≤c0_5) (hr0_6:Kd.C (Kd.int .i64) w A0_6 l0_6.length l0_6) (hc0_6:l0_6.length≤c0_6) (h:node_parting.f k a0_0 a0_1 a0_2 a0_3 l0_4 l0_5 l0_6=some r) :
  Calls Try.prog 33 #[.agg #[.int .i64 a0_0,.int .i64 a0_1,.int .i64 a0_2,.string a0_3,.slice A0_4 l0_4.length c0_4,.slice A0_5 l0_5.length c0_5,.slice A0_6 l0_6.length c0_6]] w fun e w'=>e=.returned (.int .i64 r)∧Below w.heap.size w w':=by
 have hu25:=Try.underlying25
 have HR0_4:=Aside0.mk hr0_4
 have HC0_4:=Aside0.mk hc0_4
 clear hr0_4 hc0_4
 have HR0_5:=Aside0.mk hr0_5
 have HC0_5:=Aside0.mk hc0_5
 clear hr0_5 hc0_5
 have HR0_6:=Aside0.mk hr0_6
 have HC0_6:=Aside0.mk hc0_6
 clear hr0_6 hc0_6
 have HB:=Aside0.mk (Below.refl w.heap.size w)
 have H:(node_parting.l0 k ([]:List Int) 0 l0_4 (l0_4.length:Int) 0 a0_0 a0_1 a0_2 a0_3 l0_4 l0_5 l0_6)=some r:=h
 clear h
 have H':=Aside0.mk H
 clear H
 go_enter Try.func33,Try.ntmps33
 go_wp2_with (first|((with_reducible refine gate_dst (N:=1) rfl ?_);(try (refine gate_guard (by rfl) ?_;dsimp only));refine box_event ?hg (N:=1) ?hd (cs:=#[.int .i64 a0_0,.int .i64 a0_1,.int .i64 a0_2,.string a0_3,.slice A0_4 l0_4.length c0_4,.slice A0_5 l0_5.length c0_5,.slice A0_6 l0_6.length c0_6]) (t:=25) ?hr ?_;(case hd=>rfl);(case hg=>rfl);(case hr=>first|(go_simp;done)|(go_simp;rfl));intro gb116 hg w2 hbox hb;have n0_:=Aside0.mk (below_step (by repeat (first|(with_reducible first|exact HB.out|apply below_alloc|apply pw_below_drewN|apply below_drew1)|exact HB.out)) hb);have n1_:=Aside0.mk (hbox);have n2_:=Aside0.mk ((by rw [hg];exact (below_size (by repeat (first|(with_reducible first|exact HB.out|apply below_alloc|apply pw_below_drewN|apply below_drew1)|exact HB.out))):w.heap.size≤gb116));have n3_:=Aside0.mk ((by rw [hg];exact (below_size (by repeat (first|(with_reducible first|exact HB.out|apply below_alloc|apply pw_below_drewN|apply below_drew1)|exact HB.out))):w.heap.size≤gb116));clear HB;have HB:=n0_;have BK116:=n1_;have GW116:=n2_;have GE116:=n3_;clear n0_ n1_ n2_ n3_;clear hb hbox hg;have hcz3_0:w2.cell? ⟨gb116,0,none⟩=some (.int .i64 a0_0):=(blk_cell BK116.out 0).trans rfl;have hcz3_1:w2.cell? ⟨gb116,1,none⟩=some (.int .i64 a0_1):=(blk_cell BK116.out 1).trans rfl;have hcz3_2:w2.cell? ⟨gb116,2,none⟩=some (.int .i64 a0_2):=(blk_cell BK116.out 2).trans rfl;have hcz3_3:w2.cell? ⟨gb116,3,none⟩=some (.string a0_3):=(blk_cell BK116.out 3).trans rfl;have hcz3_4:w2.cell? ⟨gb116,4,none⟩=some (.slice A0_4 l0_4.length c0_4):=(blk_cell BK116.out 4).trans rfl;have hcz3_5:w2.cell? ⟨gb116,5,none⟩=some (.slice A0_5 l0_5.length c0_5):=(blk_cell BK116.out 5).trans rfl;have hcz3_6:w2.cell? ⟨gb116,6,none⟩=some (.slice A0_6 l0_6.length c0_6):=(blk_cell BK116.out 6).trans rfl;have hfz3_0:=blk_frozen BK116.out 0;have hfz3_1:=blk_frozen BK116.out 1;have hfz3_2:=blk_frozen BK116.out 2;have hfz3_3:=blk_frozen BK116.out 3;have hfz3_4:=blk_frozen BK116.out 4;have hfz3_5:=blk_frozen BK116.out 5;have hfz3_6:=blk_frozen BK116.out 6))
 repeat (go_quiet (first|((with_reducible refine gate_dst (N:=1) rfl ?_);(try (refine gate_guard (by rfl) ?_;dsimp only));refine box_event ?hg (N:=1) ?hd (cs:=#[.int .i64 a0_0,.int .i64 a0_1,.int .i64 a0_2,.string a0_3,.slice A0_4 l0_4.length c0_4,.slice A0_5 l0_5.length c0_5,.slice A0_6 l0_6.length c0_6]) (t:=25) ?hr ?_;(case hd=>rfl);(case hg=>rfl);(case hr=>first|(go_simp;done)|(go_simp;rfl));intro gb116 hg w2 hbox hb;have n0_:=Aside0.mk (below_step (by repeat (first|(with_reducible first|exact HB.out|apply below_alloc|apply pw_below_drewN|apply below_drew1)|exact HB.out)) hb);have n1_:=Aside0.mk (hbox);have n2_:=Aside0.mk ((by rw [hg];exact (below_size (by repeat (first|(with_reducible first|exact HB.out|apply below_alloc|apply pw_below_drewN|apply below_drew1)|exact HB.out))):w.heap.size≤gb116));have n3_:=Aside0.mk ((by rw [hg];exact (below_size (by repeat (first|(with_reducible first|exact HB.out|apply below_alloc|apply pw_below_drewN|apply below_drew1)|exact HB.out))):w.heap.size≤gb116));clear HB;have HB:=n0_;have BK116:=n1_;have GW116:=n2_;have GE116:=n3_;clear n0_ n1_ n2_ n3_;clear hb hbox hg;have hcz3_0:w2.cell? ⟨gb116,0,none⟩=some (.int .i64 a0_0):=(blk_cell BK116.out 0).trans rfl;have hcz3_1:w2.cell? ⟨gb116,1,none⟩=some (.int .i64 a0_1):=(blk_cell BK116.out 1).trans rfl;have hcz3_2:w2.cell? ⟨gb116,2,none⟩=some (.int .i64 a0_2):=(blk_cell BK116.out 2).trans rfl;have hcz3_3:w2.cell? ⟨gb116,3,none⟩=some (.string a0_3):=(blk_cell BK116.out 3).trans rfl;have hcz3_4:w2.cell? ⟨gb116,4,none⟩=some (.slice A0_4 l0_4.length c0_4):=(blk_cell BK116.out 4).trans rfl;have hcz3_5:w2.cell? ⟨gb116,5,none⟩=some (.slice A0_5 l0_5.length c0_5):=(blk_cell BK116.out 5).trans rfl;have hcz3_6:w2.cell? ⟨gb116,6,none⟩=some (.slice A0_6 l0_6.length c0_6):=(blk_cell BK116.out 6).trans rfl;have hfz3_0:=blk_frozen BK116.out 0;have hfz3_1:=blk_frozen BK116.out 1;have hfz3_2:=blk_frozen BK116.out 2;have hfz3_3:=blk_frozen BK116.out 3;have hfz3_4:=blk_frozen BK116.out 4;have hfz3_5:=blk_frozen BK116.out 5;have hfz3_6:=blk_frozen BK116.out 6));try go_wp2_with (first|((with_reducible refine gate_dst (N:=1) rfl ?_);(try (refine gate_guard (by rfl) ?_;dsimp only));refine box_event ?hg (N:=1) ?hd (cs:=#[.int .i64 a0_0,.int .i64 a0_1,.int .i64 a0_2,.string a0_3,.slice A0_4 l0_4.length c0_4,.slice A0_5 l0_5.length c0_5,.slice A0_6 l0_6.length c0_6]) (t:=25) ?hr ?_;(case hd=>rfl);(case hg=>rfl);(case hr=>first|(go_simp;done)|(go_simp;rfl));intro gb116 hg w2 hbox hb;have n0_:=Aside0.mk (below_step (by repeat (first|(with_reducible first|exact HB.out|apply below_alloc|apply pw_below_drewN|apply below_drew1)|exact HB.out)) hb);have n1_:=Aside0.mk (hbox);have n2_:=Aside0.mk ((by rw [hg];exact (below_size (by repeat (first|(with_reducible first|exact HB.out|apply below_alloc|apply pw_below_drewN|apply below_drew1)|exact HB.out))):w.heap.size≤gb116));have n3_:=Aside0.mk ((by rw [hg];exact (below_size (by repeat (first|(with_reducible first|exact HB.out|apply below_alloc|apply pw_below_drewN|apply below_drew1)|exact HB.out))):w.heap.size≤gb116));clear HB;have HB:=n0_;have BK116:=n1_;have GW116:=n2_;have GE116:=n3_;clear n0_ n1_ n2_ n3_;clear hb hbox hg;have hcz3_0:w2.cell? ⟨gb116,0,none⟩=some (.int .i64 a0_0):=(blk_cell BK116.out 0).trans rfl;have hcz3_1:w2.cell? ⟨gb116,1,none⟩=some (.int .i64 a0_1):=(blk_cell BK116.out 1).trans rfl;have hcz3_2:w2.cell? ⟨gb116,2,none⟩=some (.int .i64 a0_2):=(blk_cell BK116.out 2).trans rfl;have hcz3_3:w2.cell? ⟨gb116,3,none⟩=some (.string a0_3):=(blk_cell BK116.out 3).trans rfl;have hcz3_4:w2.cell? ⟨gb116,4,none⟩=some (.slice A0_4 l0_4.length c0_4):=(blk_cell BK116.out 4).trans rfl;have hcz3_5:w2.cell? ⟨gb116,5,none⟩=some (.slice A0_5 l0_5.length c0_5):=(blk_cell BK116.out 5).trans rfl;have hcz3_6:w2.cell? ⟨gb116,6,none⟩=some (.slice A0_6 l0_6.length c0_6):=(blk_cell BK116.out 6).trans rfl;have hfz3_0:=blk_frozen BK116.out 0;have hfz3_1:=blk_frozen BK116.out 1;have hfz3_2:=blk_frozen BK116.out 2;have hfz3_3:=blk_frozen BK116.out 3;have hfz3_4:=blk_frozen BK116.out 4;have hfz3_5:=blk_frozen BK116.out 5;have hfz3_6:=blk_frozen BK116.out 6)))
 go_loopg [3,4,13] k (fun kq v3 v4 v13 w'=>∃ (x3_1:List Int) (x4_1:Int) (x13_1:Int),v4=.int .i64 x4_1∧v13=.int .i64 x13_1∧Aside0 (node_parting.l0 kq x3_1 x4_1 l0_4 (l0_4.length:Int) x13_1 a0_0 a0_1 a0_2 a0_3 l0_4 l0_5 l0_6=some r)∧Aside0 (kq≤k)∧Aside0 (Kd.R (Kd.int .i64) 3 w' w.heap.size (fun _=>True) v3 x3_1)∧Aside0 (w'.heap[gb116]?=some (.cells #[.int .i64 a0_0,.int .i64 a0_1,.int .i64 a0_2,.string a0_3,(.slice A0_4 l0_4.length c0_4),(.slice A0_5 l0_5.length c0_5),(.slice A0_6 l0_6.length c0_6)] 25 (0,0)))∧Aside0 (Below w.heap.size w w'))
 case atStart=>exact ⟨(([]:List Int)),(0),(0),(by first|rfl|(simp;done)|(simp [*];done)),(by first|rfl|(simp;done)|(simp [*];done)),H',⟨Nat.le_refl _⟩,⟨by first|exact Kd.R_nil _ _ _ _ _|exact Kd.N_nil _ _ _ _ _|exact Kd.V_nil _ _ _ _ _|exact Kd.Q_nil _ _ _ _ _|exact Kd.S_nil _ _ _ _ _⟩,⟨by (with_reducible repeat (first|refine blk_drewN ?_ _|refine blk_drew ?_|refine blk_alloc ?_ _));exact BK116.out⟩,⟨by repeat (first|(with_reducible first|exact HB.out|apply below_alloc|apply pw_below_drewN|apply below_drew1|refine below_set ?_ GE116.out)|exact HB.out)⟩⟩
 case round =>
  clear H'
  try clear p2
  try clear c3
  try clear hcz3_0
  try clear hcz3_1
  try clear hcz3_2
  try clear hcz3_3
  try clear hcz3_4
  try clear hcz3_5
  try clear hcz3_6
  try clear hfz3_0
  try clear hfz3_1
  try clear hfz3_2
  try clear hfz3_3
  try clear hfz3_4
  try clear hfz3_5
  try clear hfz3_6
  obtain ⟨x3_1,x4_1,x13_1,rfl,rfl,HA,HK1,HO_3,BK116,HB⟩:=hrel
  cases gk with
  | zero=>exact absurd HA.out (by simp [node_parting.l0])
  | succ k1 =>
   have H:=HA.out
   clear HA
   simp only [node_parting.l0] at H
   by_cases c4:x13_1 < (l0_4.length:Int)
   ·rw [if_pos c4] at H
    have c4b0:decide (x13_1 < (l0_4.length:Int))=true:=decide_eq_true c4
    clear c4
    by_cases c5:0≤x13_1
    ·rw [if_pos c5] at H
     have c5b0:decide (0≤x13_1)=true:=decide_eq_true c5
     clear c5
     by_cases c6:x13_1 < (l0_4.length:Int)
     ·rw [if_pos c6] at H
      have c6b0:decide (x13_1 < (l0_4.length:Int))=true:=decide_eq_true c6
      clear c6
      by_cases c7:a0_0=0
      ·rw [if_pos c7] at H
       have c7b0:(a0_0==0)=true:=beq_iff_eq.mpr c7
       have c7b1:(a0_0 != 0)=false:=bne_eq_false_iff_eq.mpr c7
       clear c7
       by_cases c8:x13_1 < (l0_5.length:Int)
       ·rw [if_pos c8] at H
        have c8b0:decide (x13_1 < (l0_5.length:Int))=true:=decide_eq_true c8
        clear c8
        by_cases c9:x3_1.length < 17592186044416
        ·rw [if_pos c9] at H
         have LMc9:=Aside0.mk c9
         clear c9
         obtain ⟨y119,hy119⟩:∃ y_:List Int,y_=(x3_1++[wrap64 ((wrap64 (4+((rdOf ByteArray.empty l0_4 x13_1).size:Int)))+((rdOf ByteArray.empty l0_5 x13_1).size:Int))]):=⟨_,rfl⟩
         replace H:(node_parting.l0 k1 y119 (wrap64 (x4_1+(wrap64 ((wrap64 (4+((rdOf ByteArray.empty l0_4 x13_1).size:Int)))+((rdOf ByteArray.empty l0_5 x13_1).size:Int))))) l0_4 (l0_4.length:Int) (wrap64 (x13_1+1)) a0_0 a0_1 a0_2 a0_3 l0_4 l0_5 l0_6)=some r:=by first|(rw [hy119];with_reducible exact H)|(have H2_:=(Option.bind_some _ _).symm.trans H;rw [hy119];with_reducible exact H2_)|(have H2_:=(Option.bind_some _ _).symm.trans H;with_reducible exact H2_)|with_reducible exact H|(rw [hy119];exact H)|exact H
         have Ny119:=Aside0.mk hy119
         clear hy119
         have H':=Aside0.mk H
         clear H
         have p117:0≤(x13_1:Int):=of_decide_eq_true (by first|(with_reducible assumption)|assumption)
         have q117:x13_1 < (l0_4.length:Int):=of_decide_eq_true (by first|(with_reducible assumption)|assumption)
         obtain ⟨ad117,e117,hx117_0⟩:=Kd.at_string HR0_4.out x13_1 p117 q117
         cases e117
         replace hx117_0:=(HB.out.cell (World.block_lt_of_cell? w _ hx117_0)).trans hx117_0
         replace p117:=eq_true p117
         replace q117:=eq_true q117
         have hcz10_0:wr.cell? ⟨gb116,0,none⟩=some (.int .i64 a0_0):=(blk_cell BK116.out 0).trans rfl
         have hcz10_1:wr.cell? ⟨gb116,1,none⟩=some (.int .i64 a0_1):=(blk_cell BK116.out 1).trans rfl
         have hcz10_2:wr.cell? ⟨gb116,2,none⟩=some (.int .i64 a0_2):=(blk_cell BK116.out 2).trans rfl
         have hcz10_3:wr.cell? ⟨gb116,3,none⟩=some (.string a0_3):=(blk_cell BK116.out 3).trans rfl
         have hcz10_4:wr.cell? ⟨gb116,4,none⟩=some (.slice (some ad117) l0_4.length c0_4):=(blk_cell BK116.out 4).trans rfl
         have hcz10_5:wr.cell? ⟨gb116,5,none⟩=some (.slice A0_5 l0_5.length c0_5):=(blk_cell BK116.out 5).trans rfl
         have hcz10_6:wr.cell? ⟨gb116,6,none⟩=some (.slice A0_6 l0_6.length c0_6):=(blk_cell BK116.out 6).trans rfl
         have hfz10_0:=blk_frozen BK116.out 0
         have hfz10_1:=blk_frozen BK116.out 1
         have hfz10_2:=blk_frozen BK116.out 2
         have hfz10_3:=blk_frozen BK116.out 3
         have hfz10_4:=blk_frozen BK116.out 4
         have hfz10_5:=blk_frozen BK116.out 5
         have hfz10_6:=blk_frozen BK116.out 6
         have p118:0≤(x13_1:Int):=of_decide_eq_true (by first|(with_reducible assumption)|assumption)
         have q118:x13_1 < (l0_5.length:Int):=of_decide_eq_true (by first|(with_reducible assumption)|assumption)
         obtain ⟨ad118,e118,hx118_0⟩:=Kd.at_string HR0_5.out x13_1 p118 q118
         cases e118
         replace hx118_0:=(HB.out.cell (World.block_lt_of_cell? w _ hx118_0)).trans hx118_0
         replace p118:=eq_true p118
         replace q118:=eq_true q118
         go_wp2_with (first|((with_reducible refine gate_builtin (b:=.append) (xs:=#[.tmp 34,.tmp 36]) rfl ?_);(try (refine gate_guard (by rfl) ?_;dsimp only));at_builtin;refine Kd.R_append (Kd.int .i64) (w0:=w) w.heap.size rfl (.tmp 34) (.tmp 36) 23 3 (.int .i64 0) 8 rfl Try.underlying23 info3 rfl (by decide) (by omega) u3 x3_1 (wrap64 ((wrap64 (4+((rdOf ByteArray.empty l0_4 x13_1).size:Int)))+((rdOf ByteArray.empty l0_5 x13_1).size:Int))) [.int .i64 (wrap64 ((wrap64 (4+((rdOf ByteArray.empty l0_4 x13_1).size:Int)))+((rdOf ByteArray.empty l0_5 x13_1).size:Int)))] (fun _=>True) (fun _=>False) rfl rfl ?aP (fun _ hk=>hk.elim) ?aF ?aO ?aB ?aS ?aL ?_;(case aP=>exact rfl);(case aB=>exact (by repeat (first|(with_reducible first|exact HB.out|apply below_alloc|apply pw_below_drewN|apply below_drew1|refine below_set ?_ GE116.out)|exact HB.out)));(case aF=>exact (fun _ _=>trivial));(case aO=>exact (by (with_reducible repeat (first|apply Kd.R_alloc|apply Kd.R_drewN|apply Kd.R_drew));exact HO_3.out));(case aS=>exact (below_size (by repeat (first|(with_reducible first|exact HB.out|apply below_alloc|apply pw_below_drewN|apply below_drew1|refine below_set ?_ GE116.out)|exact HB.out))));(case aL=>have:=LMc9.out;omega);intro v120 w11 ho hb hg hat;rw [← Ny119.out] at ho;have n0_:=Aside0.mk (blk_grown (g:=gb116) (o:=.cells #[.int .i64 a0_0,.int .i64 a0_1,.int .i64 a0_2,.string a0_3,.slice (some ad117) l0_4.length c0_4,.slice (some ad118) l0_5.length c0_5,.slice A0_6 l0_6.length c0_6] 25 (0,0)) (by (with_reducible repeat (first|refine blk_drewN ?_ _|refine blk_drew ?_|refine blk_alloc ?_ _));exact BK116.out) hg (Kd.R_ne HO_3.out BK116.out (by decide)));have n1_:=Aside0.mk (hb);have n2_:=Aside0.mk (ho);clear BK116;clear HB;clear HO_3;have BK116:=n0_;have HB:=n1_;have HO121:=n2_;clear n0_ n1_ n2_;clear ho hb hg hat))
         repeat (go_quiet (first|((with_reducible refine gate_builtin (b:=.append) (xs:=#[.tmp 34,.tmp 36]) rfl ?_);(try (refine gate_guard (by rfl) ?_;dsimp only));at_builtin;refine Kd.R_append (Kd.int .i64) (w0:=w) w.heap.size rfl (.tmp 34) (.tmp 36) 23 3 (.int .i64 0) 8 rfl Try.underlying23 info3 rfl (by decide) (by omega) u3 x3_1 (wrap64 ((wrap64 (4+((rdOf ByteArray.empty l0_4 x13_1).size:Int)))+((rdOf ByteArray.empty l0_5 x13_1).size:Int))) [.int .i64 (wrap64 ((wrap64 (4+((rdOf ByteArray.empty l0_4 x13_1).size:Int)))+((rdOf ByteArray.empty l0_5 x13_1).size:Int)))] (fun _=>True) (fun _=>False) rfl rfl ?aP (fun _ hk=>hk.elim) ?aF ?aO ?aB ?aS ?aL ?_;(case aP=>exact rfl);(case aB=>exact (by repeat (first|(with_reducible first|exact HB.out|apply below_alloc|apply pw_below_drewN|apply below_drew1|refine below_set ?_ GE116.out)|exact HB.out)));(case aF=>exact (fun _ _=>trivial));(case aO=>exact (by (with_reducible repeat (first|apply Kd.R_alloc|apply Kd.R_drewN|apply Kd.R_drew));exact HO_3.out));(case aS=>exact (below_size (by repeat (first|(with_reducible first|exact HB.out|apply below_alloc|apply pw_below_drewN|apply below_drew1|refine below_set ?_ GE116.out)|exact HB.out))));(case aL=>have:=LMc9.out;omega);intro v120 w11 ho hb hg hat;rw [← Ny119.out] at ho;have n0_:=Aside0.mk (blk_grown (g:=gb116) (o:=.cells #[.int .i64 a0_0,.int .i64 a0_1,.int .i64 a0_2,.string a0_3,.slice (some ad117) l0_4.length c0_4,.slice (some ad118) l0_5.length c0_5,.slice A0_6 l0_6.length c0_6] 25 (0,0)) (by (with_reducible repeat (first|refine blk_drewN ?_ _|refine blk_drew ?_|refine blk_alloc ?_ _));exact BK116.out) hg (Kd.R_ne HO_3.out BK116.out (by decide)));have n1_:=Aside0.mk (hb);have n2_:=Aside0.mk (ho);clear BK116;clear HB;clear HO_3;have BK116:=n0_;have HB:=n1_;have HO121:=n2_;clear n0_ n1_ n2_;clear ho hb hg hat));try go_wp2_with (first|((with_reducible refine gate_builtin (b:=.append) (xs:=#[.tmp 34,.tmp 36]) rfl ?_);(try (refine gate_guard (by rfl) ?_;dsimp only));at_builtin;refine Kd.R_append (Kd.int .i64) (w0:=w) w.heap.size rfl (.tmp 34) (.tmp 36) 23 3 (.int .i64 0) 8 rfl Try.underlying23 info3 rfl (by decide) (by omega) u3 x3_1 (wrap64 ((wrap64 (4+((rdOf ByteArray.empty l0_4 x13_1).size:Int)))+((rdOf ByteArray.empty l0_5 x13_1).size:Int))) [.int .i64 (wrap64 ((wrap64 (4+((rdOf ByteArray.empty l0_4 x13_1).size:Int)))+((rdOf ByteArray.empty l0_5 x13_1).size:Int)))] (fun _=>True) (fun _=>False) rfl rfl ?aP (fun _ hk=>hk.elim) ?aF ?aO ?aB ?aS ?aL ?_;(case aP=>exact rfl);(case aB=>exact (by repeat (first|(with_reducible first|exact HB.out|apply below_alloc|apply pw_below_drewN|apply below_drew1|refine below_set ?_ GE116.out)|exact HB.out)));(case aF=>exact (fun _ _=>trivial));(case aO=>exact (by (with_reducible repeat (first|apply Kd.R_alloc|apply Kd.R_drewN|apply Kd.R_drew));exact HO_3.out));(case aS=>exact (below_size (by repeat (first|(with_reducible first|exact HB.out|apply below_alloc|apply pw_below_drewN|apply below_drew1|refine below_set ?_ GE116.out)|exact HB.out))));(case aL=>have:=LMc9.out;omega);intro v120 w11 ho hb hg hat;rw [← Ny119.out] at ho;have n0_:=Aside0.mk (blk_grown (g:=gb116) (o:=.cells #[.int .i64 a0_0,.int .i64 a0_1,.int .i64 a0_2,.string a0_3,.slice (some ad117) l0_4.length c0_4,.slice (some ad118) l0_5.length c0_5,.slice A0_6 l0_6.length c0_6] 25 (0,0)) (by (with_reducible repeat (first|refine blk_drewN ?_ _|refine blk_drew ?_|refine blk_alloc ?_ _));exact BK116.out) hg (Kd.R_ne HO_3.out BK116.out (by decide)));have n1_:=Aside0.mk (hb);have n2_:=Aside0.mk (ho);clear BK116;clear HB;clear HO_3;have BK116:=n0_;have HB:=n1_;have HO121:=n2_;clear n0_ n1_ n2_;clear ho hb hg hat)))
         go_roundg k1
         case measure=>have:=HK1.out;omega
         case rel=>exact ⟨(y119),(wrap64 (x4_1+(wrap64 ((wrap64 (4+((rdOf ByteArray.empty l0_4 x13_1).size:Int)))+((rdOf ByteArray.empty l0_5 x13_1).size:Int))))),(wrap64 (x13_1+1)),(by first|rfl|(simp;done)|(simp [*];done)),(by first|rfl|(simp;done)|(simp [*];done)),H',⟨by have:=HK1.out;omega⟩,⟨by (with_reducible repeat (first|apply Kd.R_alloc|apply Kd.R_drewN|apply Kd.R_drew));exact HO121.out⟩,⟨by (with_reducible repeat (first|refine blk_drewN ?_ _|refine blk_drew ?_|refine blk_alloc ?_ _));exact BK116.out⟩,⟨by repeat (first|(with_reducible first|exact HB.out|apply below_alloc|apply pw_below_drewN|apply below_drew1|refine below_set ?_ GE116.out)|exact HB.out)⟩⟩
        ·rw [if_neg c9] at H
         exact absurd H (by simp)
       ·rw [if_neg c8] at H
        exact absurd H (by simp)
      ·rw [if_neg c7] at H
       have c7b0:(a0_0==0)=false:=beq_eq_false_iff_ne.mpr c7
       have c7b1:(a0_0 != 0)=true:=bne_iff_ne.mpr c7
       by_cases c12:x3_1.length < 17592186044416
       ·rw [if_pos c12] at H
        have LMc12:=Aside0.mk c12
        clear c12
        obtain ⟨y122,hy122⟩:∃ y_:List Int,y_=(x3_1++[wrap64 (6+((rdOf ByteArray.empty l0_4 x13_1).size:Int))]):=⟨_,rfl⟩
        replace H:(node_parting.l0 k1 y122 (wrap64 (x4_1+(wrap64 (6+((rdOf ByteArray.empty l0_4 x13_1).size:Int))))) l0_4 (l0_4.length:Int) (wrap64 (x13_1+1)) a0_0 a0_1 a0_2 a0_3 l0_4 l0_5 l0_6)=some r:=by first|(rw [hy122];with_reducible exact H)|(have H2_:=(Option.bind_some _ _).symm.trans H;rw [hy122];with_reducible exact H2_)|(have H2_:=(Option.bind_some _ _).symm.trans H;with_reducible exact H2_)|with_reducible exact H|(rw [hy122];exact H)|exact H
        have Ny122:=Aside0.mk hy122
        clear hy122
        have H':=Aside0.mk H
        clear H
        have p117:0≤(x13_1:Int):=of_decide_eq_true (by first|(with_reducible assumption)|assumption)
        have q117:x13_1 < (l0_4.length:Int):=of_decide_eq_true (by first|(with_reducible assumption)|assumption)
        obtain ⟨ad117,e117,hx117_0⟩:=Kd.at_string HR0_4.out x13_1 p117 q117
        cases e117
        replace hx117_0:=(HB.out.cell (World.block_lt_of_cell? w _ hx117_0)).trans hx117_0
        replace p117:=eq_true p117
        replace q117:=eq_true q117
        have hcz13_0:wr.cell? ⟨gb116,0,none⟩=some (.int .i64 a0_0):=(blk_cell BK116.out 0).trans rfl
        have hcz13_1:wr.cell? ⟨gb116,1,none⟩=some (.int .i64 a0_1):=(blk_cell BK116.out 1).trans rfl
        have hcz13_2:wr.cell? ⟨gb116,2,none⟩=some (.int .i64 a0_2):=(blk_cell BK116.out 2).trans rfl
        have hcz13_3:wr.cell? ⟨gb116,3,none⟩=some (.string a0_3):=(blk_cell BK116.out 3).trans rfl
        have hcz13_4:wr.cell? ⟨gb116,4,none⟩=some (.slice (some ad117) l0_4.length c0_4):=(blk_cell BK116.out 4).trans rfl
        have hcz13_5:wr.cell? ⟨gb116,5,none⟩=some (.slice A0_5 l0_5.length c0_5):=(blk_cell BK116.out 5).trans rfl
        have hcz13_6:wr.cell? ⟨gb116,6,none⟩=some (.slice A0_6 l0_6.length c0_6):=(blk_cell BK116.out 6).trans rfl
        have hfz13_0:=blk_frozen BK116.out 0
        have hfz13_1:=blk_frozen BK116.out 1
        have hfz13_2:=blk_frozen BK116.out 2
        have hfz13_3:=blk_frozen BK116.out 3
        have hfz13_4:=blk_frozen BK116.out 4
        have hfz13_5:=blk_frozen BK116.out 5
        have hfz13_6:=blk_frozen BK116.out 6
        go_wp2_with (first|((with_reducible refine gate_builtin (b:=.append) (xs:=#[.tmp 34,.tmp 36]) rfl ?_);(try (refine gate_guard (by rfl) ?_;dsimp only));at_builtin;refine Kd.R_append (Kd.int .i64) (w0:=w) w.heap.size rfl (.tmp 34) (.tmp 36) 23 3 (.int .i64 0) 8 rfl Try.underlying23 info3 rfl (by decide) (by omega) u3 x3_1 (wrap64 (6+((rdOf ByteArray.empty l0_4 x13_1).size:Int))) [.int .i64 (wrap64 (6+((rdOf ByteArray.empty l0_4 x13_1).size:Int)))] (fun _=>True) (fun _=>False) rfl rfl ?aP (fun _ hk=>hk.elim) ?aF ?aO ?aB ?aS ?aL ?_;(case aP=>exact rfl);(case aB=>exact (by repeat (first|(with_reducible first|exact HB.out|apply below_alloc|apply pw_below_drewN|apply below_drew1|refine below_set ?_ GE116.out)|exact HB.out)));(case aF=>exact (fun _ _=>trivial));(case aO=>exact (by (with_reducible repeat (first|apply Kd.R_alloc|apply Kd.R_drewN|apply Kd.R_drew));exact HO_3.out));(case aS=>exact (below_size (by repeat (first|(with_reducible first|exact HB.out|apply below_alloc|apply pw_below_drewN|apply below_drew1|refine below_set ?_ GE116.out)|exact HB.out))));(case aL=>have:=LMc12.out;omega);intro v123 w14 ho hb hg hat;rw [← Ny122.out] at ho;have n0_:=Aside0.mk (blk_grown (g:=gb116) (o:=.cells #[.int .i64 a0_0,.int .i64 a0_1,.int .i64 a0_2,.string a0_3,.slice (some ad117) l0_4.length c0_4,.slice A0_5 l0_5.length c0_5,.slice A0_6 l0_6.length c0_6] 25 (0,0)) (by (with_reducible repeat (first|refine blk_drewN ?_ _|refine blk_drew ?_|refine blk_alloc ?_ _));exact BK116.out) hg (Kd.R_ne HO_3.out BK116.out (by decide)));have n1_:=Aside0.mk (hb);have n2_:=Aside0.mk (ho);clear BK116;clear HB;clear HO_3;have BK116:=n0_;have HB:=n1_;have HO124:=n2_;clear n0_ n1_ n2_;clear ho hb hg hat))
        repeat (go_quiet (first|((with_reducible refine gate_builtin (b:=.append) (xs:=#[.tmp 34,.tmp 36]) rfl ?_);(try (refine gate_guard (by rfl) ?_;dsimp only));at_builtin;refine Kd.R_append (Kd.int .i64) (w0:=w) w.heap.size rfl (.tmp 34) (.tmp 36) 23 3 (.int .i64 0) 8 rfl Try.underlying23 info3 rfl (by decide) (by omega) u3 x3_1 (wrap64 (6+((rdOf ByteArray.empty l0_4 x13_1).size:Int))) [.int .i64 (wrap64 (6+((rdOf ByteArray.empty l0_4 x13_1).size:Int)))] (fun _=>True) (fun _=>False) rfl rfl ?aP (fun _ hk=>hk.elim) ?aF ?aO ?aB ?aS ?aL ?_;(case aP=>exact rfl);(case aB=>exact (by repeat (first|(with_reducible first|exact HB.out|apply below_alloc|apply pw_below_drewN|apply below_drew1|refine below_set ?_ GE116.out)|exact HB.out)));(case aF=>exact (fun _ _=>trivial));(case aO=>exact (by (with_reducible repeat (first|apply Kd.R_alloc|apply Kd.R_drewN|apply Kd.R_drew));exact HO_3.out));(case aS=>exact (below_size (by repeat (first|(with_reducible first|exact HB.out|apply below_alloc|apply pw_below_drewN|apply below_drew1|refine below_set ?_ GE116.out)|exact HB.out))));(case aL=>have:=LMc12.out;omega);intro v123 w14 ho hb hg hat;rw [← Ny122.out] at ho;have n0_:=Aside0.mk (blk_grown (g:=gb116) (o:=.cells #[.int .i64 a0_0,.int .i64 a0_1,.int .i64 a0_2,.string a0_3,.slice (some ad117) l0_4.length c0_4,.slice A0_5 l0_5.length c0_5,.slice A0_6 l0_6.length c0_6] 25 (0,0)) (by (with_reducible repeat (first|refine blk_drewN ?_ _|refine blk_drew ?_|refine blk_alloc ?_ _));exact BK116.out) hg (Kd.R_ne HO_3.out BK116.out (by decide)));have n1_:=Aside0.mk (hb);have n2_:=Aside0.mk (ho);clear BK116;clear HB;clear HO_3;have BK116:=n0_;have HB:=n1_;have HO124:=n2_;clear n0_ n1_ n2_;clear ho hb hg hat));try go_wp2_with (first|((with_reducible refine gate_builtin (b:=.append) (xs:=#[.tmp 34,.tmp 36]) rfl ?_);(try (refine gate_guard (by rfl) ?_;dsimp only));at_builtin;refine Kd.R_append (Kd.int .i64) (w0:=w) w.heap.size rfl (.tmp 34) (.tmp 36) 23 3 (.int .i64 0) 8 rfl Try.underlying23 info3 rfl (by decide) (by omega) u3 x3_1 (wrap64 (6+((rdOf ByteArray.empty l0_4 x13_1).size:Int))) [.int .i64 (wrap64 (6+((rdOf ByteArray.empty l0_4 x13_1).size:Int)))] (fun _=>True) (fun _=>False) rfl rfl ?aP (fun _ hk=>hk.elim) ?aF ?aO ?aB ?aS ?aL ?_;(case aP=>exact rfl);(case aB=>exact (by repeat (first|(with_reducible first|exact HB.out|apply below_alloc|apply pw_below_drewN|apply below_drew1|refine below_set ?_ GE116.out)|exact HB.out)));(case aF=>exact (fun _ _=>trivial));(case aO=>exact (by (with_reducible repeat (first|apply Kd.R_alloc|apply Kd.R_drewN|apply Kd.R_drew));exact HO_3.out));(case aS=>exact (below_size (by repeat (first|(with_reducible first|exact HB.out|apply below_alloc|apply pw_below_drewN|apply below_drew1|refine below_set ?_ GE116.out)|exact HB.out))));(case aL=>have:=LMc12.out;omega);intro v123 w14 ho hb hg hat;rw [← Ny122.out] at ho;have n0_:=Aside0.mk (blk_grown (g:=gb116) (o:=.cells #[.int .i64 a0_0,.int .i64 a0_1,.int .i64 a0_2,.string a0_3,.slice (some ad117) l0_4.length c0_4,.slice A0_5 l0_5.length c0_5,.slice A0_6 l0_6.length c0_6] 25 (0,0)) (by (with_reducible repeat (first|refine blk_drewN ?_ _|refine blk_drew ?_|refine blk_alloc ?_ _));exact BK116.out) hg (Kd.R_ne HO_3.out BK116.out (by decide)));have n1_:=Aside0.mk (hb);have n2_:=Aside0.mk (ho);clear BK116;clear HB;clear HO_3;have BK116:=n0_;have HB:=n1_;have HO124:=n2_;clear n0_ n1_ n2_;clear ho hb hg hat)))
        go_roundg k1
        case measure=>have:=HK1.out;omega
        case rel=>exact ⟨(y122),(wrap64 (x4_1+(wrap64 (6+((rdOf ByteArray.empty l0_4 x13_1).size:Int))))),(wrap64 (x13_1+1)),(by first|rfl|(simp;done)|(simp [*];done)),(by first|rfl|(simp;done)|(simp [*];done)),H',⟨by have:=HK1.out;omega⟩,⟨by (with_reducible repeat (first|apply Kd.R_alloc|apply Kd.R_drewN|apply Kd.R_drew));exact HO124.out⟩,⟨by (with_reducible repeat (first|refine blk_drewN ?_ _|refine blk_drew ?_|refine blk_alloc ?_ _));exact BK116.out⟩,⟨by repeat (first|(with_reducible first|exact HB.out|apply below_alloc|apply pw_below_drewN|apply below_drew1|refine below_set ?_ GE116.out)|exact HB.out)⟩⟩
       ·rw [if_neg c12] at H
        exact absurd H (by simp)
     ·rw [if_neg c6] at H
      exact absurd H (by simp)
    ·rw [if_neg c5] at H
     exact absurd H (by simp)
   ·rw [if_neg c4] at H
    have c4b0:decide (x13_1 < (l0_4.length:Int))=false:=decide_eq_false c4
    clear c4
    by_cases c15:0 < (x3_1.length:Int)
    ·rw [if_pos c15] at H
     have c15b0:decide (0 < (x3_1.length:Int))=true:=decide_eq_true c15
     have c15b1:decide (0 < x3_1.length)=true:=decide_eq_true (by omega)
     clear c15
     have H':=Aside0.mk H
     clear H
     obtain ⟨Ao16,co16,eo16⟩:=Kd.R_slice HO_3.out
     subst eo16
     have p125:0≤(0:Int):=(by omega)
     have q125:0 < (x3_1.length:Int):=of_decide_eq_true (by first|(with_reducible assumption)|assumption)
     obtain ⟨ad125,e125,hx125_0⟩:=Kd.at_int (Kd.R_reads' HO_3.out).2.2 0 p125 q125
     cases e125
     have qi125:(0 < x3_1.length)=True:=eq_true (by omega)
     (try rw [show ((0:Int)).toNat=0 from rfl] at hx125_0)
     (try rw [Addr.add_zero'] at hx125_0)
     replace p125:=eq_true p125
     replace q125:=eq_true q125
     go_wp2
     repeat (go_quiet (fail);try go_wp2)
     go_loopg [8,9] k1 (fun kq v8 v9 w'=>∃ (x8_2:Int) (x9_2:Int),v8=.int .i64 x8_2∧v9=.int .i64 x9_2∧Aside0 (node_parting.l1 kq x3_1 x4_1 x8_2 x9_2=some r)∧Aside0 (kq≤k1)∧Aside0 (Kd.R (Kd.int .i64) 3 w' w.heap.size (fun _=>True) (.slice (some ad125) x3_1.length co16) x3_1)∧Aside0 (w'.heap[gb116]?=some (.cells #[.int .i64 a0_0,.int .i64 a0_1,.int .i64 a0_2,.string a0_3,(.slice A0_4 l0_4.length c0_4),(.slice A0_5 l0_5.length c0_5),(.slice A0_6 l0_6.length c0_6)] 25 (0,0)))∧Aside0 (Below w.heap.size w w'))
     case atStart=>exact ⟨(1),(rd x3_1 0),(by first|rfl|(simp;done)|(simp [*];done)),(by first|rfl|(simp;done)|(simp [*];done)),H',⟨Nat.le_refl _⟩,⟨by (with_reducible repeat (first|apply Kd.R_alloc|apply Kd.R_drewN|apply Kd.R_drew));exact HO_3.out⟩,⟨by (with_reducible repeat (first|refine blk_drewN ?_ _|refine blk_drew ?_|refine blk_alloc ?_ _));exact BK116.out⟩,⟨by repeat (first|(with_reducible first|exact HB.out|apply below_alloc|apply pw_below_drewN|apply below_drew1|refine below_set ?_ GE116.out)|exact HB.out)⟩⟩
     case round =>
      clear H'
      try clear c1
      try clear p1
      try clear q1
      try clear hx1
      try clear qi1
      try clear p2
      try clear c3
      try clear c4
      try clear c4b0
      try clear c5
      try clear c5b0
      try clear c6
      try clear c6b0
      try clear p6
      try clear c7
      try clear c7b0
      try clear c7b1
      try clear c8
      try clear c8b0
      try clear c9
      try clear p11
      try clear q11
      try clear hx11
      try clear c12
      try clear p12
      try clear q12
      try clear hx12
      try clear qi12
      try clear c15
      try clear c15b0
      try clear c15b1
      try clear hcz10_0
      try clear hcz10_1
      try clear hcz10_2
      try clear hcz10_3
      try clear hcz10_4
      try clear hcz10_5
      try clear hcz10_6
      try clear hcz13_0
      try clear hcz13_1
      try clear hcz13_2
      try clear hcz13_3
      try clear hcz13_4
      try clear hcz13_5
      try clear hcz13_6
      try clear hcz3_0
      try clear hcz3_1
      try clear hcz3_2
      try clear hcz3_3
      try clear hcz3_4
      try clear hcz3_5
      try clear hcz3_6
      try clear hfz10_0
      try clear hfz10_1
      try clear hfz10_2
      try clear hfz10_3
      try clear hfz10_4
      try clear hfz10_5
      try clear hfz10_6
      try clear hfz13_0
      try clear hfz13_1
      try clear hfz13_2
      try clear hfz13_3
      try clear hfz13_4
      try clear hfz13_5
      try clear hfz13_6
      try clear hfz3_0
      try clear hfz3_1
      try clear hfz3_2
      try clear hfz3_3
      try clear hfz3_4
      try clear hfz3_5
      try clear hfz3_6
      try clear hx117_0
      try clear hx118_0
      try clear hx125_0
      try clear p117
      try clear p118
      try clear p125
      try clear p2
      try clear q117
      try clear q118
      try clear q125
      obtain ⟨x8_2,x9_2,rfl,rfl,HA,HK2,HO_3,BK116,HB⟩:=hrel
      cases gk with
      | zero=>exact absurd HA.out (by simp [node_parting.l1])
      | succ k2 =>
       have H:=HA.out
       clear HA
       simp only [node_parting.l1] at H
       by_cases c17:(wrap64 (2*x9_2)) < x4_1
       ·rw [if_pos c17] at H
        have c17b0:decide ((wrap64 (2*x9_2)) < x4_1)=true:=decide_eq_true c17
        clear c17
        by_cases c18:x8_2 < (wrap64 ((x3_1.length:Int) - 1))
        ·rw [if_pos c18] at H
         have c18b0:decide (x8_2 < (wrap64 ((x3_1.length:Int) - 1)))=true:=decide_eq_true c18
         clear c18
         by_cases c19:0≤x8_2
         ·rw [if_pos c19] at H
          have c19b0:decide (0≤x8_2)=true:=decide_eq_true c19
          clear c19
          by_cases c20:x8_2 < (x3_1.length:Int)
          ·rw [if_pos c20] at H
           have c20b0:decide (x8_2 < (x3_1.length:Int))=true:=decide_eq_true c20
           clear c20
           have H':=Aside0.mk H
           clear H
           have p126:0≤(x8_2:Int):=of_decide_eq_true (by first|(with_reducible assumption)|assumption)
           have q126:x8_2 < (x3_1.length:Int):=of_decide_eq_true (by first|(with_reducible assumption)|assumption)
           obtain ⟨ad126,e126,hx126_0⟩:=Kd.at_int (Kd.R_reads' HO_3.out).2.2 x8_2 p126 q126
           obtain rfl:ad125=ad126:=(by injection e126)
           replace p126:=eq_true p126
           replace q126:=eq_true q126
           go_wp2
           repeat (go_quiet (fail);try go_wp2)
           go_roundg k2
           case measure=>have:=HK1.out;have:=HK2.out;omega
           case rel=>exact ⟨(wrap64 (x8_2+1)),(wrap64 (x9_2+(rd x3_1 x8_2))),(by first|rfl|(simp;done)|(simp [*];done)),(by first|rfl|(simp;done)|(simp [*];done)),H',⟨by have:=HK1.out;have:=HK2.out;omega⟩,⟨by (with_reducible repeat (first|apply Kd.R_alloc|apply Kd.R_drewN|apply Kd.R_drew));exact HO_3.out⟩,⟨by (with_reducible repeat (first|refine blk_drewN ?_ _|refine blk_drew ?_|refine blk_alloc ?_ _));exact BK116.out⟩,⟨by repeat (first|(with_reducible first|exact HB.out|apply below_alloc|apply pw_below_drewN|apply below_drew1|refine below_set ?_ GE116.out)|exact HB.out)⟩⟩
          ·rw [if_neg c20] at H
           exact absurd H (by simp)
         ·rw [if_neg c19] at H
          exact absurd H (by simp)
        ·rw [if_neg c18] at H
         have c18b0:decide (x8_2 < (wrap64 ((x3_1.length:Int) - 1)))=false:=decide_eq_false c18
         clear c18
         obtain rfl:=Option.some.inj H
         go_wp2
         repeat (go_quiet (fail);try go_wp2)
         go_ret
         exact ⟨by first|rfl|(simp [errW_none,errW_some] <;> rfl)|(simp [*,errW_none,errW_some] <;> rfl),by repeat (first|(with_reducible first|exact HB.out|apply below_alloc|apply pw_below_drewN|apply below_drew1|refine below_set ?_ GE116.out)|exact HB.out)⟩
       ·rw [if_neg c17] at H
        have c17b0:decide ((wrap64 (2*x9_2)) < x4_1)=false:=decide_eq_false c17
        clear c17
        obtain rfl:=Option.some.inj H
        go_wp2
        repeat (go_quiet (fail);try go_wp2)
        go_ret
        exact ⟨by first|rfl|(simp [errW_none,errW_some] <;> rfl)|(simp [*,errW_none,errW_some] <;> rfl),by repeat (first|(with_reducible first|exact HB.out|apply below_alloc|apply pw_below_drewN|apply below_drew1|refine below_set ?_ GE116.out)|exact HB.out)⟩
    ·rw [if_neg c15] at H
     exact absurd H (by simp)
def comG (a b:ByteArray):Nat→Nat→Nat
 | 0,i=>i
 | n+1,i=>if bt a i=bt b i then comG a b n (i+1) else i
def comN (a b:ByteArray):Nat:=comG a b (min a.size b.size) 0
def key_Common.f (a0:ByteArray) (a1:ByteArray):Option (Int):=if a0.size≤9223372036854775807∧a1.size≤9223372036854775807 then some (comN a0 a1:Int) else none
theorem comG_le (a b:ByteArray):∀ n i,comG a b n i≤i+n
 | 0,i=>Nat.le_refl _
 | n+1,i=>by
  unfold comG
  split
  ·have:=comG_le a b n (i+1);omega
  ·omega
set_option maxHeartbeats 4000000 in
set_option maxRecDepth 100000 in
theorem key_Common.calls (a0:ByteArray) (a1:ByteArray) (r:Int) (w:World) (h:key_Common.f a0 a1=some r) :
  Calls Try.prog 57 #[.string a0,.string a1] w fun e w'=>e=.returned (.int .i64 r)∧Below w.heap.size w w':=by
 unfold key_Common.f at h
 by_cases hs:a0.size≤9223372036854775807∧a1.size≤9223372036854775807
 ·obtain ⟨hs0,hs1⟩:=hs
  rw [if_pos ⟨hs0,hs1⟩] at h
  have hr:=(Option.some.inj h).symm
  subst hr
  clear h
  obtain ⟨m,hm⟩:∃ m,m=min a0.size a1.size:=⟨_,rfl⟩
  have hle:=comG_le a0 a1 m 0
  obtain ⟨R,hR⟩:∃ R,R=comN a0 a1:=⟨_,rfl⟩
  have HR:=Aside0.mk (show comG a0 a1 m 0=R by rw [hR,hm];rfl)
  have HM:=Aside0.mk hm
  rw [← hR]
  clear hR hle
  by_cases hlt:a1.size < a0.size
  ·have hm1:m=a1.size:=by omega
   subst hm1
   clear hm
   go_enter Try.func57,Try.ntmps57
   go_wp2
   go_loopg [11] (a1.size) (fun gg v11 w'=>∃ i q:Nat,i≤a1.size∧a1.size - i≤gg∧v11=.int .i64 i∧Aside0 (comG a0 a1 (a1.size - i) i=R)∧w'=w.drewN q)
   case atStart=>exact ⟨0,0,Nat.zero_le _,by omega,rfl,HR,rfl⟩
   case round =>
    clear HR
    obtain ⟨i,q,hi,hg,rfl,HR,rfl⟩:=hrel
    by_cases hl:i < a1.size
    ·obtain ⟨n,hn⟩:∃ n,a1.size - i=n+1:=⟨a1.size - i - 1,by omega⟩
     have HR1:=HR.out
     rw [hn,comG] at HR1
     have hn2:a1.size - (i+1)=n:=by omega
     have HN:=Aside0.mk hn2
     clear hn hn2 HR
     have hl1:i < a0.size:=by omega
     have hl2:i < a1.size:=by omega
     have p7:0≤(i:Int):=by omega
     have q7:(i:Int) < (a0.size:Int):=by omega
     have q9:(i:Int) < (a1.size:Int):=by omega
     have hx7:(((a0[i]'hl1).toNat:Nat):Int)=bt a0 (i:Int):=by simp [bt,hl1]
     have hx9:(((a1[i]'hl2).toNat:Nat):Int)=bt a1 (i:Int):=by simp [bt,hl2]
     replace p7:=eq_true p7
     replace q7:=eq_true q7
     replace q9:=eq_true q9
     by_cases c10:(bt a0 i)=(bt a1 i)
     ·rw [if_pos c10] at HR1
      have HR:=Aside0.mk HR1
      clear HR1
      have c10b0:((bt a0 i)==(bt a1 i))=true:=beq_iff_eq.mpr c10
      have c10b1:((bt a0 i) != (bt a1 i))=false:=bne_eq_false_iff_eq.mpr c10
      clear c10
      go_wp2
      go_quiet (fail)
      go_wp2
      go_roundg (a1.size - (i+1))
      case measure=>omega
      case rel=>exact ⟨i+1,_,by omega,by omega,by go_num,by rw [HN.out];exact HR,rfl⟩
     ·rw [if_neg c10] at HR1
      have HR:=Aside0.mk HR1
      clear HR1
      have c10b0:((bt a0 i)==(bt a1 i))=false:=beq_eq_false_iff_ne.mpr c10
      have c10b1:((bt a0 i) != (bt a1 i))=true:=bne_iff_ne.mpr c10
      clear c10
      go_wp2
      go_quiet (fail)
      go_wp2
      go_ret
      exact ⟨by rw [← HR.out];rfl,pw_below_drewN (pw_below_drewN (Below.refl _ _) _) _⟩
    ·have hl2:¬ (i:Int) < (a1.size:Int):=by omega
     have e0:a1.size - i=0:=by omega
     have HR1:=HR.out
     rw [e0,comG] at HR1
     have hi2:i=a1.size:=by omega
     subst hi2
     clear HR e0
     have HR:=Aside0.mk HR1
     clear HR1
     go_wp2
     go_ret
     exact ⟨by rw [← HR.out];rfl,pw_below_drewN (Below.refl _ _) _⟩
  ·have hm1:m=a0.size:=by omega
   subst hm1
   clear hm
   go_enter Try.func57,Try.ntmps57
   go_wp2
   go_loopg [11] (a0.size) (fun gg v11 w'=>∃ i q:Nat,i≤a0.size∧a0.size - i≤gg∧v11=.int .i64 i∧Aside0 (comG a0 a1 (a0.size - i) i=R)∧w'=w.drewN q)
   case atStart=>exact ⟨0,0,Nat.zero_le _,by omega,rfl,HR,rfl⟩
   case round =>
    clear HR
    obtain ⟨i,q,hi,hg,rfl,HR,rfl⟩:=hrel
    by_cases hl:i < a0.size
    ·obtain ⟨n,hn⟩:∃ n,a0.size - i=n+1:=⟨a0.size - i - 1,by omega⟩
     have HR1:=HR.out
     rw [hn,comG] at HR1
     have hn2:a0.size - (i+1)=n:=by omega
     have HN:=Aside0.mk hn2
     clear hn hn2 HR
     have hl1:i < a0.size:=by omega
     have hl2:i < a1.size:=by omega
     have p7:0≤(i:Int):=by omega
     have q7:(i:Int) < (a0.size:Int):=by omega
     have q9:(i:Int) < (a1.size:Int):=by omega
     have hx7:(((a0[i]'hl1).toNat:Nat):Int)=bt a0 (i:Int):=by simp [bt,hl1]
     have hx9:(((a1[i]'hl2).toNat:Nat):Int)=bt a1 (i:Int):=by simp [bt,hl2]
     replace p7:=eq_true p7
     replace q7:=eq_true q7
     replace q9:=eq_true q9
     by_cases c10:(bt a0 i)=(bt a1 i)
     ·rw [if_pos c10] at HR1
      have HR:=Aside0.mk HR1
      clear HR1
      have c10b0:((bt a0 i)==(bt a1 i))=true:=beq_iff_eq.mpr c10
      have c10b1:((bt a0 i) != (bt a1 i))=false:=bne_eq_false_iff_eq.mpr c10
      clear c10
      go_wp2
      go_quiet (fail)
      go_wp2
      go_roundg (a0.size - (i+1))
      case measure=>omega
      case rel=>exact ⟨i+1,_,by omega,by omega,by go_num,by rw [HN.out];exact HR,rfl⟩
     ·rw [if_neg c10] at HR1
      have HR:=Aside0.mk HR1
      clear HR1
      have c10b0:((bt a0 i)==(bt a1 i))=false:=beq_eq_false_iff_ne.mpr c10
      have c10b1:((bt a0 i) != (bt a1 i))=true:=bne_iff_ne.mpr c10
      clear c10
      go_wp2
      go_quiet (fail)
      go_wp2
      go_ret
      exact ⟨by rw [← HR.out];rfl,pw_below_drewN (pw_below_drewN (Below.refl _ _) _) _⟩
    ·have hl2:¬ (i:Int) < (a0.size:Int):=by omega
     have e0:a0.size - i=0:=by omega
     have HR1:=HR.out
     rw [e0,comG] at HR1
     have hi2:i=a0.size:=by omega
     subst hi2
     clear HR e0
     have HR:=Aside0.mk HR1
     clear HR1
     go_wp2
     go_ret
     exact ⟨by rw [← HR.out];rfl,pw_below_drewN (Below.refl _ _) _⟩
 ·rw [if_neg hs] at h
  cases h
def key_Between.f (a0:ByteArray) (a1:ByteArray):Option (ByteArray×Int):=if ((Op.bytesLess a0.toList a1.toList)=true) then ((key_Common.f a0 a1).bind fun t127=>(if 0≤(wrap64 (t127+1)) then (if (wrap64 (t127+1))≤(a1.size:Int) then (some (a1.extract 0 ((wrap64 (t127+1)):Int).toNat,0)) else (none)) else (none))) else (some ((⟨#[]⟩:ByteArray),1))
set_option maxHeartbeats 8000000 in
set_option maxRecDepth 100000 in
theorem key_Between.calls (a0:ByteArray) (a1:ByteArray) (r1:ByteArray) (r2:Int) (w:World) (h:key_Between.f a0 a1=some (r1,r2)) :
  Calls Try.prog 34 #[.string a0,.string a1] w fun e w'=>e=.returned (.tuple #[.string r1,.int .i64 r2])∧Below w.heap.size w w':=by
 have HB:=Aside0.mk (Below.refl w.heap.size w)
 have H:(if ((Op.bytesLess a0.toList a1.toList)=true) then ((key_Common.f a0 a1).bind fun t127=>(if 0≤(wrap64 (t127+1)) then (if (wrap64 (t127+1))≤(a1.size:Int) then (some (a1.extract 0 ((wrap64 (t127+1)):Int).toNat,0)) else (none)) else (none))) else (some ((⟨#[]⟩:ByteArray),1)))=some (r1,r2):=h
 clear h
 by_cases c3:((Op.bytesLess a0.toList a1.toList)=true)
 ·rw [if_pos c3] at H
  have c3b0:(Op.bytesLess a0.toList a1.toList)=true:=c3
  clear c3
  replace H:=Option.bind_eq_some_iff.mp H
  obtain ⟨t127,A40,H⟩:=H
  try dsimp only at H
  have A4:=Aside0.mk A40
  clear A40
  obtain ⟨ji5,hji5⟩:∃ j_:Int,(wrap64 (t127+1))=j_:=⟨_,rfl⟩
  replace H:(if 0≤(ji5) then (if (ji5)≤(a1.size:Int) then (some (a1.extract 0 ((ji5):Int).toNat,0)) else (none)) else (none))=some (r1,r2):=by first|(rw [hji5] at H;exact H)|(simp only [hji5] at H ⊢;exact H)
  (try rw [hji5] at A4)
  have hji5w:(IntKind.i64.wrap (t127+1))=ji5:=(i64_w _).trans hji5
  by_cases c6:0≤(ji5)
  ·rw [if_pos c6] at H
   have c6b0:=eq_true c6
   have c6b1:decide (0≤(ji5))=true:=decide_eq_true c6
   clear c6
   by_cases c7:(ji5)≤(a1.size:Int)
   ·rw [if_pos c7] at H
    have c7b0:=eq_true c7
    have c7b1:decide ((ji5)≤(a1.size:Int))=true:=decide_eq_true c7
    clear c7
    simp only [Option.some.injEq,Prod.mk.injEq] at H
    obtain ⟨rfl,rfl⟩:=H
    go_enter Try.func34,Try.ntmps34
    go_wp2_with (first|((with_reducible refine gate_callee (f:=57) rfl ?_);refine goesL_ (some 12) rfl rfl Try.func57 (by kernel_rfl) rfl #[.string a0,.string a1] rfl (by (try simp only [List.map_toArray,List.map_cons,List.map_nil]);first|done|rfl|(simp only [List.length_drop,List.length_take];rfl)) ?_;(with_reducible refine (key_Common.calls a0 a1 t127 _ A4.out).mono ?_);rintro e w8 ⟨rfl,hb⟩;refine ⟨_,rfl,?_⟩;have n0_:=Aside0.mk (below_step (by repeat (first|(with_reducible first|exact HB.out|apply below_alloc|apply pw_below_drewN|apply below_drew1)|exact HB.out)) hb);clear HB;have HB:=n0_;clear n0_;(try clear hb);(try clear hb2);(try clear hk);(try clear hi)))
    go_ret2
    exact ⟨by first|rfl|(simp [errW_none,errW_some] <;> rfl)|(simp only [← hji5];first|rfl|(simp [errW_none,errW_some] <;> rfl))|(simp [*,errW_none,errW_some] <;> rfl),by repeat (first|(with_reducible first|exact HB.out|apply below_alloc|apply pw_below_drewN|apply below_drew1)|exact HB.out)⟩
   ·rw [if_neg c7] at H
    exact absurd H (by simp)
  ·rw [if_neg c6] at H
   exact absurd H (by simp)
 ·rw [if_neg c3] at H
  have c3b0:(Op.bytesLess a0.toList a1.toList)=false:=by simpa using c3
  clear c3
  simp only [Option.some.injEq,Prod.mk.injEq] at H
  obtain ⟨rfl,rfl⟩:=H
  go_enter Try.func34,Try.ntmps34
  go_wp2
  go_ret2
  exact ⟨by first|rfl|(simp [errW_none,errW_some] <;> rfl)|(simp [*,errW_none,errW_some] <;> rfl),by repeat (first|(with_reducible first|exact HB.out|apply below_alloc|apply pw_below_drewN|apply below_drew1)|exact HB.out)⟩
end Go.Proofs.Ytcocmpblmkdmjaa.Pr
