-- A part of the text Prx17, thinned by a program of this session.
import Derived.Test.YtgjibcfkjaedfaaTHPrx0
import Derived.Test.YtgjibcfkjaedfaaTHRefW
import Derived.Test.YtgjibcfkjaedfaaTHCrcR
import Derived.Test.YtgjibcfkjaedfaaTHPrx16
namespace Go.Proofs.Ytgjibcfkjaedfaa.Pr
open Go.RowKit Go.Proofs.YtgjibcfkjaedfaaW.PrintWords Go.Proofs.YtgjibcfkjaedfaaW.PrintLast Go.Proofs.YtgjibcfkjaedfaaW.PrintMore
attribute [local go_sem] max2_int min2_int max_two min_two max_three min_three max_four min_four
set_option linter.unusedVariables false
set_option linter.unusedSimpArgs false
mutual
def latticeref06_Encode.j0:Nat→List Int→Int→Int→Int→ByteArray→List ByteArray→List ByteArray→List Int→Option (List Int×Int)
 | 0,_,_,_,_,_,_,_,_=>none
 | k+1,x4,x168000,x168001,x168002,x168003,x168004,x168005,x168006=>latticeref06_Encode.l0 k x4 x168004 (x168004.length:Int) 0 x168000 x168001 x168002 x168003 x168004 x168005 x168006
def latticeref06_Encode.l0:Nat→List Int→List ByteArray→Int→Int→Int→Int→Int→ByteArray→List ByteArray→List ByteArray→List Int→Option (List Int×Int)
 | 0,_,_,_,_,_,_,_,_,_,_,_=>none
 | k+1,x4,x47,x48,x49,x168000,x168001,x168002,x168003,x168004,x168005,x168006=>if x49 < x48 then (if 0≤x49 then (if x49 < (x47.length:Int) then ((latticeref01_Text.f (rdOf ByteArray.empty x47 x49)).bind fun t207=>(if x4.length+t207.length < 140737488355328 then ((some (x4++t207:List Int)).bind fun y210=>(if x168000 > 0 then (if 0≤(wrap64 (x49+1)) then (if (wrap64 (x49+1)) < (x168006.length:Int) then ((latticeref01_Num.f (rd x168006 (wrap64 (x49+1))) 4).bind fun t214=>(if y210.length+t214.length < 140737488355328 then (latticeref06_Encode.l0 k (y210++t214) x47 x48 (wrap64 (x49+1)) x168000 x168001 x168002 x168003 x168004 x168005 x168006) else (none))) else (none)) else (none)) else (if x49 < (x168005.length:Int) then ((latticeref01_Text.f (rdOf ByteArray.empty x168005 x49)).bind fun t221=>(if y210.length+t221.length < 140737488355328 then (latticeref06_Encode.l0 k (y210++t221) x47 x48 (wrap64 (x49+1)) x168000 x168001 x168002 x168003 x168004 x168005 x168006) else (none))) else (none)))) else (none))) else (none)) else (none)) else (latticeref06_Encode.l1 k x4)
def latticeref06_Encode.l1:Nat→List Int→Option (List Int×Int)
 | 0,_=>none
 | k+1,x4=>if (x4.length:Int) < 252 then (if x4.length < 140737488355328 then (latticeref06_Encode.l1 k (x4++[0])) else (none)) else ((latticeref02_Seal.f x4).bind fun t230=>(some (t230,0)))
end
theorem latticeref06_Encode.l1_s (k:Nat) (x4:List Int):latticeref06_Encode.l1 (k+1) x4=(if (x4.length:Int) < 252 then (if x4.length < 140737488355328 then (latticeref06_Encode.l1 k (x4++[0])) else (none)) else ((latticeref02_Seal.f x4).bind fun t231=>(some (t231,0)))):=rfl
def latticeref06_Encode.f (k:Nat) (a0_0:Int) (a0_1:Int) (a0_2:Int) (a0_3:ByteArray) (l0_4:List ByteArray) (l0_5:List ByteArray) (l0_6:List Int):Option (List Int×Int):=(latticeref06_Right.f k a0_0 a0_1 a0_2 a0_3 l0_4 l0_5 l0_6).bind fun t168=>(if t168=true then ((latticeref01_Num.f a0_0 1).bind fun t169=>(if ([]:List Int).length+t169.length < 140737488355328 then ((some (([]:List Int)++t169:List Int)).bind fun y172=>((latticeref01_Num.f a0_1 8).bind fun t175=>(if y172.length+t175.length < 140737488355328 then ((some (y172++t175:List Int)).bind fun y178=>((latticeref01_Num.f a0_2 4).bind fun t181=>(if y178.length+t181.length < 140737488355328 then ((some (y178++t181:List Int)).bind fun y184=>((latticeref01_Num.f (l0_4.length:Int) 2).bind fun t187=>(if y184.length+t187.length < 140737488355328 then ((some (y184++t187:List Int)).bind fun y190=>((latticeref01_Text.f a0_3).bind fun t193=>(if y190.length+t193.length < 140737488355328 then ((some (y190++t193:List Int)).bind fun y196=>(if a0_0 > 0 then (if 0 < (l0_6.length:Int) then ((latticeref01_Num.f (rd l0_6 0) 4).bind fun t200=>(if y196.length+t200.length < 140737488355328 then (latticeref06_Encode.j0 k (y196++t200) a0_0 a0_1 a0_2 a0_3 l0_4 l0_5 l0_6) else (none))) else (none)) else (latticeref06_Encode.j0 k y196 a0_0 a0_1 a0_2 a0_3 l0_4 l0_5 l0_6))) else (none)))) else (none)))) else (none)))) else (none)))) else (none))) else (some (([]:List Int),60)))
set_option maxHeartbeats 8000000 in
set_option maxRecDepth 100000 in
theorem latticeref06_Encode.calls (k:Nat) (a0_0:Int) (a0_1:Int) (a0_2:Int) (a0_3:ByteArray) (A0_4:Option Addr) (c0_4:Nat) (l0_4:List ByteArray) (A0_5:Option Addr) (c0_5:Nat) (l0_5:List ByteArray) (A0_6:Option Addr) (c0_6:Nat) (l0_6:List Int) (r1:List Int) (r2:Int) (w:World) (hr0_4:Kd.C Kd.string w A0_4 l0_4.length l0_4) (hc0_4:l0_4.length≤c0_4) (hr0_5:Kd.C Kd.string w A0_5 l0_5.length l0_5) (hc0_5:l0_5.length≤c0_5) (hr0_6:Kd.C (Kd.int .i64) w A0_6 l0_6.length l0_6) (hc0_6:l0_6.length≤c0_6) (h:latticeref06_Encode.f k a0_0 a0_1 a0_2 a0_3 l0_4 l0_5 l0_6=some (r1,r2)) :
  Calls Try.prog 87 #[.agg #[.int .i64 a0_0,.int .i64 a0_1,.int .i64 a0_2,.string a0_3,.slice A0_4 l0_4.length c0_4,.slice A0_5 l0_5.length c0_5,.slice A0_6 l0_6.length c0_6]] w fun e w'=>∃ v0_:Value,e=.returned (.tuple #[v0_,.int .i64 r2])∧Kd.R (Kd.int .u8) 5 w' w.heap.size (fun _=>True) v0_ r1∧Below w.heap.size w w':=by
 have hu113:=Try.underlying113
 have HR0_4:=Aside0.mk hr0_4
 have HC0_4:=Aside0.mk hc0_4
 clear hr0_4 hc0_4
 have HR0_5:=Aside0.mk hr0_5
 have HC0_5:=Aside0.mk hc0_5
 clear hr0_5 hc0_5
 have HR0_6:=Aside0.mk hr0_6
 have HC0_6:=Aside0.mk hc0_6
 clear hr0_6 hc0_6
 have HB:=Aside0.mk (Below.refl w.heap.size w)
 have H:((latticeref06_Right.f k a0_0 a0_1 a0_2 a0_3 l0_4 l0_5 l0_6).bind fun t168=>(if t168=true then ((latticeref01_Num.f a0_0 1).bind fun t169=>(if ([]:List Int).length+t169.length < 140737488355328 then ((some (([]:List Int)++t169:List Int)).bind fun y172=>((latticeref01_Num.f a0_1 8).bind fun t175=>(if y172.length+t175.length < 140737488355328 then ((some (y172++t175:List Int)).bind fun y178=>((latticeref01_Num.f a0_2 4).bind fun t181=>(if y178.length+t181.length < 140737488355328 then ((some (y178++t181:List Int)).bind fun y184=>((latticeref01_Num.f (l0_4.length:Int) 2).bind fun t187=>(if y184.length+t187.length < 140737488355328 then ((some (y184++t187:List Int)).bind fun y190=>((latticeref01_Text.f a0_3).bind fun t193=>(if y190.length+t193.length < 140737488355328 then ((some (y190++t193:List Int)).bind fun y196=>(if a0_0 > 0 then (if 0 < (l0_6.length:Int) then ((latticeref01_Num.f (rd l0_6 0) 4).bind fun t200=>(if y196.length+t200.length < 140737488355328 then (latticeref06_Encode.j0 k (y196++t200) a0_0 a0_1 a0_2 a0_3 l0_4 l0_5 l0_6) else (none))) else (none)) else (latticeref06_Encode.j0 k y196 a0_0 a0_1 a0_2 a0_3 l0_4 l0_5 l0_6))) else (none)))) else (none)))) else (none)))) else (none)))) else (none))) else (some (([]:List Int),60))))=some (r1,r2):=h
 clear h
 replace H:=Option.bind_eq_some_iff.mp H
 obtain ⟨t168,A20,H⟩:=H
 try dsimp only at H
 have A2:=Aside0.mk A20
 clear A20
 by_cases c3:t168=true
 ·subst c3
  have H1:((latticeref01_Num.f a0_0 1).bind fun t169=>(if ([]:List Int).length+t169.length < 140737488355328 then ((some (([]:List Int)++t169:List Int)).bind fun y172=>((latticeref01_Num.f a0_1 8).bind fun t175=>(if y172.length+t175.length < 140737488355328 then ((some (y172++t175:List Int)).bind fun y178=>((latticeref01_Num.f a0_2 4).bind fun t181=>(if y178.length+t181.length < 140737488355328 then ((some (y178++t181:List Int)).bind fun y184=>((latticeref01_Num.f (l0_4.length:Int) 2).bind fun t187=>(if y184.length+t187.length < 140737488355328 then ((some (y184++t187:List Int)).bind fun y190=>((latticeref01_Text.f a0_3).bind fun t193=>(if y190.length+t193.length < 140737488355328 then ((some (y190++t193:List Int)).bind fun y196=>(if a0_0 > 0 then (if 0 < (l0_6.length:Int) then ((latticeref01_Num.f (rd l0_6 0) 4).bind fun t200=>(if y196.length+t200.length < 140737488355328 then (latticeref06_Encode.j0 k (y196++t200) a0_0 a0_1 a0_2 a0_3 l0_4 l0_5 l0_6) else (none))) else (none)) else (latticeref06_Encode.j0 k y196 a0_0 a0_1 a0_2 a0_3 l0_4 l0_5 l0_6))) else (none)))) else (none)))) else (none)))) else (none)))) else (none)))=some (r1,r2):=by rw [if_pos rfl] at H;exact H
  clear H
  have H:=H1
  clear H1
  replace H:=Option.bind_eq_some_iff.mp H
  obtain ⟨t169,A40,H⟩:=H
  try dsimp only at H
  have A4:=Aside0.mk A40
  clear A40
  by_cases c5:([]:List Int).length+t169.length < 140737488355328
  ·rw [if_pos c5] at H
   have LMc5:=Aside0.mk c5
   clear c5
   obtain ⟨y172,hy172⟩:∃ y_:List Int,y_=(([]:List Int)++t169):=⟨_,rfl⟩
   replace H:((latticeref01_Num.f a0_1 8).bind fun t175=>(if y172.length+t175.length < 140737488355328 then ((some (y172++t175:List Int)).bind fun y178=>((latticeref01_Num.f a0_2 4).bind fun t181=>(if y178.length+t181.length < 140737488355328 then ((some (y178++t181:List Int)).bind fun y184=>((latticeref01_Num.f (l0_4.length:Int) 2).bind fun t187=>(if y184.length+t187.length < 140737488355328 then ((some (y184++t187:List Int)).bind fun y190=>((latticeref01_Text.f a0_3).bind fun t193=>(if y190.length+t193.length < 140737488355328 then ((some (y190++t193:List Int)).bind fun y196=>(if a0_0 > 0 then (if 0 < (l0_6.length:Int) then ((latticeref01_Num.f (rd l0_6 0) 4).bind fun t200=>(if y196.length+t200.length < 140737488355328 then (latticeref06_Encode.j0 k (y196++t200) a0_0 a0_1 a0_2 a0_3 l0_4 l0_5 l0_6) else (none))) else (none)) else (latticeref06_Encode.j0 k y196 a0_0 a0_1 a0_2 a0_3 l0_4 l0_5 l0_6))) else (none)))) else (none)))) else (none)))) else (none)))=some (r1,r2):=by first|(rw [hy172];with_reducible exact H)|(have H2_:=(Option.bind_some _ _).symm.trans H;rw [hy172];with_reducible exact H2_)|(have H2_:=(Option.bind_some _ _).symm.trans H;with_reducible exact H2_)|with_reducible exact H|(rw [hy172];exact H)|exact H
   have Ny172:=Aside0.mk hy172
   clear hy172
   replace H:=Option.bind_eq_some_iff.mp H
   obtain ⟨t175,A60,H⟩:=H
   try dsimp only at H
   have A6:=Aside0.mk A60
   clear A60
   by_cases c7:y172.length+t175.length < 140737488355328
   ·rw [if_pos c7] at H
    have LMc7:=Aside0.mk c7
    clear c7
    obtain ⟨y178,hy178⟩:∃ y_:List Int,y_=(y172++t175):=⟨_,rfl⟩
    replace H:((latticeref01_Num.f a0_2 4).bind fun t181=>(if y178.length+t181.length < 140737488355328 then ((some (y178++t181:List Int)).bind fun y184=>((latticeref01_Num.f (l0_4.length:Int) 2).bind fun t187=>(if y184.length+t187.length < 140737488355328 then ((some (y184++t187:List Int)).bind fun y190=>((latticeref01_Text.f a0_3).bind fun t193=>(if y190.length+t193.length < 140737488355328 then ((some (y190++t193:List Int)).bind fun y196=>(if a0_0 > 0 then (if 0 < (l0_6.length:Int) then ((latticeref01_Num.f (rd l0_6 0) 4).bind fun t200=>(if y196.length+t200.length < 140737488355328 then (latticeref06_Encode.j0 k (y196++t200) a0_0 a0_1 a0_2 a0_3 l0_4 l0_5 l0_6) else (none))) else (none)) else (latticeref06_Encode.j0 k y196 a0_0 a0_1 a0_2 a0_3 l0_4 l0_5 l0_6))) else (none)))) else (none)))) else (none)))=some (r1,r2):=by first|(rw [hy178];with_reducible exact H)|(have H2_:=(Option.bind_some _ _).symm.trans H;rw [hy178];with_reducible exact H2_)|(have H2_:=(Option.bind_some _ _).symm.trans H;with_reducible exact H2_)|with_reducible exact H|(rw [hy178];exact H)|exact H
    have Ny178:=Aside0.mk hy178
    clear hy178
    replace H:=Option.bind_eq_some_iff.mp H
    obtain ⟨t181,A80,H⟩:=H
    try dsimp only at H
    have A8:=Aside0.mk A80
    clear A80
    by_cases c9:y178.length+t181.length < 140737488355328
    ·rw [if_pos c9] at H
     have LMc9:=Aside0.mk c9
     clear c9
     obtain ⟨y184,hy184⟩:∃ y_:List Int,y_=(y178++t181):=⟨_,rfl⟩
     replace H:((latticeref01_Num.f (l0_4.length:Int) 2).bind fun t187=>(if y184.length+t187.length < 140737488355328 then ((some (y184++t187:List Int)).bind fun y190=>((latticeref01_Text.f a0_3).bind fun t193=>(if y190.length+t193.length < 140737488355328 then ((some (y190++t193:List Int)).bind fun y196=>(if a0_0 > 0 then (if 0 < (l0_6.length:Int) then ((latticeref01_Num.f (rd l0_6 0) 4).bind fun t200=>(if y196.length+t200.length < 140737488355328 then (latticeref06_Encode.j0 k (y196++t200) a0_0 a0_1 a0_2 a0_3 l0_4 l0_5 l0_6) else (none))) else (none)) else (latticeref06_Encode.j0 k y196 a0_0 a0_1 a0_2 a0_3 l0_4 l0_5 l0_6))) else (none)))) else (none)))=some (r1,r2):=by first|(rw [hy184];with_reducible exact H)|(have H2_:=(Option.bind_some _ _).symm.trans H;rw [hy184];with_reducible exact H2_)|(have H2_:=(Option.bind_some _ _).symm.trans H;with_reducible exact H2_)|with_reducible exact H|(rw [hy184];exact H)|exact H
     have Ny184:=Aside0.mk hy184
     clear hy184
     replace H:=Option.bind_eq_some_iff.mp H
     obtain ⟨t187,A100,H⟩:=H
     try dsimp only at H
     have A10:=Aside0.mk A100
     clear A100
     by_cases c11:y184.length+t187.length < 140737488355328
     ·rw [if_pos c11] at H
      have LMc11:=Aside0.mk c11
      clear c11
      obtain ⟨y190,hy190⟩:∃ y_:List Int,y_=(y184++t187):=⟨_,rfl⟩
      replace H:((latticeref01_Text.f a0_3).bind fun t193=>(if y190.length+t193.length < 140737488355328 then ((some (y190++t193:List Int)).bind fun y196=>(if a0_0 > 0 then (if 0 < (l0_6.length:Int) then ((latticeref01_Num.f (rd l0_6 0) 4).bind fun t200=>(if y196.length+t200.length < 140737488355328 then (latticeref06_Encode.j0 k (y196++t200) a0_0 a0_1 a0_2 a0_3 l0_4 l0_5 l0_6) else (none))) else (none)) else (latticeref06_Encode.j0 k y196 a0_0 a0_1 a0_2 a0_3 l0_4 l0_5 l0_6))) else (none)))=some (r1,r2):=by first|(rw [hy190];with_reducible exact H)|(have H2_:=(Option.bind_some _ _).symm.trans H;rw [hy190];with_reducible exact H2_)|(have H2_:=(Option.bind_some _ _).symm.trans H;with_reducible exact H2_)|with_reducible exact H|(rw [hy190];exact H)|exact H
      have Ny190:=Aside0.mk hy190
      clear hy190
      replace H:=Option.bind_eq_some_iff.mp H
      obtain ⟨t193,A120,H⟩:=H
      try dsimp only at H
      have A12:=Aside0.mk A120
      clear A120
      by_cases c13:y190.length+t193.length < 140737488355328
      ·rw [if_pos c13] at H
       have LMc13:=Aside0.mk c13
       clear c13
       obtain ⟨y196,hy196⟩:∃ y_:List Int,y_=(y190++t193):=⟨_,rfl⟩
       replace H:(if a0_0 > 0 then (if 0 < (l0_6.length:Int) then ((latticeref01_Num.f (rd l0_6 0) 4).bind fun t200=>(if y196.length+t200.length < 140737488355328 then (latticeref06_Encode.j0 k (y196++t200) a0_0 a0_1 a0_2 a0_3 l0_4 l0_5 l0_6) else (none))) else (none)) else (latticeref06_Encode.j0 k y196 a0_0 a0_1 a0_2 a0_3 l0_4 l0_5 l0_6))=some (r1,r2):=by first|(rw [hy196];with_reducible exact H)|(have H2_:=(Option.bind_some _ _).symm.trans H;rw [hy196];with_reducible exact H2_)|(have H2_:=(Option.bind_some _ _).symm.trans H;with_reducible exact H2_)|with_reducible exact H|(rw [hy196];exact H)|exact H
       have Ny196:=Aside0.mk hy196
       clear hy196
       have HC14:=Aside0.mk H
       clear H
       go_enter Try.func87,Try.ntmps87
       go_upto_if 38 with (first|((with_reducible refine gate_dst (N:=1) rfl ?_);refine box_event ?hg (N:=1) ?hd (cs:=#[.int .i64 a0_0,.int .i64 a0_1,.int .i64 a0_2,.string a0_3,.slice A0_4 l0_4.length c0_4,.slice A0_5 l0_5.length c0_5,.slice A0_6 l0_6.length c0_6]) (t:=113) ?hr ?_;(case hd=>rfl);(case hg=>rfl);(case hr=>first|(go_simp;done)|(go_simp;rfl));intro gb167 hg w15 hbox hb;have n0_:=Aside0.mk (below_step (by repeat (first|(with_reducible first|exact HB.out|apply below_alloc|apply pw_below_drewN|apply below_drew1)|exact HB.out)) hb);have n1_:=Aside0.mk (hbox);have n2_:=Aside0.mk ((by rw [hg];exact (below_size (by repeat (first|(with_reducible first|exact HB.out|apply below_alloc|apply pw_below_drewN|apply below_drew1)|exact HB.out))):w.heap.size≤gb167));have n3_:=Aside0.mk ((by rw [hg];exact (below_size (by repeat (first|(with_reducible first|exact HB.out|apply below_alloc|apply pw_below_drewN|apply below_drew1)|exact HB.out))):w.heap.size≤gb167));clear HB;have HB:=n0_;have BK167:=n1_;have GW167:=n2_;have GE167:=n3_;clear n0_ n1_ n2_ n3_;clear hb hbox hg;have hcz16_0:w15.cell? ⟨gb167,0,none⟩=some (.int .i64 a0_0):=(blk_cell BK167.out 0).trans rfl;have hcz16_1:w15.cell? ⟨gb167,1,none⟩=some (.int .i64 a0_1):=(blk_cell BK167.out 1).trans rfl;have hcz16_2:w15.cell? ⟨gb167,2,none⟩=some (.int .i64 a0_2):=(blk_cell BK167.out 2).trans rfl;have hcz16_3:w15.cell? ⟨gb167,3,none⟩=some (.string a0_3):=(blk_cell BK167.out 3).trans rfl;have hcz16_4:w15.cell? ⟨gb167,4,none⟩=some (.slice A0_4 l0_4.length c0_4):=(blk_cell BK167.out 4).trans rfl;have hcz16_5:w15.cell? ⟨gb167,5,none⟩=some (.slice A0_5 l0_5.length c0_5):=(blk_cell BK167.out 5).trans rfl;have hcz16_6:w15.cell? ⟨gb167,6,none⟩=some (.slice A0_6 l0_6.length c0_6):=(blk_cell BK167.out 6).trans rfl;have hfz16_0:=blk_frozen BK167.out 0;have hfz16_1:=blk_frozen BK167.out 1;have hfz16_2:=blk_frozen BK167.out 2;have hfz16_3:=blk_frozen BK167.out 3;have hfz16_4:=blk_frozen BK167.out 4;have hfz16_5:=blk_frozen BK167.out 5;have hfz16_6:=blk_frozen BK167.out 6)|((with_reducible refine gate_callee (f:=102) rfl ?_);refine goesL_ (some 8) rfl rfl Try.func102 (by kernel_rfl) rfl #[.agg #[.int .i64 a0_0,.int .i64 a0_1,.int .i64 a0_2,.string a0_3,.slice A0_4 l0_4.length c0_4,.slice A0_5 l0_5.length c0_5,.slice A0_6 l0_6.length c0_6]] rfl (by (try simp only [List.map_toArray,List.map_cons,List.map_nil]);first|done|rfl|(simp only [List.length_drop,List.length_take];rfl)) ?_;(with_reducible refine (latticeref06_Right.calls k a0_0 a0_1 a0_2 a0_3 _ _ l0_4 _ _ l0_5 _ _ l0_6 true _ ?side1 ?side2 ?side3 ?side4 ?side5 ?side6 A2.out).mono ?_);(case side1=>repeat (first|exact (Kd.C_below HR0_4.out HB.out)|(with_reducible refine Kd.C_alloc ?_ _)|(with_reducible refine Kd.C_drewN ?_ _)|(with_reducible refine Kd.C_drew ?_)));(case side2=>exact HC0_4.out);(case side3=>repeat (first|exact (Kd.C_below HR0_5.out HB.out)|(with_reducible refine Kd.C_alloc ?_ _)|(with_reducible refine Kd.C_drewN ?_ _)|(with_reducible refine Kd.C_drew ?_)));(case side4=>exact HC0_5.out);(case side5=>repeat (first|exact (Kd.C_below HR0_6.out HB.out)|(with_reducible refine Kd.C_alloc ?_ _)|(with_reducible refine Kd.C_drewN ?_ _)|(with_reducible refine Kd.C_drew ?_)));(case side6=>exact HC0_6.out);rintro e w17 ⟨rfl,hb⟩;refine ⟨_,rfl,?_⟩;have n0_:=Aside0.mk (blk_below (g:=gb167) (o:=.cells #[.int .i64 a0_0,.int .i64 a0_1,.int .i64 a0_2,.string a0_3,.slice A0_4 l0_4.length c0_4,.slice A0_5 l0_5.length c0_5,.slice A0_6 l0_6.length c0_6] 113 (0,0)) (by (with_reducible repeat (first|refine blk_drewN ?_ _|refine blk_drew ?_|refine blk_alloc ?_ _));exact BK167.out) hb);have n1_:=Aside0.mk (below_step (by repeat (first|(with_reducible first|exact HB.out|apply below_alloc|apply pw_below_drewN|apply below_drew1|refine below_set ?_ GE167.out)|exact HB.out)) hb);clear BK167;clear HB;have BK167:=n0_;have HB:=n1_;clear n0_ n1_;(try clear hb);(try clear hb2);(try clear hk);(try clear hi);have hcz18_0:w17.cell? ⟨gb167,0,none⟩=some (.int .i64 a0_0):=(blk_cell BK167.out 0).trans rfl;have hcz18_1:w17.cell? ⟨gb167,1,none⟩=some (.int .i64 a0_1):=(blk_cell BK167.out 1).trans rfl;have hcz18_2:w17.cell? ⟨gb167,2,none⟩=some (.int .i64 a0_2):=(blk_cell BK167.out 2).trans rfl;have hcz18_3:w17.cell? ⟨gb167,3,none⟩=some (.string a0_3):=(blk_cell BK167.out 3).trans rfl;have hcz18_4:w17.cell? ⟨gb167,4,none⟩=some (.slice A0_4 l0_4.length c0_4):=(blk_cell BK167.out 4).trans rfl;have hcz18_5:w17.cell? ⟨gb167,5,none⟩=some (.slice A0_5 l0_5.length c0_5):=(blk_cell BK167.out 5).trans rfl;have hcz18_6:w17.cell? ⟨gb167,6,none⟩=some (.slice A0_6 l0_6.length c0_6):=(blk_cell BK167.out 6).trans rfl;have hfz18_0:=blk_frozen BK167.out 0;have hfz18_1:=blk_frozen BK167.out 1;have hfz18_2:=blk_frozen BK167.out 2;have hfz18_3:=blk_frozen BK167.out 3;have hfz18_4:=blk_frozen BK167.out 4;have hfz18_5:=blk_frozen BK167.out 5;have hfz18_6:=blk_frozen BK167.out 6)|((with_reducible refine gate_callee (f:=88) rfl ?_);refine goesL_ (some 13) rfl rfl Try.func88 (by kernel_rfl) rfl #[.int .i64 a0_0,.int .i64 1] rfl (by (try simp only [List.map_toArray,List.map_cons,List.map_nil]);first|done|rfl|(simp only [List.length_drop,List.length_take];rfl)) ?_;(with_reducible refine (latticeref01_Num.calls a0_0 1 t169 _ A4.out).mono ?_);rintro e w19 ⟨v170,rfl,ho0,hb⟩;refine ⟨_,rfl,?_⟩;have n0_:=Aside0.mk (Kd.R_lower ho0 (below_size (by repeat (first|(with_reducible first|exact HB.out|apply below_alloc|apply pw_below_drewN|apply below_drew1|refine below_set ?_ GE167.out)|exact HB.out))));have n1_:=Aside0.mk (blk_below (g:=gb167) (o:=.cells #[.int .i64 a0_0,.int .i64 a0_1,.int .i64 a0_2,.string a0_3,.slice A0_4 l0_4.length c0_4,.slice A0_5 l0_5.length c0_5,.slice A0_6 l0_6.length c0_6] 113 (0,0)) (by (with_reducible repeat (first|refine blk_drewN ?_ _|refine blk_drew ?_|refine blk_alloc ?_ _));exact BK167.out) hb);have n2_:=Aside0.mk (below_step (by repeat (first|(with_reducible first|exact HB.out|apply below_alloc|apply pw_below_drewN|apply below_drew1|refine below_set ?_ GE167.out)|exact HB.out)) hb);clear BK167;clear HB;have HO171:=n0_;have BK167:=n1_;have HB:=n2_;clear n0_ n1_ n2_;(try clear hb);(try clear hb2);(try clear hk);(try clear hi);(try clear ho0);obtain ⟨Ao21,co21,eo21⟩:=Kd.R_slice HO171.out;subst eo21)|((with_reducible refine gate_builtin (b:=.append) (xs:=#[.tmp 10,.tmp 13]) rfl ?_);at_builtin;refine Kd.R_append_rows (Kd.int .u8) (w0:=w) w.heap.size rfl (.tmp 10) (.tmp 13) 67 5 (.int .u8 0) 1 rfl Try.underlying67 info5 rfl (by decide) (by omega) (.slice none 0 0) ([]:List Int) t169 _ _ _ (fun k_=>some k_≠(.slice Ao21 t169.length co21:Value).ownBlock) (fun _=>False) rfl rfl ?aO ?aR (fun _ _ h=>h) (fun _ h=>h.elim) ?aF ?aB ?aS ?aL ?_;(case aR=>repeat (first|exact (Kd.R_reads' HO171.out).2.2|(with_reducible refine Kd.C_alloc ?_ _)|(with_reducible refine Kd.C_drewN ?_ _)|(with_reducible refine Kd.C_drew ?_)));(case aB=>exact (by repeat (first|(with_reducible first|exact HB.out|apply below_alloc|apply pw_below_drewN|apply below_drew1|refine below_set ?_ GE167.out)|exact HB.out)));(case aF=>exact (fun k_ hk=>Kd.fresh' (Kd.R_lt (by (with_reducible repeat (first|apply Kd.R_alloc|apply Kd.R_drewN|apply Kd.R_drew));exact HO171.out)) k_ hk));(case aO=>exact ((Kd.R_nil _ _ _ _ (fun k_=>some k_≠(.slice Ao21 t169.length co21:Value).ownBlock))));(case aS=>exact (below_size (by repeat (first|(with_reducible first|exact HB.out|apply below_alloc|apply pw_below_drewN|apply below_drew1|refine below_set ?_ GE167.out)|exact HB.out))));(case aL=>have:=LMc5.out;omega);intro v173 w20 ho hb hg hat;rw [← Ny172.out] at ho;have n0_:=Aside0.mk (blk_grown (g:=gb167) (o:=.cells #[.int .i64 a0_0,.int .i64 a0_1,.int .i64 a0_2,.string a0_3,.slice A0_4 l0_4.length c0_4,.slice A0_5 l0_5.length c0_5,.slice A0_6 l0_6.length c0_6] 113 (0,0)) (by (with_reducible repeat (first|refine blk_drewN ?_ _|refine blk_drew ?_|refine blk_alloc ?_ _));exact BK167.out) hg (by simp [Value.ownBlock]));have n1_:=Aside0.mk (Kd.R_after (Kd.R_apart_nil (by (with_reducible repeat (first|apply Kd.R_alloc|apply Kd.R_drewN|apply Kd.R_drew));exact HO171.out)) hg hat);have n2_:=Aside0.mk (hb);have n3_:=Aside0.mk (ho);clear BK167;clear HO171;clear HB;have BK167:=n0_;have HO171:=n1_;have HB:=n2_;have HO174:=n3_;clear n0_ n1_ n2_ n3_;clear ho hb hg hat;have hcz22_0:w20.cell? ⟨gb167,0,none⟩=some (.int .i64 a0_0):=(blk_cell BK167.out 0).trans rfl;have hcz22_1:w20.cell? ⟨gb167,1,none⟩=some (.int .i64 a0_1):=(blk_cell BK167.out 1).trans rfl;have hcz22_2:w20.cell? ⟨gb167,2,none⟩=some (.int .i64 a0_2):=(blk_cell BK167.out 2).trans rfl;have hcz22_3:w20.cell? ⟨gb167,3,none⟩=some (.string a0_3):=(blk_cell BK167.out 3).trans rfl;have hcz22_4:w20.cell? ⟨gb167,4,none⟩=some (.slice A0_4 l0_4.length c0_4):=(blk_cell BK167.out 4).trans rfl;have hcz22_5:w20.cell? ⟨gb167,5,none⟩=some (.slice A0_5 l0_5.length c0_5):=(blk_cell BK167.out 5).trans rfl;have hcz22_6:w20.cell? ⟨gb167,6,none⟩=some (.slice A0_6 l0_6.length c0_6):=(blk_cell BK167.out 6).trans rfl;have hfz22_0:=blk_frozen BK167.out 0;have hfz22_1:=blk_frozen BK167.out 1;have hfz22_2:=blk_frozen BK167.out 2;have hfz22_3:=blk_frozen BK167.out 3;have hfz22_4:=blk_frozen BK167.out 4;have hfz22_5:=blk_frozen BK167.out 5;have hfz22_6:=blk_frozen BK167.out 6)|((with_reducible refine gate_callee (f:=88) rfl ?_);refine goesL_ (some 18) rfl rfl Try.func88 (by kernel_rfl) rfl #[.int .i64 a0_1,.int .i64 8] rfl (by (try simp only [List.map_toArray,List.map_cons,List.map_nil]);first|done|rfl|(simp only [List.length_drop,List.length_take];rfl)) ?_;(with_reducible refine (latticeref01_Num.calls a0_1 8 t175 _ A6.out).mono ?_);rintro e w23 ⟨v176,rfl,ho0,hb⟩;refine ⟨_,rfl,?_⟩;have n0_:=Aside0.mk (Kd.R_elder' (by (with_reducible repeat (first|apply Kd.R_alloc|apply Kd.R_drewN|apply Kd.R_drew));exact HO171.out) (Kd.R_base ho0) hb);have n1_:=Aside0.mk (Kd.R_elder' (by (with_reducible repeat (first|apply Kd.R_alloc|apply Kd.R_drewN|apply Kd.R_drew));exact HO174.out) (Kd.R_base ho0) hb);have n2_:=Aside0.mk (Kd.R_lower (Kd.R_new' (Kd.R_new' ho0 (Kd.R_lt (by (with_reducible repeat (first|apply Kd.R_alloc|apply Kd.R_drewN|apply Kd.R_drew));exact HO171.out))) (Kd.R_lt (by (with_reducible repeat (first|apply Kd.R_alloc|apply Kd.R_drewN|apply Kd.R_drew));exact HO174.out))) (below_size (by repeat (first|(with_reducible first|exact HB.out|apply below_alloc|apply pw_below_drewN|apply below_drew1|refine below_set ?_ GE167.out)|exact HB.out))));have n3_:=Aside0.mk (blk_below (g:=gb167) (o:=.cells #[.int .i64 a0_0,.int .i64 a0_1,.int .i64 a0_2,.string a0_3,.slice A0_4 l0_4.length c0_4,.slice A0_5 l0_5.length c0_5,.slice A0_6 l0_6.length c0_6] 113 (0,0)) (by (with_reducible repeat (first|refine blk_drewN ?_ _|refine blk_drew ?_|refine blk_alloc ?_ _));exact BK167.out) hb);have n4_:=Aside0.mk (below_step (by repeat (first|(with_reducible first|exact HB.out|apply below_alloc|apply pw_below_drewN|apply below_drew1|refine below_set ?_ GE167.out)|exact HB.out)) hb);clear HO171;clear HO174;clear BK167;clear HB;have HO171:=n0_;have HO174:=n1_;have HO177:=n2_;have BK167:=n3_;have HB:=n4_;clear n0_ n1_ n2_ n3_ n4_;(try clear hb);(try clear hb2);(try clear hk);(try clear hi);(try clear ho0);obtain ⟨Ao25,co25,eo25⟩:=Kd.R_slice HO177.out;subst eo25)|((with_reducible refine gate_builtin (b:=.append) (xs:=#[.tmp 15,.tmp 18]) rfl ?_);at_builtin;refine Kd.R_append_rows (Kd.int .u8) (w0:=w) w.heap.size rfl (.tmp 15) (.tmp 18) 67 5 (.int .u8 0) 1 rfl Try.underlying67 info5 rfl (by decide) (by omega) v173 y172 t175 _ _ _ (fun k_=>some k_≠(.slice Ao21 t169.length co21:Value).ownBlock∧some k_≠(.slice Ao25 t175.length co25:Value).ownBlock) (fun _=>False) rfl rfl ?aO ?aR (fun _ _ h=>h) (fun _ h=>h.elim) ?aF ?aB ?aS ?aL ?_;(case aR=>repeat (first|exact (Kd.R_reads' HO177.out).2.2|(with_reducible refine Kd.C_alloc ?_ _)|(with_reducible refine Kd.C_drewN ?_ _)|(with_reducible refine Kd.C_drew ?_)));(case aB=>exact (by repeat (first|(with_reducible first|exact HB.out|apply below_alloc|apply pw_below_drewN|apply below_drew1|refine below_set ?_ GE167.out)|exact HB.out)));(case aF=>exact (fun k_ hk=>⟨Kd.fresh' (Kd.R_lt (by (with_reducible repeat (first|apply Kd.R_alloc|apply Kd.R_drewN|apply Kd.R_drew));exact HO171.out)) k_ hk,Kd.fresh' (Kd.R_lt (by (with_reducible repeat (first|apply Kd.R_alloc|apply Kd.R_drewN|apply Kd.R_drew));exact HO177.out)) k_ hk⟩));(case aO=>exact (by (with_reducible repeat (first|apply Kd.R_alloc|apply Kd.R_drewN|apply Kd.R_drew));exact HO174.out));(case aS=>exact (below_size (by repeat (first|(with_reducible first|exact HB.out|apply below_alloc|apply pw_below_drewN|apply below_drew1|refine below_set ?_ GE167.out)|exact HB.out))));(case aL=>have:=LMc7.out;omega);intro v179 w24 ho hb hg hat;rw [← Ny178.out] at ho;have n0_:=Aside0.mk (blk_grown (g:=gb167) (o:=.cells #[.int .i64 a0_0,.int .i64 a0_1,.int .i64 a0_2,.string a0_3,.slice A0_4 l0_4.length c0_4,.slice A0_5 l0_5.length c0_5,.slice A0_6 l0_6.length c0_6] 113 (0,0)) (by (with_reducible repeat (first|refine blk_drewN ?_ _|refine blk_drew ?_|refine blk_alloc ?_ _));exact BK167.out) hg (Kd.R_ne HO174.out BK167.out (by decide)));have n1_:=Aside0.mk (Kd.R_after (ok:=(fun k_=>some k_≠(.slice Ao25 t175.length co25:Value).ownBlock)) (by (with_reducible repeat (first|apply Kd.R_alloc|apply Kd.R_drewN|apply Kd.R_drew));exact Kd.R_mono HO171.out (fun _ hk=>⟨hk.2,hk.1.2⟩)) hg hat);have n2_:=Aside0.mk (Kd.R_after (ok:=(fun k_=>some k_≠(.slice Ao21 t169.length co21:Value).ownBlock)) (by (with_reducible repeat (first|apply Kd.R_alloc|apply Kd.R_drewN|apply Kd.R_drew));exact Kd.R_mono HO177.out (fun _ hk=>⟨hk.1.2,hk.2⟩)) hg hat);have n3_:=Aside0.mk (hb);have n4_:=Aside0.mk (ho);clear BK167;clear HO171;clear HO177;clear HB;clear HO174;have BK167:=n0_;have HO171:=n1_;have HO177:=n2_;have HB:=n3_;have HO180:=n4_;clear n0_ n1_ n2_ n3_ n4_;clear ho hb hg hat;have hcz26_0:w24.cell? ⟨gb167,0,none⟩=some (.int .i64 a0_0):=(blk_cell BK167.out 0).trans rfl;have hcz26_1:w24.cell? ⟨gb167,1,none⟩=some (.int .i64 a0_1):=(blk_cell BK167.out 1).trans rfl;have hcz26_2:w24.cell? ⟨gb167,2,none⟩=some (.int .i64 a0_2):=(blk_cell BK167.out 2).trans rfl;have hcz26_3:w24.cell? ⟨gb167,3,none⟩=some (.string a0_3):=(blk_cell BK167.out 3).trans rfl;have hcz26_4:w24.cell? ⟨gb167,4,none⟩=some (.slice A0_4 l0_4.length c0_4):=(blk_cell BK167.out 4).trans rfl;have hcz26_5:w24.cell? ⟨gb167,5,none⟩=some (.slice A0_5 l0_5.length c0_5):=(blk_cell BK167.out 5).trans rfl;have hcz26_6:w24.cell? ⟨gb167,6,none⟩=some (.slice A0_6 l0_6.length c0_6):=(blk_cell BK167.out 6).trans rfl;have hfz26_0:=blk_frozen BK167.out 0;have hfz26_1:=blk_frozen BK167.out 1;have hfz26_2:=blk_frozen BK167.out 2;have hfz26_3:=blk_frozen BK167.out 3;have hfz26_4:=blk_frozen BK167.out 4;have hfz26_5:=blk_frozen BK167.out 5;have hfz26_6:=blk_frozen BK167.out 6)|((with_reducible refine gate_callee (f:=88) rfl ?_);refine goesL_ (some 23) rfl rfl Try.func88 (by kernel_rfl) rfl #[.int .i64 a0_2,.int .i64 4] rfl (by (try simp only [List.map_toArray,List.map_cons,List.map_nil]);first|done|rfl|(simp only [List.length_drop,List.length_take];rfl)) ?_;(with_reducible refine (latticeref01_Num.calls a0_2 4 t181 _ A8.out).mono ?_);rintro e w27 ⟨v182,rfl,ho0,hb⟩;refine ⟨_,rfl,?_⟩;have n0_:=Aside0.mk (Kd.R_elder' (by (with_reducible repeat (first|apply Kd.R_alloc|apply Kd.R_drewN|apply Kd.R_drew));exact HO171.out) (Kd.R_base ho0) hb);have n1_:=Aside0.mk (Kd.R_elder' (by (with_reducible repeat (first|apply Kd.R_alloc|apply Kd.R_drewN|apply Kd.R_drew));exact HO177.out) (Kd.R_base ho0) hb);have n2_:=Aside0.mk (Kd.R_elder' (by (with_reducible repeat (first|apply Kd.R_alloc|apply Kd.R_drewN|apply Kd.R_drew));exact HO180.out) (Kd.R_base ho0) hb);have n3_:=Aside0.mk (Kd.R_lower (Kd.R_new' (Kd.R_new' (Kd.R_new' ho0 (Kd.R_lt (by (with_reducible repeat (first|apply Kd.R_alloc|apply Kd.R_drewN|apply Kd.R_drew));exact HO171.out))) (Kd.R_lt (by (with_reducible repeat (first|apply Kd.R_alloc|apply Kd.R_drewN|apply Kd.R_drew));exact HO177.out))) (Kd.R_lt (by (with_reducible repeat (first|apply Kd.R_alloc|apply Kd.R_drewN|apply Kd.R_drew));exact HO180.out))) (below_size (by repeat (first|(with_reducible first|exact HB.out|apply below_alloc|apply pw_below_drewN|apply below_drew1|refine below_set ?_ GE167.out)|exact HB.out))));have n4_:=Aside0.mk (blk_below (g:=gb167) (o:=.cells #[.int .i64 a0_0,.int .i64 a0_1,.int .i64 a0_2,.string a0_3,.slice A0_4 l0_4.length c0_4,.slice A0_5 l0_5.length c0_5,.slice A0_6 l0_6.length c0_6] 113 (0,0)) (by (with_reducible repeat (first|refine blk_drewN ?_ _|refine blk_drew ?_|refine blk_alloc ?_ _));exact BK167.out) hb);have n5_:=Aside0.mk (below_step (by repeat (first|(with_reducible first|exact HB.out|apply below_alloc|apply pw_below_drewN|apply below_drew1|refine below_set ?_ GE167.out)|exact HB.out)) hb);clear HO171;clear HO177;clear HO180;clear BK167;clear HB;have HO171:=n0_;have HO177:=n1_;have HO180:=n2_;have HO183:=n3_;have BK167:=n4_;have HB:=n5_;clear n0_ n1_ n2_ n3_ n4_ n5_;(try clear hb);(try clear hb2);(try clear hk);(try clear hi);(try clear ho0);obtain ⟨Ao29,co29,eo29⟩:=Kd.R_slice HO183.out;subst eo29)|((with_reducible refine gate_builtin (b:=.append) (xs:=#[.tmp 20,.tmp 23]) rfl ?_);at_builtin;refine Kd.R_append_rows (Kd.int .u8) (w0:=w) w.heap.size rfl (.tmp 20) (.tmp 23) 67 5 (.int .u8 0) 1 rfl Try.underlying67 info5 rfl (by decide) (by omega) v179 y178 t181 _ _ _ (fun k_=>some k_≠(.slice Ao21 t169.length co21:Value).ownBlock∧some k_≠(.slice Ao25 t175.length co25:Value).ownBlock∧some k_≠(.slice Ao29 t181.length co29:Value).ownBlock) (fun _=>False) rfl rfl ?aO ?aR (fun _ _ h=>h) (fun _ h=>h.elim) ?aF ?aB ?aS ?aL ?_;(case aR=>repeat (first|exact (Kd.R_reads' HO183.out).2.2|(with_reducible refine Kd.C_alloc ?_ _)|(with_reducible refine Kd.C_drewN ?_ _)|(with_reducible refine Kd.C_drew ?_)));(case aB=>exact (by repeat (first|(with_reducible first|exact HB.out|apply below_alloc|apply pw_below_drewN|apply below_drew1|refine below_set ?_ GE167.out)|exact HB.out)));(case aF=>exact (fun k_ hk=>⟨Kd.fresh' (Kd.R_lt (by (with_reducible repeat (first|apply Kd.R_alloc|apply Kd.R_drewN|apply Kd.R_drew));exact HO171.out)) k_ hk,Kd.fresh' (Kd.R_lt (by (with_reducible repeat (first|apply Kd.R_alloc|apply Kd.R_drewN|apply Kd.R_drew));exact HO177.out)) k_ hk,Kd.fresh' (Kd.R_lt (by (with_reducible repeat (first|apply Kd.R_alloc|apply Kd.R_drewN|apply Kd.R_drew));exact HO183.out)) k_ hk⟩));(case aO=>exact (by (with_reducible repeat (first|apply Kd.R_alloc|apply Kd.R_drewN|apply Kd.R_drew));exact Kd.R_mono HO180.out (fun _ hk=>⟨hk.1.1,⟨hk.1.2,hk.2⟩⟩)));(case aS=>exact (below_size (by repeat (first|(with_reducible first|exact HB.out|apply below_alloc|apply pw_below_drewN|apply below_drew1|refine below_set ?_ GE167.out)|exact HB.out))));(case aL=>have:=LMc9.out;omega);intro v185 w28 ho hb hg hat;rw [← Ny184.out] at ho;have n0_:=Aside0.mk (blk_grown (g:=gb167) (o:=.cells #[.int .i64 a0_0,.int .i64 a0_1,.int .i64 a0_2,.string a0_3,.slice A0_4 l0_4.length c0_4,.slice A0_5 l0_5.length c0_5,.slice A0_6 l0_6.length c0_6] 113 (0,0)) (by (with_reducible repeat (first|refine blk_drewN ?_ _|refine blk_drew ?_|refine blk_alloc ?_ _));exact BK167.out) hg (Kd.R_ne HO180.out BK167.out (by decide)));have n1_:=Aside0.mk (Kd.R_after (ok:=(fun k_=>some k_≠(.slice Ao25 t175.length co25:Value).ownBlock∧some k_≠(.slice Ao29 t181.length co29:Value).ownBlock)) (by (with_reducible repeat (first|apply Kd.R_alloc|apply Kd.R_drewN|apply Kd.R_drew));exact Kd.R_mono HO171.out (fun _ hk=>⟨⟨hk.1.1,hk.2⟩,hk.1.2⟩)) hg hat);have n2_:=Aside0.mk (Kd.R_after (ok:=(fun k_=>some k_≠(.slice Ao21 t169.length co21:Value).ownBlock∧some k_≠(.slice Ao29 t181.length co29:Value).ownBlock)) (by (with_reducible repeat (first|apply Kd.R_alloc|apply Kd.R_drewN|apply Kd.R_drew));exact Kd.R_mono HO177.out (fun _ hk=>⟨⟨hk.1.1,hk.2⟩,hk.1.2⟩)) hg hat);have n3_:=Aside0.mk (Kd.R_after (ok:=(fun k_=>some k_≠(.slice Ao21 t169.length co21:Value).ownBlock∧some k_≠(.slice Ao25 t175.length co25:Value).ownBlock)) (by (with_reducible repeat (first|apply Kd.R_alloc|apply Kd.R_drewN|apply Kd.R_drew));exact Kd.R_mono HO183.out (fun _ hk=>⟨⟨hk.1.1.2,hk.1.2⟩,hk.2⟩)) hg hat);have n4_:=Aside0.mk (hb);have n5_:=Aside0.mk (ho);clear BK167;clear HO171;clear HO177;clear HO183;clear HB;clear HO180;have BK167:=n0_;have HO171:=n1_;have HO177:=n2_;have HO183:=n3_;have HB:=n4_;have HO186:=n5_;clear n0_ n1_ n2_ n3_ n4_ n5_;clear ho hb hg hat;have hcz30_0:w28.cell? ⟨gb167,0,none⟩=some (.int .i64 a0_0):=(blk_cell BK167.out 0).trans rfl;have hcz30_1:w28.cell? ⟨gb167,1,none⟩=some (.int .i64 a0_1):=(blk_cell BK167.out 1).trans rfl;have hcz30_2:w28.cell? ⟨gb167,2,none⟩=some (.int .i64 a0_2):=(blk_cell BK167.out 2).trans rfl;have hcz30_3:w28.cell? ⟨gb167,3,none⟩=some (.string a0_3):=(blk_cell BK167.out 3).trans rfl;have hcz30_4:w28.cell? ⟨gb167,4,none⟩=some (.slice A0_4 l0_4.length c0_4):=(blk_cell BK167.out 4).trans rfl;have hcz30_5:w28.cell? ⟨gb167,5,none⟩=some (.slice A0_5 l0_5.length c0_5):=(blk_cell BK167.out 5).trans rfl;have hcz30_6:w28.cell? ⟨gb167,6,none⟩=some (.slice A0_6 l0_6.length c0_6):=(blk_cell BK167.out 6).trans rfl;have hfz30_0:=blk_frozen BK167.out 0;have hfz30_1:=blk_frozen BK167.out 1;have hfz30_2:=blk_frozen BK167.out 2;have hfz30_3:=blk_frozen BK167.out 3;have hfz30_4:=blk_frozen BK167.out 4;have hfz30_5:=blk_frozen BK167.out 5;have hfz30_6:=blk_frozen BK167.out 6)|((with_reducible refine gate_callee (f:=88) rfl ?_);refine goesL_ (some 29) rfl rfl Try.func88 (by kernel_rfl) rfl #[.int .i64 (l0_4.length:Int),.int .i64 2] rfl (by (try simp only [List.map_toArray,List.map_cons,List.map_nil]);first|done|rfl|(simp only [List.length_drop,List.length_take];rfl)) ?_;(with_reducible refine (latticeref01_Num.calls (l0_4.length:Int) 2 t187 _ A10.out).mono ?_);rintro e w31 ⟨v188,rfl,ho0,hb⟩;refine ⟨_,rfl,?_⟩;have n0_:=Aside0.mk (Kd.R_elder' (by (with_reducible repeat (first|apply Kd.R_alloc|apply Kd.R_drewN|apply Kd.R_drew));exact HO171.out) (Kd.R_base ho0) hb);have n1_:=Aside0.mk (Kd.R_elder' (by (with_reducible repeat (first|apply Kd.R_alloc|apply Kd.R_drewN|apply Kd.R_drew));exact HO177.out) (Kd.R_base ho0) hb);have n2_:=Aside0.mk (Kd.R_elder' (by (with_reducible repeat (first|apply Kd.R_alloc|apply Kd.R_drewN|apply Kd.R_drew));exact HO183.out) (Kd.R_base ho0) hb);have n3_:=Aside0.mk (Kd.R_elder' (by (with_reducible repeat (first|apply Kd.R_alloc|apply Kd.R_drewN|apply Kd.R_drew));exact HO186.out) (Kd.R_base ho0) hb);have n4_:=Aside0.mk (Kd.R_lower (Kd.R_new' (Kd.R_new' (Kd.R_new' (Kd.R_new' ho0 (Kd.R_lt (by (with_reducible repeat (first|apply Kd.R_alloc|apply Kd.R_drewN|apply Kd.R_drew));exact HO171.out))) (Kd.R_lt (by (with_reducible repeat (first|apply Kd.R_alloc|apply Kd.R_drewN|apply Kd.R_drew));exact HO177.out))) (Kd.R_lt (by (with_reducible repeat (first|apply Kd.R_alloc|apply Kd.R_drewN|apply Kd.R_drew));exact HO183.out))) (Kd.R_lt (by (with_reducible repeat (first|apply Kd.R_alloc|apply Kd.R_drewN|apply Kd.R_drew));exact HO186.out))) (below_size (by repeat (first|(with_reducible first|exact HB.out|apply below_alloc|apply pw_below_drewN|apply below_drew1|refine below_set ?_ GE167.out)|exact HB.out))));have n5_:=Aside0.mk (blk_below (g:=gb167) (o:=.cells #[.int .i64 a0_0,.int .i64 a0_1,.int .i64 a0_2,.string a0_3,.slice A0_4 l0_4.length c0_4,.slice A0_5 l0_5.length c0_5,.slice A0_6 l0_6.length c0_6] 113 (0,0)) (by (with_reducible repeat (first|refine blk_drewN ?_ _|refine blk_drew ?_|refine blk_alloc ?_ _));exact BK167.out) hb);have n6_:=Aside0.mk (below_step (by repeat (first|(with_reducible first|exact HB.out|apply below_alloc|apply pw_below_drewN|apply below_drew1|refine below_set ?_ GE167.out)|exact HB.out)) hb);clear HO171;clear HO177;clear HO183;clear HO186;clear BK167;clear HB;have HO171:=n0_;have HO177:=n1_;have HO183:=n2_;have HO186:=n3_;have HO189:=n4_;have BK167:=n5_;have HB:=n6_;clear n0_ n1_ n2_ n3_ n4_ n5_ n6_;(try clear hb);(try clear hb2);(try clear hk);(try clear hi);(try clear ho0);obtain ⟨Ao33,co33,eo33⟩:=Kd.R_slice HO189.out;subst eo33)|((with_reducible refine gate_builtin (b:=.append) (xs:=#[.tmp 25,.tmp 29]) rfl ?_);at_builtin;refine Kd.R_append_rows (Kd.int .u8) (w0:=w) w.heap.size rfl (.tmp 25) (.tmp 29) 67 5 (.int .u8 0) 1 rfl Try.underlying67 info5 rfl (by decide) (by omega) v185 y184 t187 _ _ _ (fun k_=>some k_≠(.slice Ao21 t169.length co21:Value).ownBlock∧some k_≠(.slice Ao25 t175.length co25:Value).ownBlock∧some k_≠(.slice Ao29 t181.length co29:Value).ownBlock∧some k_≠(.slice Ao33 t187.length co33:Value).ownBlock) (fun _=>False) rfl rfl ?aO ?aR (fun _ _ h=>h) (fun _ h=>h.elim) ?aF ?aB ?aS ?aL ?_;(case aR=>repeat (first|exact (Kd.R_reads' HO189.out).2.2|(with_reducible refine Kd.C_alloc ?_ _)|(with_reducible refine Kd.C_drewN ?_ _)|(with_reducible refine Kd.C_drew ?_)));(case aB=>exact (by repeat (first|(with_reducible first|exact HB.out|apply below_alloc|apply pw_below_drewN|apply below_drew1|refine below_set ?_ GE167.out)|exact HB.out)));(case aF=>exact (fun k_ hk=>⟨Kd.fresh' (Kd.R_lt (by (with_reducible repeat (first|apply Kd.R_alloc|apply Kd.R_drewN|apply Kd.R_drew));exact HO171.out)) k_ hk,Kd.fresh' (Kd.R_lt (by (with_reducible repeat (first|apply Kd.R_alloc|apply Kd.R_drewN|apply Kd.R_drew));exact HO177.out)) k_ hk,Kd.fresh' (Kd.R_lt (by (with_reducible repeat (first|apply Kd.R_alloc|apply Kd.R_drewN|apply Kd.R_drew));exact HO183.out)) k_ hk,Kd.fresh' (Kd.R_lt (by (with_reducible repeat (first|apply Kd.R_alloc|apply Kd.R_drewN|apply Kd.R_drew));exact HO189.out)) k_ hk⟩));(case aO=>exact (by (with_reducible repeat (first|apply Kd.R_alloc|apply Kd.R_drewN|apply Kd.R_drew));exact Kd.R_mono HO186.out (fun _ hk=>⟨hk.1.1,⟨hk.1.2.1,⟨hk.1.2.2,hk.2⟩⟩⟩)));(case aS=>exact (below_size (by repeat (first|(with_reducible first|exact HB.out|apply below_alloc|apply pw_below_drewN|apply below_drew1|refine below_set ?_ GE167.out)|exact HB.out))));(case aL=>have:=LMc11.out;omega);intro v191 w32 ho hb hg hat;rw [← Ny190.out] at ho;have n0_:=Aside0.mk (blk_grown (g:=gb167) (o:=.cells #[.int .i64 a0_0,.int .i64 a0_1,.int .i64 a0_2,.string a0_3,.slice A0_4 l0_4.length c0_4,.slice A0_5 l0_5.length c0_5,.slice A0_6 l0_6.length c0_6] 113 (0,0)) (by (with_reducible repeat (first|refine blk_drewN ?_ _|refine blk_drew ?_|refine blk_alloc ?_ _));exact BK167.out) hg (Kd.R_ne HO186.out BK167.out (by decide)));have n1_:=Aside0.mk (Kd.R_after (ok:=(fun k_=>some k_≠(.slice Ao25 t175.length co25:Value).ownBlock∧some k_≠(.slice Ao29 t181.length co29:Value).ownBlock∧some k_≠(.slice Ao33 t187.length co33:Value).ownBlock)) (by (with_reducible repeat (first|apply Kd.R_alloc|apply Kd.R_drewN|apply Kd.R_drew));exact Kd.R_mono HO171.out (fun _ hk=>⟨⟨hk.1.1.1,⟨hk.1.1.2,hk.2⟩⟩,hk.1.2⟩)) hg hat);have n2_:=Aside0.mk (Kd.R_after (ok:=(fun k_=>some k_≠(.slice Ao21 t169.length co21:Value).ownBlock∧some k_≠(.slice Ao29 t181.length co29:Value).ownBlock∧some k_≠(.slice Ao33 t187.length co33:Value).ownBlock)) (by (with_reducible repeat (first|apply Kd.R_alloc|apply Kd.R_drewN|apply Kd.R_drew));exact Kd.R_mono HO177.out (fun _ hk=>⟨⟨hk.1.1.1,⟨hk.1.1.2,hk.2⟩⟩,hk.1.2⟩)) hg hat);have n3_:=Aside0.mk (Kd.R_after (ok:=(fun k_=>some k_≠(.slice Ao21 t169.length co21:Value).ownBlock∧some k_≠(.slice Ao25 t175.length co25:Value).ownBlock∧some k_≠(.slice Ao33 t187.length co33:Value).ownBlock)) (by (with_reducible repeat (first|apply Kd.R_alloc|apply Kd.R_drewN|apply Kd.R_drew));exact Kd.R_mono HO183.out (fun _ hk=>⟨⟨hk.1.1.1,⟨hk.1.1.2,hk.2⟩⟩,hk.1.2⟩)) hg hat);have n4_:=Aside0.mk (Kd.R_after (ok:=(fun k_=>some k_≠(.slice Ao21 t169.length co21:Value).ownBlock∧some k_≠(.slice Ao25 t175.length co25:Value).ownBlock∧some k_≠(.slice Ao29 t181.length co29:Value).ownBlock)) (by (with_reducible repeat (first|apply Kd.R_alloc|apply Kd.R_drewN|apply Kd.R_drew));exact Kd.R_mono HO189.out (fun _ hk=>⟨⟨hk.1.1.1.2,⟨hk.1.1.2,hk.1.2⟩⟩,hk.2⟩)) hg hat);have n5_:=Aside0.mk (hb);have n6_:=Aside0.mk (ho);clear BK167;clear HO171;clear HO177;clear HO183;clear HO189;clear HB;clear HO186;have BK167:=n0_;have HO171:=n1_;have HO177:=n2_;have HO183:=n3_;have HO189:=n4_;have HB:=n5_;have HO192:=n6_;clear n0_ n1_ n2_ n3_ n4_ n5_ n6_;clear ho hb hg hat;have hcz34_0:w32.cell? ⟨gb167,0,none⟩=some (.int .i64 a0_0):=(blk_cell BK167.out 0).trans rfl;have hcz34_1:w32.cell? ⟨gb167,1,none⟩=some (.int .i64 a0_1):=(blk_cell BK167.out 1).trans rfl;have hcz34_2:w32.cell? ⟨gb167,2,none⟩=some (.int .i64 a0_2):=(blk_cell BK167.out 2).trans rfl;have hcz34_3:w32.cell? ⟨gb167,3,none⟩=some (.string a0_3):=(blk_cell BK167.out 3).trans rfl;have hcz34_4:w32.cell? ⟨gb167,4,none⟩=some (.slice A0_4 l0_4.length c0_4):=(blk_cell BK167.out 4).trans rfl;have hcz34_5:w32.cell? ⟨gb167,5,none⟩=some (.slice A0_5 l0_5.length c0_5):=(blk_cell BK167.out 5).trans rfl;have hcz34_6:w32.cell? ⟨gb167,6,none⟩=some (.slice A0_6 l0_6.length c0_6):=(blk_cell BK167.out 6).trans rfl;have hfz34_0:=blk_frozen BK167.out 0;have hfz34_1:=blk_frozen BK167.out 1;have hfz34_2:=blk_frozen BK167.out 2;have hfz34_3:=blk_frozen BK167.out 3;have hfz34_4:=blk_frozen BK167.out 4;have hfz34_5:=blk_frozen BK167.out 5;have hfz34_6:=blk_frozen BK167.out 6)|((with_reducible refine gate_callee (f:=89) rfl ?_);refine goesL_ (some 34) rfl rfl Try.func89 (by kernel_rfl) rfl #[.string a0_3] rfl (by (try simp only [List.map_toArray,List.map_cons,List.map_nil]);first|done|rfl|(simp only [List.length_drop,List.length_take];rfl)) ?_;(with_reducible refine (latticeref01_Text.calls a0_3 t193 _ A12.out).mono ?_);rintro e w35 ⟨v194,rfl,ho0,hb⟩;refine ⟨_,rfl,?_⟩;have n0_:=Aside0.mk (Kd.R_elder' (by (with_reducible repeat (first|apply Kd.R_alloc|apply Kd.R_drewN|apply Kd.R_drew));exact HO171.out) (Kd.R_base ho0) hb);have n1_:=Aside0.mk (Kd.R_elder' (by (with_reducible repeat (first|apply Kd.R_alloc|apply Kd.R_drewN|apply Kd.R_drew));exact HO177.out) (Kd.R_base ho0) hb);have n2_:=Aside0.mk (Kd.R_elder' (by (with_reducible repeat (first|apply Kd.R_alloc|apply Kd.R_drewN|apply Kd.R_drew));exact HO183.out) (Kd.R_base ho0) hb);have n3_:=Aside0.mk (Kd.R_elder' (by (with_reducible repeat (first|apply Kd.R_alloc|apply Kd.R_drewN|apply Kd.R_drew));exact HO189.out) (Kd.R_base ho0) hb);have n4_:=Aside0.mk (Kd.R_elder' (by (with_reducible repeat (first|apply Kd.R_alloc|apply Kd.R_drewN|apply Kd.R_drew));exact HO192.out) (Kd.R_base ho0) hb);have n5_:=Aside0.mk (Kd.R_lower (Kd.R_new' (Kd.R_new' (Kd.R_new' (Kd.R_new' (Kd.R_new' ho0 (Kd.R_lt (by (with_reducible repeat (first|apply Kd.R_alloc|apply Kd.R_drewN|apply Kd.R_drew));exact HO171.out))) (Kd.R_lt (by (with_reducible repeat (first|apply Kd.R_alloc|apply Kd.R_drewN|apply Kd.R_drew));exact HO177.out))) (Kd.R_lt (by (with_reducible repeat (first|apply Kd.R_alloc|apply Kd.R_drewN|apply Kd.R_drew));exact HO183.out))) (Kd.R_lt (by (with_reducible repeat (first|apply Kd.R_alloc|apply Kd.R_drewN|apply Kd.R_drew));exact HO189.out))) (Kd.R_lt (by (with_reducible repeat (first|apply Kd.R_alloc|apply Kd.R_drewN|apply Kd.R_drew));exact HO192.out))) (below_size (by repeat (first|(with_reducible first|exact HB.out|apply below_alloc|apply pw_below_drewN|apply below_drew1|refine below_set ?_ GE167.out)|exact HB.out))));have n6_:=Aside0.mk (blk_below (g:=gb167) (o:=.cells #[.int .i64 a0_0,.int .i64 a0_1,.int .i64 a0_2,.string a0_3,.slice A0_4 l0_4.length c0_4,.slice A0_5 l0_5.length c0_5,.slice A0_6 l0_6.length c0_6] 113 (0,0)) (by (with_reducible repeat (first|refine blk_drewN ?_ _|refine blk_drew ?_|refine blk_alloc ?_ _));exact BK167.out) hb);have n7_:=Aside0.mk (below_step (by repeat (first|(with_reducible first|exact HB.out|apply below_alloc|apply pw_below_drewN|apply below_drew1|refine below_set ?_ GE167.out)|exact HB.out)) hb);clear HO171;clear HO177;clear HO183;clear HO189;clear HO192;clear BK167;clear HB;have HO171:=n0_;have HO177:=n1_;have HO183:=n2_;have HO189:=n3_;have HO192:=n4_;have HO195:=n5_;have BK167:=n6_;have HB:=n7_;clear n0_ n1_ n2_ n3_ n4_ n5_ n6_ n7_;(try clear hb);(try clear hb2);(try clear hk);(try clear hi);(try clear ho0);obtain ⟨Ao37,co37,eo37⟩:=Kd.R_slice HO195.out;subst eo37)|((with_reducible refine gate_builtin (b:=.append) (xs:=#[.tmp 31,.tmp 34]) rfl ?_);at_builtin;refine Kd.R_append_rows (Kd.int .u8) (w0:=w) w.heap.size rfl (.tmp 31) (.tmp 34) 67 5 (.int .u8 0) 1 rfl Try.underlying67 info5 rfl (by decide) (by omega) v191 y190 t193 _ _ _ (fun k_=>some k_≠(.slice Ao21 t169.length co21:Value).ownBlock∧some k_≠(.slice Ao25 t175.length co25:Value).ownBlock∧some k_≠(.slice Ao29 t181.length co29:Value).ownBlock∧some k_≠(.slice Ao33 t187.length co33:Value).ownBlock∧some k_≠(.slice Ao37 t193.length co37:Value).ownBlock) (fun _=>False) rfl rfl ?aO ?aR (fun _ _ h=>h) (fun _ h=>h.elim) ?aF ?aB ?aS ?aL ?_;(case aR=>repeat (first|exact (Kd.R_reads' HO195.out).2.2|(with_reducible refine Kd.C_alloc ?_ _)|(with_reducible refine Kd.C_drewN ?_ _)|(with_reducible refine Kd.C_drew ?_)));(case aB=>exact (by repeat (first|(with_reducible first|exact HB.out|apply below_alloc|apply pw_below_drewN|apply below_drew1|refine below_set ?_ GE167.out)|exact HB.out)));(case aF=>exact (fun k_ hk=>⟨Kd.fresh' (Kd.R_lt (by (with_reducible repeat (first|apply Kd.R_alloc|apply Kd.R_drewN|apply Kd.R_drew));exact HO171.out)) k_ hk,Kd.fresh' (Kd.R_lt (by (with_reducible repeat (first|apply Kd.R_alloc|apply Kd.R_drewN|apply Kd.R_drew));exact HO177.out)) k_ hk,Kd.fresh' (Kd.R_lt (by (with_reducible repeat (first|apply Kd.R_alloc|apply Kd.R_drewN|apply Kd.R_drew));exact HO183.out)) k_ hk,Kd.fresh' (Kd.R_lt (by (with_reducible repeat (first|apply Kd.R_alloc|apply Kd.R_drewN|apply Kd.R_drew));exact HO189.out)) k_ hk,Kd.fresh' (Kd.R_lt (by (with_reducible repeat (first|apply Kd.R_alloc|apply Kd.R_drewN|apply Kd.R_drew));exact HO195.out)) k_ hk⟩));(case aO=>exact (by (with_reducible repeat (first|apply Kd.R_alloc|apply Kd.R_drewN|apply Kd.R_drew));exact Kd.R_mono HO192.out (fun _ hk=>⟨hk.1.1,⟨hk.1.2.1,⟨hk.1.2.2.1,⟨hk.1.2.2.2,hk.2⟩⟩⟩⟩)));(case aS=>exact (below_size (by repeat (first|(with_reducible first|exact HB.out|apply below_alloc|apply pw_below_drewN|apply below_drew1|refine below_set ?_ GE167.out)|exact HB.out))));(case aL=>have:=LMc13.out;omega);intro v197 w36 ho hb hg hat;rw [← Ny196.out] at ho;have n0_:=Aside0.mk (blk_grown (g:=gb167) (o:=.cells #[.int .i64 a0_0,.int .i64 a0_1,.int .i64 a0_2,.string a0_3,.slice A0_4 l0_4.length c0_4,.slice A0_5 l0_5.length c0_5,.slice A0_6 l0_6.length c0_6] 113 (0,0)) (by (with_reducible repeat (first|refine blk_drewN ?_ _|refine blk_drew ?_|refine blk_alloc ?_ _));exact BK167.out) hg (Kd.R_ne HO192.out BK167.out (by decide)));have n1_:=Aside0.mk (Kd.R_after (ok:=(fun k_=>some k_≠(.slice Ao25 t175.length co25:Value).ownBlock∧some k_≠(.slice Ao29 t181.length co29:Value).ownBlock∧some k_≠(.slice Ao33 t187.length co33:Value).ownBlock∧some k_≠(.slice Ao37 t193.length co37:Value).ownBlock)) (by (with_reducible repeat (first|apply Kd.R_alloc|apply Kd.R_drewN|apply Kd.R_drew));exact Kd.R_mono HO171.out (fun _ hk=>⟨⟨hk.1.1.1,⟨hk.1.1.2.1,⟨hk.1.1.2.2,hk.2⟩⟩⟩,hk.1.2⟩)) hg hat);have n2_:=Aside0.mk (Kd.R_after (ok:=(fun k_=>some k_≠(.slice Ao21 t169.length co21:Value).ownBlock∧some k_≠(.slice Ao29 t181.length co29:Value).ownBlock∧some k_≠(.slice Ao33 t187.length co33:Value).ownBlock∧some k_≠(.slice Ao37 t193.length co37:Value).ownBlock)) (by (with_reducible repeat (first|apply Kd.R_alloc|apply Kd.R_drewN|apply Kd.R_drew));exact Kd.R_mono HO177.out (fun _ hk=>⟨⟨hk.1.1.1,⟨hk.1.1.2.1,⟨hk.1.1.2.2,hk.2⟩⟩⟩,hk.1.2⟩)) hg hat);have n3_:=Aside0.mk (Kd.R_after (ok:=(fun k_=>some k_≠(.slice Ao21 t169.length co21:Value).ownBlock∧some k_≠(.slice Ao25 t175.length co25:Value).ownBlock∧some k_≠(.slice Ao33 t187.length co33:Value).ownBlock∧some k_≠(.slice Ao37 t193.length co37:Value).ownBlock)) (by (with_reducible repeat (first|apply Kd.R_alloc|apply Kd.R_drewN|apply Kd.R_drew));exact Kd.R_mono HO183.out (fun _ hk=>⟨⟨hk.1.1.1,⟨hk.1.1.2.1,⟨hk.1.1.2.2,hk.2⟩⟩⟩,hk.1.2⟩)) hg hat);have n4_:=Aside0.mk (Kd.R_after (ok:=(fun k_=>some k_≠(.slice Ao21 t169.length co21:Value).ownBlock∧some k_≠(.slice Ao25 t175.length co25:Value).ownBlock∧some k_≠(.slice Ao29 t181.length co29:Value).ownBlock∧some k_≠(.slice Ao37 t193.length co37:Value).ownBlock)) (by (with_reducible repeat (first|apply Kd.R_alloc|apply Kd.R_drewN|apply Kd.R_drew));exact Kd.R_mono HO189.out (fun _ hk=>⟨⟨hk.1.1.1,⟨hk.1.1.2.1,⟨hk.1.1.2.2,hk.2⟩⟩⟩,hk.1.2⟩)) hg hat);have n5_:=Aside0.mk (Kd.R_after (ok:=(fun k_=>some k_≠(.slice Ao21 t169.length co21:Value).ownBlock∧some k_≠(.slice Ao25 t175.length co25:Value).ownBlock∧some k_≠(.slice Ao29 t181.length co29:Value).ownBlock∧some k_≠(.slice Ao33 t187.length co33:Value).ownBlock)) (by (with_reducible repeat (first|apply Kd.R_alloc|apply Kd.R_drewN|apply Kd.R_drew));exact Kd.R_mono HO195.out (fun _ hk=>⟨⟨hk.1.1.1.1.2,⟨hk.1.1.1.2,⟨hk.1.1.2,hk.1.2⟩⟩⟩,hk.2⟩)) hg hat);have n6_:=Aside0.mk (hb);have n7_:=Aside0.mk (ho);clear BK167;clear HO171;clear HO177;clear HO183;clear HO189;clear HO195;clear HB;clear HO192;have BK167:=n0_;have HO171:=n1_;have HO177:=n2_;have HO183:=n3_;have HO189:=n4_;have HO195:=n5_;have HB:=n6_;have HO198:=n7_;clear n0_ n1_ n2_ n3_ n4_ n5_ n6_ n7_;clear ho hb hg hat;have hcz38_0:w36.cell? ⟨gb167,0,none⟩=some (.int .i64 a0_0):=(blk_cell BK167.out 0).trans rfl;have hcz38_1:w36.cell? ⟨gb167,1,none⟩=some (.int .i64 a0_1):=(blk_cell BK167.out 1).trans rfl;have hcz38_2:w36.cell? ⟨gb167,2,none⟩=some (.int .i64 a0_2):=(blk_cell BK167.out 2).trans rfl;have hcz38_3:w36.cell? ⟨gb167,3,none⟩=some (.string a0_3):=(blk_cell BK167.out 3).trans rfl;have hcz38_4:w36.cell? ⟨gb167,4,none⟩=some (.slice A0_4 l0_4.length c0_4):=(blk_cell BK167.out 4).trans rfl;have hcz38_5:w36.cell? ⟨gb167,5,none⟩=some (.slice A0_5 l0_5.length c0_5):=(blk_cell BK167.out 5).trans rfl;have hcz38_6:w36.cell? ⟨gb167,6,none⟩=some (.slice A0_6 l0_6.length c0_6):=(blk_cell BK167.out 6).trans rfl;have hfz38_0:=blk_frozen BK167.out 0;have hfz38_1:=blk_frozen BK167.out 1;have hfz38_2:=blk_frozen BK167.out 2;have hfz38_3:=blk_frozen BK167.out 3;have hfz38_4:=blk_frozen BK167.out 4;have hfz38_5:=blk_frozen BK167.out 5;have hfz38_6:=blk_frozen BK167.out 6))
       (try simp only [Act.put,List.setIfInBounds_toArray,List.set_cons_zero,List.set_cons_succ])
       go_cut [4] (fun v4 wc=>∃ (kq:Nat) (x4_13:List Int),Aside0 (latticeref06_Encode.j0 kq x4_13 a0_0 a0_1 a0_2 a0_3 l0_4 l0_5 l0_6=some (r1,r2))∧Aside0 (kq≤k)∧Aside0 (Kd.R (Kd.int .u8) 5 wc w.heap.size (fun _=>True) v4 x4_13)∧Aside0 (wc.heap[gb167]?=some (.cells #[.int .i64 a0_0,.int .i64 a0_1,.int .i64 a0_2,.string a0_3,(.slice A0_4 l0_4.length c0_4),(.slice A0_5 l0_5.length c0_5),(.slice A0_6 l0_6.length c0_6)] 113 (0,0)))∧Aside0 (Below w.heap.size w wc))
       case first =>
        have H:=HC14.out
        clear HC14
        by_cases c39:a0_0 > 0
        ·rw [if_pos c39] at H
         have c39b0:decide (0 < a0_0)=true:=decide_eq_true c39
         clear c39
         (first|rw [c39b0]|(simp only [i64_w,i32_w];rw [c39b0])|skip)
         by_cases c40:0 < (l0_6.length:Int)
         ·rw [if_pos c40] at H
          have c40b0:decide (0 < (l0_6.length:Int))=true:=decide_eq_true c40
          have c40b1:decide (0 < l0_6.length)=true:=decide_eq_true (by omega)
          clear c40
          replace H:=Option.bind_eq_some_iff.mp H
          obtain ⟨t200,A410,H⟩:=H
          try dsimp only at H
          have A41:=Aside0.mk A410
          clear A410
          by_cases c42:y196.length+t200.length < 140737488355328
          ·rw [if_pos c42] at H
           have LMc42:=Aside0.mk c42
           clear c42
           obtain ⟨y203,hy203⟩:∃ y_:List Int,y_=(y196++t200):=⟨_,rfl⟩
           replace H:(latticeref06_Encode.j0 k y203 a0_0 a0_1 a0_2 a0_3 l0_4 l0_5 l0_6)=some (r1,r2):=by first|(rw [hy203];with_reducible exact H)|(have H2_:=(Option.bind_some _ _).symm.trans H;rw [hy203];with_reducible exact H2_)|(have H2_:=(Option.bind_some _ _).symm.trans H;with_reducible exact H2_)|with_reducible exact H|(rw [hy203];exact H)|exact H
           have Ny203:=Aside0.mk hy203
           clear hy203
           have H':=Aside0.mk H
           clear H
           have hcz43_0:w36.cell? ⟨gb167,0,none⟩=some (.int .i64 a0_0):=(blk_cell BK167.out 0).trans rfl
           have hcz43_1:w36.cell? ⟨gb167,1,none⟩=some (.int .i64 a0_1):=(blk_cell BK167.out 1).trans rfl
           have hcz43_2:w36.cell? ⟨gb167,2,none⟩=some (.int .i64 a0_2):=(blk_cell BK167.out 2).trans rfl
           have hcz43_3:w36.cell? ⟨gb167,3,none⟩=some (.string a0_3):=(blk_cell BK167.out 3).trans rfl
           have hcz43_4:w36.cell? ⟨gb167,4,none⟩=some (.slice A0_4 l0_4.length c0_4):=(blk_cell BK167.out 4).trans rfl
           have hcz43_5:w36.cell? ⟨gb167,5,none⟩=some (.slice A0_5 l0_5.length c0_5):=(blk_cell BK167.out 5).trans rfl
           have hcz43_6:w36.cell? ⟨gb167,6,none⟩=some (.slice A0_6 l0_6.length c0_6):=(blk_cell BK167.out 6).trans rfl
           have hfz43_0:=blk_frozen BK167.out 0
           have hfz43_1:=blk_frozen BK167.out 1
           have hfz43_2:=blk_frozen BK167.out 2
           have hfz43_3:=blk_frozen BK167.out 3
           have hfz43_4:=blk_frozen BK167.out 4
           have hfz43_5:=blk_frozen BK167.out 5
           have hfz43_6:=blk_frozen BK167.out 6
           have p199:0≤(0:Int):=(by omega)
           have q199:0 < (l0_6.length:Int):=of_decide_eq_true (by first|(with_reducible assumption)|assumption)
           obtain ⟨ad199,e199,hx199_0⟩:=Kd.at_int HR0_6.out 0 p199 q199
           cases e199
           have qi199:(0 < l0_6.length)=True:=eq_true (by omega)
           (try rw [show ((0:Int)).toNat=0 from rfl] at hx199_0)
           (try rw [Addr.add_zero'] at hx199_0)
           replace hx199_0:=(HB.out.cell (World.block_lt_of_cell? w _ hx199_0)).trans hx199_0
           replace p199:=eq_true p199
           replace q199:=eq_true q199
           go_wp2_with (first|((with_reducible refine gate_callee (f:=88) rfl ?_);refine goesL_ (some 44) rfl rfl Try.func88 (by kernel_rfl) rfl #[.int .i64 (rd l0_6 0),.int .i64 4] rfl (by (try simp only [List.map_toArray,List.map_cons,List.map_nil]);first|done|rfl|(simp only [List.length_drop,List.length_take];rfl)) ?_;(with_reducible refine (latticeref01_Num.calls (rd l0_6 0) 4 t200 _ A41.out).mono ?_);rintro e w44 ⟨v201,rfl,ho0,hb⟩;refine ⟨_,rfl,?_⟩;have n0_:=Aside0.mk (Kd.R_elder' (by (with_reducible repeat (first|apply Kd.R_alloc|apply Kd.R_drewN|apply Kd.R_drew));exact HO171.out) (Kd.R_base ho0) hb);have n1_:=Aside0.mk (Kd.R_elder' (by (with_reducible repeat (first|apply Kd.R_alloc|apply Kd.R_drewN|apply Kd.R_drew));exact HO177.out) (Kd.R_base ho0) hb);have n2_:=Aside0.mk (Kd.R_elder' (by (with_reducible repeat (first|apply Kd.R_alloc|apply Kd.R_drewN|apply Kd.R_drew));exact HO183.out) (Kd.R_base ho0) hb);have n3_:=Aside0.mk (Kd.R_elder' (by (with_reducible repeat (first|apply Kd.R_alloc|apply Kd.R_drewN|apply Kd.R_drew));exact HO189.out) (Kd.R_base ho0) hb);have n4_:=Aside0.mk (Kd.R_elder' (by (with_reducible repeat (first|apply Kd.R_alloc|apply Kd.R_drewN|apply Kd.R_drew));exact HO195.out) (Kd.R_base ho0) hb);have n5_:=Aside0.mk (Kd.R_elder' (by (with_reducible repeat (first|apply Kd.R_alloc|apply Kd.R_drewN|apply Kd.R_drew));exact HO198.out) (Kd.R_base ho0) hb);have n6_:=Aside0.mk (Kd.R_lower (Kd.R_new' (Kd.R_new' (Kd.R_new' (Kd.R_new' (Kd.R_new' (Kd.R_new' ho0 (Kd.R_lt (by (with_reducible repeat (first|apply Kd.R_alloc|apply Kd.R_drewN|apply Kd.R_drew));exact HO171.out))) (Kd.R_lt (by (with_reducible repeat (first|apply Kd.R_alloc|apply Kd.R_drewN|apply Kd.R_drew));exact HO177.out))) (Kd.R_lt (by (with_reducible repeat (first|apply Kd.R_alloc|apply Kd.R_drewN|apply Kd.R_drew));exact HO183.out))) (Kd.R_lt (by (with_reducible repeat (first|apply Kd.R_alloc|apply Kd.R_drewN|apply Kd.R_drew));exact HO189.out))) (Kd.R_lt (by (with_reducible repeat (first|apply Kd.R_alloc|apply Kd.R_drewN|apply Kd.R_drew));exact HO195.out))) (Kd.R_lt (by (with_reducible repeat (first|apply Kd.R_alloc|apply Kd.R_drewN|apply Kd.R_drew));exact HO198.out))) (below_size (by repeat (first|(with_reducible first|exact HB.out|apply below_alloc|apply pw_below_drewN|apply below_drew1|refine below_set ?_ GE167.out)|exact HB.out))));have n7_:=Aside0.mk (blk_below (g:=gb167) (o:=.cells #[.int .i64 a0_0,.int .i64 a0_1,.int .i64 a0_2,.string a0_3,.slice A0_4 l0_4.length c0_4,.slice A0_5 l0_5.length c0_5,.slice (some ad199) l0_6.length c0_6] 113 (0,0)) (by (with_reducible repeat (first|refine blk_drewN ?_ _|refine blk_drew ?_|refine blk_alloc ?_ _));exact BK167.out) hb);have n8_:=Aside0.mk (below_step (by repeat (first|(with_reducible first|exact HB.out|apply below_alloc|apply pw_below_drewN|apply below_drew1|refine below_set ?_ GE167.out)|exact HB.out)) hb);clear HO171;clear HO177;clear HO183;clear HO189;clear HO195;clear HO198;clear BK167;clear HB;have HO171:=n0_;have HO177:=n1_;have HO183:=n2_;have HO189:=n3_;have HO195:=n4_;have HO198:=n5_;have HO202:=n6_;have BK167:=n7_;have HB:=n8_;clear n0_ n1_ n2_ n3_ n4_ n5_ n6_ n7_ n8_;(try clear hb);(try clear hb2);(try clear hk);(try clear hi);(try clear ho0);obtain ⟨Ao46,co46,eo46⟩:=Kd.R_slice HO202.out;subst eo46)|((with_reducible refine gate_builtin (b:=.append) (xs:=#[.tmp 39,.tmp 44]) rfl ?_);at_builtin;refine Kd.R_append_rows (Kd.int .u8) (w0:=w) w.heap.size rfl (.tmp 39) (.tmp 44) 67 5 (.int .u8 0) 1 rfl Try.underlying67 info5 rfl (by decide) (by omega) v197 y196 t200 _ _ _ (fun k_=>some k_≠(.slice Ao21 t169.length co21:Value).ownBlock∧some k_≠(.slice Ao25 t175.length co25:Value).ownBlock∧some k_≠(.slice Ao29 t181.length co29:Value).ownBlock∧some k_≠(.slice Ao33 t187.length co33:Value).ownBlock∧some k_≠(.slice Ao37 t193.length co37:Value).ownBlock∧some k_≠(.slice Ao46 t200.length co46:Value).ownBlock) (fun _=>False) rfl rfl ?aO ?aR (fun _ _ h=>h) (fun _ h=>h.elim) ?aF ?aB ?aS ?aL ?_;(case aR=>repeat (first|exact (Kd.R_reads' HO202.out).2.2|(with_reducible refine Kd.C_alloc ?_ _)|(with_reducible refine Kd.C_drewN ?_ _)|(with_reducible refine Kd.C_drew ?_)));(case aB=>exact (by repeat (first|(with_reducible first|exact HB.out|apply below_alloc|apply pw_below_drewN|apply below_drew1|refine below_set ?_ GE167.out)|exact HB.out)));(case aF=>exact (fun k_ hk=>⟨Kd.fresh' (Kd.R_lt (by (with_reducible repeat (first|apply Kd.R_alloc|apply Kd.R_drewN|apply Kd.R_drew));exact HO171.out)) k_ hk,Kd.fresh' (Kd.R_lt (by (with_reducible repeat (first|apply Kd.R_alloc|apply Kd.R_drewN|apply Kd.R_drew));exact HO177.out)) k_ hk,Kd.fresh' (Kd.R_lt (by (with_reducible repeat (first|apply Kd.R_alloc|apply Kd.R_drewN|apply Kd.R_drew));exact HO183.out)) k_ hk,Kd.fresh' (Kd.R_lt (by (with_reducible repeat (first|apply Kd.R_alloc|apply Kd.R_drewN|apply Kd.R_drew));exact HO189.out)) k_ hk,Kd.fresh' (Kd.R_lt (by (with_reducible repeat (first|apply Kd.R_alloc|apply Kd.R_drewN|apply Kd.R_drew));exact HO195.out)) k_ hk,Kd.fresh' (Kd.R_lt (by (with_reducible repeat (first|apply Kd.R_alloc|apply Kd.R_drewN|apply Kd.R_drew));exact HO202.out)) k_ hk⟩));(case aO=>exact (by (with_reducible repeat (first|apply Kd.R_alloc|apply Kd.R_drewN|apply Kd.R_drew));exact Kd.R_mono HO198.out (fun _ hk=>⟨hk.1.1,⟨hk.1.2.1,⟨hk.1.2.2.1,⟨hk.1.2.2.2.1,⟨hk.1.2.2.2.2,hk.2⟩⟩⟩⟩⟩)));(case aS=>exact (below_size (by repeat (first|(with_reducible first|exact HB.out|apply below_alloc|apply pw_below_drewN|apply below_drew1|refine below_set ?_ GE167.out)|exact HB.out))));(case aL=>have:=LMc42.out;omega);intro v204 w45 ho hb hg hat;rw [← Ny203.out] at ho;have n0_:=Aside0.mk (blk_grown (g:=gb167) (o:=.cells #[.int .i64 a0_0,.int .i64 a0_1,.int .i64 a0_2,.string a0_3,.slice A0_4 l0_4.length c0_4,.slice A0_5 l0_5.length c0_5,.slice (some ad199) l0_6.length c0_6] 113 (0,0)) (by (with_reducible repeat (first|refine blk_drewN ?_ _|refine blk_drew ?_|refine blk_alloc ?_ _));exact BK167.out) hg (Kd.R_ne HO198.out BK167.out (by decide)));have n1_:=Aside0.mk (Kd.R_after (ok:=(fun k_=>some k_≠(.slice Ao25 t175.length co25:Value).ownBlock∧some k_≠(.slice Ao29 t181.length co29:Value).ownBlock∧some k_≠(.slice Ao33 t187.length co33:Value).ownBlock∧some k_≠(.slice Ao37 t193.length co37:Value).ownBlock∧some k_≠(.slice Ao46 t200.length co46:Value).ownBlock)) (by (with_reducible repeat (first|apply Kd.R_alloc|apply Kd.R_drewN|apply Kd.R_drew));exact Kd.R_mono HO171.out (fun _ hk=>⟨⟨hk.1.1.1,⟨hk.1.1.2.1,⟨hk.1.1.2.2.1,⟨hk.1.1.2.2.2,hk.2⟩⟩⟩⟩,hk.1.2⟩)) hg hat);have n2_:=Aside0.mk (Kd.R_after (ok:=(fun k_=>some k_≠(.slice Ao21 t169.length co21:Value).ownBlock∧some k_≠(.slice Ao29 t181.length co29:Value).ownBlock∧some k_≠(.slice Ao33 t187.length co33:Value).ownBlock∧some k_≠(.slice Ao37 t193.length co37:Value).ownBlock∧some k_≠(.slice Ao46 t200.length co46:Value).ownBlock)) (by (with_reducible repeat (first|apply Kd.R_alloc|apply Kd.R_drewN|apply Kd.R_drew));exact Kd.R_mono HO177.out (fun _ hk=>⟨⟨hk.1.1.1,⟨hk.1.1.2.1,⟨hk.1.1.2.2.1,⟨hk.1.1.2.2.2,hk.2⟩⟩⟩⟩,hk.1.2⟩)) hg hat);have n3_:=Aside0.mk (Kd.R_after (ok:=(fun k_=>some k_≠(.slice Ao21 t169.length co21:Value).ownBlock∧some k_≠(.slice Ao25 t175.length co25:Value).ownBlock∧some k_≠(.slice Ao33 t187.length co33:Value).ownBlock∧some k_≠(.slice Ao37 t193.length co37:Value).ownBlock∧some k_≠(.slice Ao46 t200.length co46:Value).ownBlock)) (by (with_reducible repeat (first|apply Kd.R_alloc|apply Kd.R_drewN|apply Kd.R_drew));exact Kd.R_mono HO183.out (fun _ hk=>⟨⟨hk.1.1.1,⟨hk.1.1.2.1,⟨hk.1.1.2.2.1,⟨hk.1.1.2.2.2,hk.2⟩⟩⟩⟩,hk.1.2⟩)) hg hat);have n4_:=Aside0.mk (Kd.R_after (ok:=(fun k_=>some k_≠(.slice Ao21 t169.length co21:Value).ownBlock∧some k_≠(.slice Ao25 t175.length co25:Value).ownBlock∧some k_≠(.slice Ao29 t181.length co29:Value).ownBlock∧some k_≠(.slice Ao37 t193.length co37:Value).ownBlock∧some k_≠(.slice Ao46 t200.length co46:Value).ownBlock)) (by (with_reducible repeat (first|apply Kd.R_alloc|apply Kd.R_drewN|apply Kd.R_drew));exact Kd.R_mono HO189.out (fun _ hk=>⟨⟨hk.1.1.1,⟨hk.1.1.2.1,⟨hk.1.1.2.2.1,⟨hk.1.1.2.2.2,hk.2⟩⟩⟩⟩,hk.1.2⟩)) hg hat);have n5_:=Aside0.mk (Kd.R_after (ok:=(fun k_=>some k_≠(.slice Ao21 t169.length co21:Value).ownBlock∧some k_≠(.slice Ao25 t175.length co25:Value).ownBlock∧some k_≠(.slice Ao29 t181.length co29:Value).ownBlock∧some k_≠(.slice Ao33 t187.length co33:Value).ownBlock∧some k_≠(.slice Ao46 t200.length co46:Value).ownBlock)) (by (with_reducible repeat (first|apply Kd.R_alloc|apply Kd.R_drewN|apply Kd.R_drew));exact Kd.R_mono HO195.out (fun _ hk=>⟨⟨hk.1.1.1,⟨hk.1.1.2.1,⟨hk.1.1.2.2.1,⟨hk.1.1.2.2.2,hk.2⟩⟩⟩⟩,hk.1.2⟩)) hg hat);have n6_:=Aside0.mk (Kd.R_after (ok:=(fun k_=>some k_≠(.slice Ao21 t169.length co21:Value).ownBlock∧some k_≠(.slice Ao25 t175.length co25:Value).ownBlock∧some k_≠(.slice Ao29 t181.length co29:Value).ownBlock∧some k_≠(.slice Ao33 t187.length co33:Value).ownBlock∧some k_≠(.slice Ao37 t193.length co37:Value).ownBlock)) (by (with_reducible repeat (first|apply Kd.R_alloc|apply Kd.R_drewN|apply Kd.R_drew));exact Kd.R_mono HO202.out (fun _ hk=>⟨⟨hk.1.1.1.1.1.2,⟨hk.1.1.1.1.2,⟨hk.1.1.1.2,⟨hk.1.1.2,hk.1.2⟩⟩⟩⟩,hk.2⟩)) hg hat);have n7_:=Aside0.mk (hb);have n8_:=Aside0.mk (ho);clear BK167;clear HO171;clear HO177;clear HO183;clear HO189;clear HO195;clear HO202;clear HB;clear HO198;have BK167:=n0_;have HO171:=n1_;have HO177:=n2_;have HO183:=n3_;have HO189:=n4_;have HO195:=n5_;have HO202:=n6_;have HB:=n7_;have HO205:=n8_;clear n0_ n1_ n2_ n3_ n4_ n5_ n6_ n7_ n8_;clear ho hb hg hat))
           go_meet
           case rel=>exact ⟨_,(y203),H',⟨by first|omega|exact Nat.le_refl _⟩,⟨by (with_reducible repeat (first|apply Kd.R_alloc|apply Kd.R_drewN|apply Kd.R_drew));exact Kd.R_mono HO205.out (fun _ hk=>trivial)⟩,⟨by (with_reducible repeat (first|refine blk_drewN ?_ _|refine blk_drew ?_|refine blk_alloc ?_ _));exact BK167.out⟩,⟨by repeat (first|(with_reducible first|exact HB.out|apply below_alloc|apply pw_below_drewN|apply below_drew1|refine below_set ?_ GE167.out)|exact HB.out)⟩⟩
          ·rw [if_neg c42] at H
           exact absurd H (by simp)
         ·rw [if_neg c40] at H
          exact absurd H (by simp)
        ·rw [if_neg c39] at H
         have c39b0:decide (0 < a0_0)=false:=decide_eq_false c39
         clear c39
         (first|rw [c39b0]|(simp only [i64_w,i32_w];rw [c39b0])|skip)
         have H':=Aside0.mk H
         clear H
         go_wp2
         go_meet
         case rel=>exact ⟨_,(y196),H',⟨by first|omega|exact Nat.le_refl _⟩,⟨by (with_reducible repeat (first|apply Kd.R_alloc|apply Kd.R_drewN|apply Kd.R_drew));exact Kd.R_mono HO198.out (fun _ hk=>trivial)⟩,⟨by (with_reducible repeat (first|refine blk_drewN ?_ _|refine blk_drew ?_|refine blk_alloc ?_ _));exact BK167.out⟩,⟨by repeat (first|(with_reducible first|exact HB.out|apply below_alloc|apply pw_below_drewN|apply below_drew1|refine below_set ?_ GE167.out)|exact HB.out)⟩⟩
       case rest =>
        clear HC14
        try clear c1
        try clear p1
        try clear q1
        try clear hx1
        try clear qi1
        try clear p2
        try clear c3
        try clear c4
        try clear c5
        try clear c7
        try clear c8
        try clear c9
        try clear c10
        try clear c11
        try clear c13
        try clear p19
        try clear q19
        try clear hx19
        try clear qi19
        try clear c39
        try clear c39b0
        try clear c40
        try clear c40b0
        try clear c40b1
        try clear c42
        try clear hcz16_0
        try clear hcz16_1
        try clear hcz16_2
        try clear hcz16_3
        try clear hcz16_4
        try clear hcz16_5
        try clear hcz16_6
        try clear hcz18_0
        try clear hcz18_1
        try clear hcz18_2
        try clear hcz18_3
        try clear hcz18_4
        try clear hcz18_5
        try clear hcz18_6
        try clear hcz22_0
        try clear hcz22_1
        try clear hcz22_2
        try clear hcz22_3
        try clear hcz22_4
        try clear hcz22_5
        try clear hcz22_6
        try clear hcz26_0
        try clear hcz26_1
        try clear hcz26_2
        try clear hcz26_3
        try clear hcz26_4
        try clear hcz26_5
        try clear hcz26_6
        try clear hcz30_0
        try clear hcz30_1
        try clear hcz30_2
        try clear hcz30_3
        try clear hcz30_4
        try clear hcz30_5
        try clear hcz30_6
        try clear hcz34_0
        try clear hcz34_1
        try clear hcz34_2
        try clear hcz34_3
        try clear hcz34_4
        try clear hcz34_5
        try clear hcz34_6
        try clear hcz38_0
        try clear hcz38_1
        try clear hcz38_2
        try clear hcz38_3
        try clear hcz38_4
        try clear hcz38_5
        try clear hcz38_6
        try clear hcz43_0
        try clear hcz43_1
        try clear hcz43_2
        try clear hcz43_3
        try clear hcz43_4
        try clear hcz43_5
        try clear hcz43_6
        try clear hfz16_0
        try clear hfz16_1
        try clear hfz16_2
        try clear hfz16_3
        try clear hfz16_4
        try clear hfz16_5
        try clear hfz16_6
        try clear hfz18_0
        try clear hfz18_1
        try clear hfz18_2
        try clear hfz18_3
        try clear hfz18_4
        try clear hfz18_5
        try clear hfz18_6
        try clear hfz22_0
        try clear hfz22_1
        try clear hfz22_2
        try clear hfz22_3
        try clear hfz22_4
        try clear hfz22_5
        try clear hfz22_6
        try clear hfz26_0
        try clear hfz26_1
        try clear hfz26_2
        try clear hfz26_3
        try clear hfz26_4
        try clear hfz26_5
        try clear hfz26_6
        try clear hfz30_0
        try clear hfz30_1
        try clear hfz30_2
        try clear hfz30_3
        try clear hfz30_4
        try clear hfz30_5
        try clear hfz30_6
        try clear hfz34_0
        try clear hfz34_1
        try clear hfz34_2
        try clear hfz34_3
        try clear hfz34_4
        try clear hfz34_5
        try clear hfz34_6
        try clear hfz38_0
        try clear hfz38_1
        try clear hfz38_2
        try clear hfz38_3
        try clear hfz38_4
        try clear hfz38_5
        try clear hfz38_6
        try clear hfz43_0
        try clear hfz43_1
        try clear hfz43_2
        try clear hfz43_3
        try clear hfz43_4
        try clear hfz43_5
        try clear hfz43_6
        try clear hx199_0
        try clear p199
        try clear q199
        obtain ⟨kq,x4_13,HA,HJ13,HO_4,BK167,HB⟩:=hcut
        cases kq with
        | zero=>exact absurd (show none=some _ from HA.out) (by simp)
        | succ kj13 =>
         have H:=HA.out
         clear HA
         simp only [latticeref06_Encode.j0] at H
         have H':=Aside0.mk H
         clear H
         have hcz47_0:wc.cell? ⟨gb167,0,none⟩=some (.int .i64 a0_0):=(blk_cell BK167.out 0).trans rfl
         have hcz47_1:wc.cell? ⟨gb167,1,none⟩=some (.int .i64 a0_1):=(blk_cell BK167.out 1).trans rfl
         have hcz47_2:wc.cell? ⟨gb167,2,none⟩=some (.int .i64 a0_2):=(blk_cell BK167.out 2).trans rfl
         have hcz47_3:wc.cell? ⟨gb167,3,none⟩=some (.string a0_3):=(blk_cell BK167.out 3).trans rfl
         have hcz47_4:wc.cell? ⟨gb167,4,none⟩=some (.slice A0_4 l0_4.length c0_4):=(blk_cell BK167.out 4).trans rfl
         have hcz47_5:wc.cell? ⟨gb167,5,none⟩=some (.slice A0_5 l0_5.length c0_5):=(blk_cell BK167.out 5).trans rfl
         have hcz47_6:wc.cell? ⟨gb167,6,none⟩=some (.slice A0_6 l0_6.length c0_6):=(blk_cell BK167.out 6).trans rfl
         have hfz47_0:=blk_frozen BK167.out 0
         have hfz47_1:=blk_frozen BK167.out 1
         have hfz47_2:=blk_frozen BK167.out 2
         have hfz47_3:=blk_frozen BK167.out 3
         have hfz47_4:=blk_frozen BK167.out 4
         have hfz47_5:=blk_frozen BK167.out 5
         have hfz47_6:=blk_frozen BK167.out 6
         go_wp2
         go_loopg [4,49] kj13 (fun kq v4 v49 w'=>∃ (x4_2:List Int) (x49_2:Int),v49=.int .i64 x49_2∧Aside0 (latticeref06_Encode.l0 kq x4_2 l0_4 (l0_4.length:Int) x49_2 a0_0 a0_1 a0_2 a0_3 l0_4 l0_5 l0_6=some (r1,r2))∧Aside0 (kq≤kj13)∧Aside0 (Kd.R (Kd.int .u8) 5 w' w.heap.size (fun _=>True) v4 x4_2)∧Aside0 (w'.heap[gb167]?=some (.cells #[.int .i64 a0_0,.int .i64 a0_1,.int .i64 a0_2,.string a0_3,(.slice A0_4 l0_4.length c0_4),(.slice A0_5 l0_5.length c0_5),(.slice A0_6 l0_6.length c0_6)] 113 (0,0)))∧Aside0 (Below w.heap.size w w'))
         case atStart=>exact ⟨(x4_13),(0),(by first|rfl|(simp;done)|(simp [*];done)),H',⟨Nat.le_refl _⟩,⟨by (with_reducible repeat (first|apply Kd.R_alloc|apply Kd.R_drewN|apply Kd.R_drew));exact HO_4.out⟩,⟨by (with_reducible repeat (first|refine blk_drewN ?_ _|refine blk_drew ?_|refine blk_alloc ?_ _));exact BK167.out⟩,⟨by repeat (first|(with_reducible first|exact HB.out|apply below_alloc|apply pw_below_drewN|apply below_drew1|refine below_set ?_ GE167.out)|exact HB.out)⟩⟩
         case round =>
          clear H'
          try clear c1
          try clear p1
          try clear q1
          try clear hx1
          try clear qi1
          try clear p2
          try clear c3
          try clear c4
          try clear c5
          try clear c7
          try clear c8
          try clear c9
          try clear c10
          try clear c11
          try clear c13
          try clear p19
          try clear q19
          try clear hx19
          try clear qi19
          try clear c39
          try clear c39b0
          try clear c40
          try clear c40b0
          try clear c40b1
          try clear c42
          try clear hcz16_0
          try clear hcz16_1
          try clear hcz16_2
          try clear hcz16_3
          try clear hcz16_4
          try clear hcz16_5
          try clear hcz16_6
          try clear hcz18_0
          try clear hcz18_1
          try clear hcz18_2
          try clear hcz18_3
          try clear hcz18_4
          try clear hcz18_5
          try clear hcz18_6
          try clear hcz22_0
          try clear hcz22_1
          try clear hcz22_2
          try clear hcz22_3
          try clear hcz22_4
          try clear hcz22_5
          try clear hcz22_6
          try clear hcz26_0
          try clear hcz26_1
          try clear hcz26_2
          try clear hcz26_3
          try clear hcz26_4
          try clear hcz26_5
          try clear hcz26_6
          try clear hcz30_0
          try clear hcz30_1
          try clear hcz30_2
          try clear hcz30_3
          try clear hcz30_4
          try clear hcz30_5
          try clear hcz30_6
          try clear hcz34_0
          try clear hcz34_1
          try clear hcz34_2
          try clear hcz34_3
          try clear hcz34_4
          try clear hcz34_5
          try clear hcz34_6
          try clear hcz38_0
          try clear hcz38_1
          try clear hcz38_2
          try clear hcz38_3
          try clear hcz38_4
          try clear hcz38_5
          try clear hcz38_6
          try clear hcz43_0
          try clear hcz43_1
          try clear hcz43_2
          try clear hcz43_3
          try clear hcz43_4
          try clear hcz43_5
          try clear hcz43_6
          try clear hcz47_0
          try clear hcz47_1
          try clear hcz47_2
          try clear hcz47_3
          try clear hcz47_4
          try clear hcz47_5
          try clear hcz47_6
          try clear hfz16_0
          try clear hfz16_1
          try clear hfz16_2
          try clear hfz16_3
          try clear hfz16_4
          try clear hfz16_5
          try clear hfz16_6
          try clear hfz18_0
          try clear hfz18_1
          try clear hfz18_2
          try clear hfz18_3
          try clear hfz18_4
          try clear hfz18_5
          try clear hfz18_6
          try clear hfz22_0
          try clear hfz22_1
          try clear hfz22_2
          try clear hfz22_3
          try clear hfz22_4
          try clear hfz22_5
          try clear hfz22_6
          try clear hfz26_0
          try clear hfz26_1
          try clear hfz26_2
          try clear hfz26_3
          try clear hfz26_4
          try clear hfz26_5
          try clear hfz26_6
          try clear hfz30_0
          try clear hfz30_1
          try clear hfz30_2
          try clear hfz30_3
          try clear hfz30_4
          try clear hfz30_5
          try clear hfz30_6
          try clear hfz34_0
          try clear hfz34_1
          try clear hfz34_2
          try clear hfz34_3
          try clear hfz34_4
          try clear hfz34_5
          try clear hfz34_6
          try clear hfz38_0
          try clear hfz38_1
          try clear hfz38_2
          try clear hfz38_3
          try clear hfz38_4
          try clear hfz38_5
          try clear hfz38_6
          try clear hfz43_0
          try clear hfz43_1
          try clear hfz43_2
          try clear hfz43_3
          try clear hfz43_4
          try clear hfz43_5
          try clear hfz43_6
          try clear hfz47_0
          try clear hfz47_1
          try clear hfz47_2
          try clear hfz47_3
          try clear hfz47_4
          try clear hfz47_5
          try clear hfz47_6
          try clear hx199_0
          try clear p1
          try clear p19
          try clear p199
          try clear p2
          try clear q1
          try clear q19
          try clear q199
          obtain ⟨x4_2,x49_2,rfl,HA,HK2,HO_4,BK167,HB⟩:=hrel
          cases gk with
          | zero=>exact absurd (show none=some _ from HA.out) (by simp)
          | succ k2 =>
           have H:=HA.out
           clear HA
           simp only [latticeref06_Encode.l0] at H
           by_cases c48:x49_2 < (l0_4.length:Int)
           ·rw [if_pos c48] at H
            have c48b0:decide (x49_2 < (l0_4.length:Int))=true:=decide_eq_true c48
            clear c48
            by_cases c49:0≤x49_2
            ·rw [if_pos c49] at H
             have c49b0:decide (0≤x49_2)=true:=decide_eq_true c49
             clear c49
             by_cases c50:x49_2 < (l0_4.length:Int)
             ·rw [if_pos c50] at H
              have c50b0:decide (x49_2 < (l0_4.length:Int))=true:=decide_eq_true c50
              clear c50
              replace H:=Option.bind_eq_some_iff.mp H
              obtain ⟨t207,A510,H⟩:=H
              try dsimp only at H
              have A51:=Aside0.mk A510
              clear A510
              by_cases c52:x4_2.length+t207.length < 140737488355328
              ·rw [if_pos c52] at H
               have LMc52:=Aside0.mk c52
               clear c52
               obtain ⟨y210,hy210⟩:∃ y_:List Int,y_=(x4_2++t207):=⟨_,rfl⟩
               replace H:(if a0_0 > 0 then (if 0≤(wrap64 (x49_2+1)) then (if (wrap64 (x49_2+1)) < (l0_6.length:Int) then ((latticeref01_Num.f (rd l0_6 (wrap64 (x49_2+1))) 4).bind fun t214=>(if y210.length+t214.length < 140737488355328 then (latticeref06_Encode.l0 k2 (y210++t214) l0_4 (l0_4.length:Int) (wrap64 (x49_2+1)) a0_0 a0_1 a0_2 a0_3 l0_4 l0_5 l0_6) else (none))) else (none)) else (none)) else (if x49_2 < (l0_5.length:Int) then ((latticeref01_Text.f (rdOf ByteArray.empty l0_5 x49_2)).bind fun t221=>(if y210.length+t221.length < 140737488355328 then (latticeref06_Encode.l0 k2 (y210++t221) l0_4 (l0_4.length:Int) (wrap64 (x49_2+1)) a0_0 a0_1 a0_2 a0_3 l0_4 l0_5 l0_6) else (none))) else (none)))=some (r1,r2):=by first|(rw [hy210];with_reducible exact H)|(have H2_:=(Option.bind_some _ _).symm.trans H;rw [hy210];with_reducible exact H2_)|(have H2_:=(Option.bind_some _ _).symm.trans H;with_reducible exact H2_)|with_reducible exact H|(rw [hy210];exact H)|exact H
               have Ny210:=Aside0.mk hy210
               clear hy210
               by_cases c53:a0_0 > 0
               ·rw [if_pos c53] at H
                have c53b0:decide (0 < a0_0)=true:=decide_eq_true c53
                clear c53
                obtain ⟨ji54,hji54⟩:∃ j_:Int,(wrap64 (x49_2+1))=j_:=⟨_,rfl⟩
                replace H:(if 0≤(ji54) then (if (ji54) < (l0_6.length:Int) then ((latticeref01_Num.f (rd l0_6 (ji54)) 4).bind fun t214=>(if y210.length+t214.length < 140737488355328 then (latticeref06_Encode.l0 k2 (y210++t214) l0_4 (l0_4.length:Int) ji54 a0_0 a0_1 a0_2 a0_3 l0_4 l0_5 l0_6) else (none))) else (none)) else (none))=some (r1,r2):=by first|(rw [hji54] at H;exact H)|(simp only [hji54] at H ⊢;exact H)
                (try rw [hji54] at A51)
                have hji54w:(IntKind.i64.wrap (x49_2+1))=ji54:=(i64_w _).trans hji54
                by_cases c55:0≤(ji54)
                ·rw [if_pos c55] at H
                 have c55b0:decide (0≤(ji54))=true:=decide_eq_true c55
                 clear c55
                 by_cases c56:(ji54) < (l0_6.length:Int)
                 ·rw [if_pos c56] at H
                  have c56b0:decide ((ji54) < (l0_6.length:Int))=true:=decide_eq_true c56
                  clear c56
                  replace H:=Option.bind_eq_some_iff.mp H
                  obtain ⟨t214,A570,H⟩:=H
                  try dsimp only at H
                  have A57:=Aside0.mk A570
                  clear A570
                  by_cases c58:y210.length+t214.length < 140737488355328
                  ·rw [if_pos c58] at H
                   have LMc58:=Aside0.mk c58
                   clear c58
                   obtain ⟨y217,hy217⟩:∃ y_:List Int,y_=(y210++t214):=⟨_,rfl⟩
                   replace H:(latticeref06_Encode.l0 k2 y217 l0_4 (l0_4.length:Int) ji54 a0_0 a0_1 a0_2 a0_3 l0_4 l0_5 l0_6)=some (r1,r2):=by first|(rw [hy217];with_reducible exact H)|(have H2_:=(Option.bind_some _ _).symm.trans H;rw [hy217];with_reducible exact H2_)|(have H2_:=(Option.bind_some _ _).symm.trans H;with_reducible exact H2_)|with_reducible exact H|(rw [hy217];exact H)|exact H
                   have Ny217:=Aside0.mk hy217
                   clear hy217
                   have H':=Aside0.mk H
                   clear H
                   have p206:0≤(x49_2:Int):=of_decide_eq_true (by first|(with_reducible assumption)|assumption)
                   have q206:x49_2 < (l0_4.length:Int):=of_decide_eq_true (by first|(with_reducible assumption)|assumption)
                   obtain ⟨ad206,e206,hx206_0⟩:=Kd.at_string HR0_4.out x49_2 p206 q206
                   cases e206
                   replace hx206_0:=(HB.out.cell (World.block_lt_of_cell? w _ hx206_0)).trans hx206_0
                   replace p206:=eq_true p206
                   replace q206:=eq_true q206
                   go_wp2_with (first|((with_reducible refine gate_callee (f:=89) rfl ?_);refine goesL_ (some 56) rfl rfl Try.func89 (by kernel_rfl) rfl #[.string (rdOf ByteArray.empty l0_4 x49_2)] rfl (by (try simp only [List.map_toArray,List.map_cons,List.map_nil]);first|done|rfl|(simp only [List.length_drop,List.length_take];rfl)) ?_;(with_reducible refine (latticeref01_Text.calls (rdOf ByteArray.empty l0_4 x49_2) t207 _ A51.out).mono ?_);rintro e w59 ⟨v208,rfl,ho0,hb⟩;refine ⟨_,rfl,?_⟩;have n0_:=Aside0.mk (Kd.R_elder' (by (with_reducible repeat (first|apply Kd.R_alloc|apply Kd.R_drewN|apply Kd.R_drew));exact HO_4.out) (Kd.R_base ho0) hb);have n1_:=Aside0.mk (Kd.R_lower (Kd.R_new' ho0 (Kd.R_lt (by (with_reducible repeat (first|apply Kd.R_alloc|apply Kd.R_drewN|apply Kd.R_drew));exact HO_4.out))) (below_size (by repeat (first|(with_reducible first|exact HB.out|apply below_alloc|apply pw_below_drewN|apply below_drew1|refine below_set ?_ GE167.out)|exact HB.out))));have n2_:=Aside0.mk (blk_below (g:=gb167) (o:=.cells #[.int .i64 a0_0,.int .i64 a0_1,.int .i64 a0_2,.string a0_3,.slice (some ad206) l0_4.length c0_4,.slice A0_5 l0_5.length c0_5,.slice A0_6 l0_6.length c0_6] 113 (0,0)) (by (with_reducible repeat (first|refine blk_drewN ?_ _|refine blk_drew ?_|refine blk_alloc ?_ _));exact BK167.out) hb);have n3_:=Aside0.mk (below_step (by repeat (first|(with_reducible first|exact HB.out|apply below_alloc|apply pw_below_drewN|apply below_drew1|refine below_set ?_ GE167.out)|exact HB.out)) hb);clear HO_4;clear BK167;clear HB;have HO_4:=n0_;have HO209:=n1_;have BK167:=n2_;have HB:=n3_;clear n0_ n1_ n2_ n3_;(try clear hb);(try clear hb2);(try clear hk);(try clear hi);(try clear ho0);obtain ⟨Ao61,co61,eo61⟩:=Kd.R_slice HO209.out;subst eo61)|((with_reducible refine gate_builtin (b:=.append) (xs:=#[.tmp 54,.tmp 56]) rfl ?_);at_builtin;refine Kd.R_append_rows (Kd.int .u8) (w0:=w) w.heap.size rfl (.tmp 54) (.tmp 56) 67 5 (.int .u8 0) 1 rfl Try.underlying67 info5 rfl (by decide) (by omega) u4 x4_2 t207 _ _ _ (fun k_=>some k_≠(.slice Ao61 t207.length co61:Value).ownBlock) (fun _=>False) rfl rfl ?aO ?aR (fun _ _ h=>h) (fun _ h=>h.elim) ?aF ?aB ?aS ?aL ?_;(case aR=>repeat (first|exact (Kd.R_reads' HO209.out).2.2|(with_reducible refine Kd.C_alloc ?_ _)|(with_reducible refine Kd.C_drewN ?_ _)|(with_reducible refine Kd.C_drew ?_)));(case aB=>exact (by repeat (first|(with_reducible first|exact HB.out|apply below_alloc|apply pw_below_drewN|apply below_drew1|refine below_set ?_ GE167.out)|exact HB.out)));(case aF=>exact (fun k_ hk=>Kd.fresh' (Kd.R_lt (by (with_reducible repeat (first|apply Kd.R_alloc|apply Kd.R_drewN|apply Kd.R_drew));exact HO209.out)) k_ hk));(case aO=>exact (by (with_reducible repeat (first|apply Kd.R_alloc|apply Kd.R_drewN|apply Kd.R_drew));exact Kd.R_mono HO_4.out (fun _ hk=>hk.2)));(case aS=>exact (below_size (by repeat (first|(with_reducible first|exact HB.out|apply below_alloc|apply pw_below_drewN|apply below_drew1|refine below_set ?_ GE167.out)|exact HB.out))));(case aL=>have:=LMc52.out;omega);intro v211 w60 ho hb hg hat;rw [← Ny210.out] at ho;have n0_:=Aside0.mk (blk_grown (g:=gb167) (o:=.cells #[.int .i64 a0_0,.int .i64 a0_1,.int .i64 a0_2,.string a0_3,.slice (some ad206) l0_4.length c0_4,.slice A0_5 l0_5.length c0_5,.slice A0_6 l0_6.length c0_6] 113 (0,0)) (by (with_reducible repeat (first|refine blk_drewN ?_ _|refine blk_drew ?_|refine blk_alloc ?_ _));exact BK167.out) hg (Kd.R_ne HO_4.out BK167.out (by decide)));have n1_:=Aside0.mk (Kd.R_after (ok:=(fun _=>True)) (by (with_reducible repeat (first|apply Kd.R_alloc|apply Kd.R_drewN|apply Kd.R_drew));exact HO209.out) hg hat);have n2_:=Aside0.mk (hb);have n3_:=Aside0.mk (ho);clear BK167;clear HO209;clear HB;clear HO_4;have BK167:=n0_;have HO209:=n1_;have HB:=n2_;have HO212:=n3_;clear n0_ n1_ n2_ n3_;clear ho hb hg hat;have hcz62_0:w60.cell? ⟨gb167,0,none⟩=some (.int .i64 a0_0):=(blk_cell BK167.out 0).trans rfl;have hcz62_1:w60.cell? ⟨gb167,1,none⟩=some (.int .i64 a0_1):=(blk_cell BK167.out 1).trans rfl;have hcz62_2:w60.cell? ⟨gb167,2,none⟩=some (.int .i64 a0_2):=(blk_cell BK167.out 2).trans rfl;have hcz62_3:w60.cell? ⟨gb167,3,none⟩=some (.string a0_3):=(blk_cell BK167.out 3).trans rfl;have hcz62_4:w60.cell? ⟨gb167,4,none⟩=some (.slice (some ad206) l0_4.length c0_4):=(blk_cell BK167.out 4).trans rfl;have hcz62_5:w60.cell? ⟨gb167,5,none⟩=some (.slice A0_5 l0_5.length c0_5):=(blk_cell BK167.out 5).trans rfl;have hcz62_6:w60.cell? ⟨gb167,6,none⟩=some (.slice A0_6 l0_6.length c0_6):=(blk_cell BK167.out 6).trans rfl;have hfz62_0:=blk_frozen BK167.out 0;have hfz62_1:=blk_frozen BK167.out 1;have hfz62_2:=blk_frozen BK167.out 2;have hfz62_3:=blk_frozen BK167.out 3;have hfz62_4:=blk_frozen BK167.out 4;have hfz62_5:=blk_frozen BK167.out 5;have hfz62_6:=blk_frozen BK167.out 6;have p213:0≤((ji54):Int):=of_decide_eq_true (by first|(with_reducible assumption)|assumption);have q213:(ji54) < (l0_6.length:Int):=of_decide_eq_true (by first|(with_reducible assumption)|assumption);obtain ⟨ad213,e213,hx213_0⟩:=Kd.at_int HR0_6.out (ji54) p213 q213;cases e213;replace hx213_0:=(HB.out.cell (World.block_lt_of_cell? w _ hx213_0)).trans hx213_0;replace p213:=eq_true p213;replace q213:=eq_true q213)|((with_reducible refine gate_callee (f:=88) rfl ?_);refine goesL_ (some 68) rfl rfl Try.func88 (by kernel_rfl) rfl #[.int .i64 (rd l0_6 (ji54)),.int .i64 4] rfl (by (try simp only [List.map_toArray,List.map_cons,List.map_nil]);first|done|(simp only [hji54];rfl)|rfl|(simp only [List.length_drop,List.length_take];rfl)) ?_;(with_reducible refine (latticeref01_Num.calls (rd l0_6 (ji54)) 4 t214 _ A57.out).mono ?_);rintro e w63 ⟨v215,rfl,ho0,hb⟩;refine ⟨_,rfl,?_⟩;have n0_:=Aside0.mk (Kd.R_elder' (by (with_reducible repeat (first|apply Kd.R_alloc|apply Kd.R_drewN|apply Kd.R_drew));exact HO209.out) (Kd.R_base ho0) hb);have n1_:=Aside0.mk (Kd.R_elder' (by (with_reducible repeat (first|apply Kd.R_alloc|apply Kd.R_drewN|apply Kd.R_drew));exact HO212.out) (Kd.R_base ho0) hb);have n2_:=Aside0.mk (Kd.R_lower (Kd.R_new' (Kd.R_new' ho0 (Kd.R_lt (by (with_reducible repeat (first|apply Kd.R_alloc|apply Kd.R_drewN|apply Kd.R_drew));exact HO209.out))) (Kd.R_lt (by (with_reducible repeat (first|apply Kd.R_alloc|apply Kd.R_drewN|apply Kd.R_drew));exact HO212.out))) (below_size (by repeat (first|(with_reducible first|exact HB.out|apply below_alloc|apply pw_below_drewN|apply below_drew1|refine below_set ?_ GE167.out)|exact HB.out))));have n3_:=Aside0.mk (blk_below (g:=gb167) (o:=.cells #[.int .i64 a0_0,.int .i64 a0_1,.int .i64 a0_2,.string a0_3,.slice (some ad206) l0_4.length c0_4,.slice A0_5 l0_5.length c0_5,.slice (some ad213) l0_6.length c0_6] 113 (0,0)) (by (with_reducible repeat (first|refine blk_drewN ?_ _|refine blk_drew ?_|refine blk_alloc ?_ _));exact BK167.out) hb);have n4_:=Aside0.mk (below_step (by repeat (first|(with_reducible first|exact HB.out|apply below_alloc|apply pw_below_drewN|apply below_drew1|refine below_set ?_ GE167.out)|exact HB.out)) hb);clear HO209;clear HO212;clear BK167;clear HB;have HO209:=n0_;have HO212:=n1_;have HO216:=n2_;have BK167:=n3_;have HB:=n4_;clear n0_ n1_ n2_ n3_ n4_;(try clear hb);(try clear hb2);(try clear hk);(try clear hi);(try clear ho0);obtain ⟨Ao65,co65,eo65⟩:=Kd.R_slice HO216.out;subst eo65)|((with_reducible refine gate_builtin (b:=.append) (xs:=#[.tmp 61,.tmp 68]) rfl ?_);at_builtin;refine Kd.R_append_rows (Kd.int .u8) (w0:=w) w.heap.size rfl (.tmp 61) (.tmp 68) 67 5 (.int .u8 0) 1 rfl Try.underlying67 info5 rfl (by decide) (by omega) v211 y210 t214 _ _ _ (fun k_=>some k_≠(.slice Ao61 t207.length co61:Value).ownBlock∧some k_≠(.slice Ao65 t214.length co65:Value).ownBlock) (fun _=>False) rfl rfl ?aO ?aR (fun _ _ h=>h) (fun _ h=>h.elim) ?aF ?aB ?aS ?aL ?_;(case aR=>repeat (first|exact (Kd.R_reads' HO216.out).2.2|(with_reducible refine Kd.C_alloc ?_ _)|(with_reducible refine Kd.C_drewN ?_ _)|(with_reducible refine Kd.C_drew ?_)));(case aB=>exact (by repeat (first|(with_reducible first|exact HB.out|apply below_alloc|apply pw_below_drewN|apply below_drew1|refine below_set ?_ GE167.out)|exact HB.out)));(case aF=>exact (fun k_ hk=>⟨Kd.fresh' (Kd.R_lt (by (with_reducible repeat (first|apply Kd.R_alloc|apply Kd.R_drewN|apply Kd.R_drew));exact HO209.out)) k_ hk,Kd.fresh' (Kd.R_lt (by (with_reducible repeat (first|apply Kd.R_alloc|apply Kd.R_drewN|apply Kd.R_drew));exact HO216.out)) k_ hk⟩));(case aO=>exact (by (with_reducible repeat (first|apply Kd.R_alloc|apply Kd.R_drewN|apply Kd.R_drew));exact HO212.out));(case aS=>exact (below_size (by repeat (first|(with_reducible first|exact HB.out|apply below_alloc|apply pw_below_drewN|apply below_drew1|refine below_set ?_ GE167.out)|exact HB.out))));(case aL=>have:=LMc58.out;omega);intro v218 w64 ho hb hg hat;rw [← Ny217.out] at ho;have n0_:=Aside0.mk (blk_grown (g:=gb167) (o:=.cells #[.int .i64 a0_0,.int .i64 a0_1,.int .i64 a0_2,.string a0_3,.slice (some ad206) l0_4.length c0_4,.slice A0_5 l0_5.length c0_5,.slice (some ad213) l0_6.length c0_6] 113 (0,0)) (by (with_reducible repeat (first|refine blk_drewN ?_ _|refine blk_drew ?_|refine blk_alloc ?_ _));exact BK167.out) hg (Kd.R_ne HO212.out BK167.out (by decide)));have n1_:=Aside0.mk (Kd.R_after (ok:=(fun k_=>some k_≠(.slice Ao65 t214.length co65:Value).ownBlock)) (by (with_reducible repeat (first|apply Kd.R_alloc|apply Kd.R_drewN|apply Kd.R_drew));exact Kd.R_mono HO209.out (fun _ hk=>⟨hk.2,hk.1.2⟩)) hg hat);have n2_:=Aside0.mk (Kd.R_after (ok:=(fun k_=>some k_≠(.slice Ao61 t207.length co61:Value).ownBlock)) (by (with_reducible repeat (first|apply Kd.R_alloc|apply Kd.R_drewN|apply Kd.R_drew));exact Kd.R_mono HO216.out (fun _ hk=>⟨hk.1.2,hk.2⟩)) hg hat);have n3_:=Aside0.mk (hb);have n4_:=Aside0.mk (ho);clear BK167;clear HO209;clear HO216;clear HB;clear HO212;have BK167:=n0_;have HO209:=n1_;have HO216:=n2_;have HB:=n3_;have HO219:=n4_;clear n0_ n1_ n2_ n3_ n4_;clear ho hb hg hat))
                   go_roundg k2
                   case measure=>have:=HJ13.out;have:=HK2.out;omega
                   case rel=>exact ⟨(y217),(ji54),(by first|rfl|(simp;done)|(simp only [← hji54] <;> (first|rfl|simp))|(simp [*];done)),H',⟨by have:=HJ13.out;have:=HK2.out;omega⟩,⟨by (with_reducible repeat (first|apply Kd.R_alloc|apply Kd.R_drewN|apply Kd.R_drew));exact Kd.R_mono HO219.out (fun _ hk=>trivial)⟩,⟨by (with_reducible repeat (first|refine blk_drewN ?_ _|refine blk_drew ?_|refine blk_alloc ?_ _));exact BK167.out⟩,⟨by repeat (first|(with_reducible first|exact HB.out|apply below_alloc|apply pw_below_drewN|apply below_drew1|refine below_set ?_ GE167.out)|exact HB.out)⟩⟩
                  ·rw [if_neg c58] at H
                   exact absurd H (by simp)
                 ·rw [if_neg c56] at H
                  exact absurd H (by simp)
                ·rw [if_neg c55] at H
                 exact absurd H (by simp)
               ·rw [if_neg c53] at H
                have c53b0:decide (0 < a0_0)=false:=decide_eq_false c53
                clear c53
                by_cases c66:x49_2 < (l0_5.length:Int)
                ·rw [if_pos c66] at H
                 have c66b0:decide (x49_2 < (l0_5.length:Int))=true:=decide_eq_true c66
                 clear c66
                 replace H:=Option.bind_eq_some_iff.mp H
                 obtain ⟨t221,A670,H⟩:=H
                 try dsimp only at H
                 have A67:=Aside0.mk A670
                 clear A670
                 by_cases c68:y210.length+t221.length < 140737488355328
                 ·rw [if_pos c68] at H
                  have LMc68:=Aside0.mk c68
                  clear c68
                  obtain ⟨y224,hy224⟩:∃ y_:List Int,y_=(y210++t221):=⟨_,rfl⟩
                  replace H:(latticeref06_Encode.l0 k2 y224 l0_4 (l0_4.length:Int) (wrap64 (x49_2+1)) a0_0 a0_1 a0_2 a0_3 l0_4 l0_5 l0_6)=some (r1,r2):=by first|(rw [hy224];with_reducible exact H)|(have H2_:=(Option.bind_some _ _).symm.trans H;rw [hy224];with_reducible exact H2_)|(have H2_:=(Option.bind_some _ _).symm.trans H;with_reducible exact H2_)|with_reducible exact H|(rw [hy224];exact H)|exact H
                  have Ny224:=Aside0.mk hy224
                  clear hy224
                  have H':=Aside0.mk H
                  clear H
                  have p206:0≤(x49_2:Int):=of_decide_eq_true (by first|(with_reducible assumption)|assumption)
                  have q206:x49_2 < (l0_4.length:Int):=of_decide_eq_true (by first|(with_reducible assumption)|assumption)
                  obtain ⟨ad206,e206,hx206_0⟩:=Kd.at_string HR0_4.out x49_2 p206 q206
                  cases e206
                  replace hx206_0:=(HB.out.cell (World.block_lt_of_cell? w _ hx206_0)).trans hx206_0
                  replace p206:=eq_true p206
                  replace q206:=eq_true q206
                  go_wp2_with (first|((with_reducible refine gate_callee (f:=89) rfl ?_);refine goesL_ (some 56) rfl rfl Try.func89 (by kernel_rfl) rfl #[.string (rdOf ByteArray.empty l0_4 x49_2)] rfl (by (try simp only [List.map_toArray,List.map_cons,List.map_nil]);first|done|rfl|(simp only [List.length_drop,List.length_take];rfl)) ?_;(with_reducible refine (latticeref01_Text.calls (rdOf ByteArray.empty l0_4 x49_2) t207 _ A51.out).mono ?_);rintro e w69 ⟨v208,rfl,ho0,hb⟩;refine ⟨_,rfl,?_⟩;have n0_:=Aside0.mk (Kd.R_elder' (by (with_reducible repeat (first|apply Kd.R_alloc|apply Kd.R_drewN|apply Kd.R_drew));exact HO_4.out) (Kd.R_base ho0) hb);have n1_:=Aside0.mk (Kd.R_lower (Kd.R_new' ho0 (Kd.R_lt (by (with_reducible repeat (first|apply Kd.R_alloc|apply Kd.R_drewN|apply Kd.R_drew));exact HO_4.out))) (below_size (by repeat (first|(with_reducible first|exact HB.out|apply below_alloc|apply pw_below_drewN|apply below_drew1|refine below_set ?_ GE167.out)|exact HB.out))));have n2_:=Aside0.mk (blk_below (g:=gb167) (o:=.cells #[.int .i64 a0_0,.int .i64 a0_1,.int .i64 a0_2,.string a0_3,.slice (some ad206) l0_4.length c0_4,.slice A0_5 l0_5.length c0_5,.slice A0_6 l0_6.length c0_6] 113 (0,0)) (by (with_reducible repeat (first|refine blk_drewN ?_ _|refine blk_drew ?_|refine blk_alloc ?_ _));exact BK167.out) hb);have n3_:=Aside0.mk (below_step (by repeat (first|(with_reducible first|exact HB.out|apply below_alloc|apply pw_below_drewN|apply below_drew1|refine below_set ?_ GE167.out)|exact HB.out)) hb);clear HO_4;clear BK167;clear HB;have HO_4:=n0_;have HO209:=n1_;have BK167:=n2_;have HB:=n3_;clear n0_ n1_ n2_ n3_;(try clear hb);(try clear hb2);(try clear hk);(try clear hi);(try clear ho0);obtain ⟨Ao71,co71,eo71⟩:=Kd.R_slice HO209.out;subst eo71)|((with_reducible refine gate_builtin (b:=.append) (xs:=#[.tmp 54,.tmp 56]) rfl ?_);at_builtin;refine Kd.R_append_rows (Kd.int .u8) (w0:=w) w.heap.size rfl (.tmp 54) (.tmp 56) 67 5 (.int .u8 0) 1 rfl Try.underlying67 info5 rfl (by decide) (by omega) u4 x4_2 t207 _ _ _ (fun k_=>some k_≠(.slice Ao71 t207.length co71:Value).ownBlock) (fun _=>False) rfl rfl ?aO ?aR (fun _ _ h=>h) (fun _ h=>h.elim) ?aF ?aB ?aS ?aL ?_;(case aR=>repeat (first|exact (Kd.R_reads' HO209.out).2.2|(with_reducible refine Kd.C_alloc ?_ _)|(with_reducible refine Kd.C_drewN ?_ _)|(with_reducible refine Kd.C_drew ?_)));(case aB=>exact (by repeat (first|(with_reducible first|exact HB.out|apply below_alloc|apply pw_below_drewN|apply below_drew1|refine below_set ?_ GE167.out)|exact HB.out)));(case aF=>exact (fun k_ hk=>Kd.fresh' (Kd.R_lt (by (with_reducible repeat (first|apply Kd.R_alloc|apply Kd.R_drewN|apply Kd.R_drew));exact HO209.out)) k_ hk));(case aO=>exact (by (with_reducible repeat (first|apply Kd.R_alloc|apply Kd.R_drewN|apply Kd.R_drew));exact Kd.R_mono HO_4.out (fun _ hk=>hk.2)));(case aS=>exact (below_size (by repeat (first|(with_reducible first|exact HB.out|apply below_alloc|apply pw_below_drewN|apply below_drew1|refine below_set ?_ GE167.out)|exact HB.out))));(case aL=>have:=LMc52.out;omega);intro v211 w70 ho hb hg hat;rw [← Ny210.out] at ho;have n0_:=Aside0.mk (blk_grown (g:=gb167) (o:=.cells #[.int .i64 a0_0,.int .i64 a0_1,.int .i64 a0_2,.string a0_3,.slice (some ad206) l0_4.length c0_4,.slice A0_5 l0_5.length c0_5,.slice A0_6 l0_6.length c0_6] 113 (0,0)) (by (with_reducible repeat (first|refine blk_drewN ?_ _|refine blk_drew ?_|refine blk_alloc ?_ _));exact BK167.out) hg (Kd.R_ne HO_4.out BK167.out (by decide)));have n1_:=Aside0.mk (Kd.R_after (ok:=(fun _=>True)) (by (with_reducible repeat (first|apply Kd.R_alloc|apply Kd.R_drewN|apply Kd.R_drew));exact HO209.out) hg hat);have n2_:=Aside0.mk (hb);have n3_:=Aside0.mk (ho);clear BK167;clear HO209;clear HB;clear HO_4;have BK167:=n0_;have HO209:=n1_;have HB:=n2_;have HO212:=n3_;clear n0_ n1_ n2_ n3_;clear ho hb hg hat;have hcz72_0:w70.cell? ⟨gb167,0,none⟩=some (.int .i64 a0_0):=(blk_cell BK167.out 0).trans rfl;have hcz72_1:w70.cell? ⟨gb167,1,none⟩=some (.int .i64 a0_1):=(blk_cell BK167.out 1).trans rfl;have hcz72_2:w70.cell? ⟨gb167,2,none⟩=some (.int .i64 a0_2):=(blk_cell BK167.out 2).trans rfl;have hcz72_3:w70.cell? ⟨gb167,3,none⟩=some (.string a0_3):=(blk_cell BK167.out 3).trans rfl;have hcz72_4:w70.cell? ⟨gb167,4,none⟩=some (.slice (some ad206) l0_4.length c0_4):=(blk_cell BK167.out 4).trans rfl;have hcz72_5:w70.cell? ⟨gb167,5,none⟩=some (.slice A0_5 l0_5.length c0_5):=(blk_cell BK167.out 5).trans rfl;have hcz72_6:w70.cell? ⟨gb167,6,none⟩=some (.slice A0_6 l0_6.length c0_6):=(blk_cell BK167.out 6).trans rfl;have hfz72_0:=blk_frozen BK167.out 0;have hfz72_1:=blk_frozen BK167.out 1;have hfz72_2:=blk_frozen BK167.out 2;have hfz72_3:=blk_frozen BK167.out 3;have hfz72_4:=blk_frozen BK167.out 4;have hfz72_5:=blk_frozen BK167.out 5;have hfz72_6:=blk_frozen BK167.out 6;have p220:0≤(x49_2:Int):=of_decide_eq_true (by first|(with_reducible assumption)|assumption);have q220:x49_2 < (l0_5.length:Int):=of_decide_eq_true (by first|(with_reducible assumption)|assumption);obtain ⟨ad220,e220,hx220_0⟩:=Kd.at_string HR0_5.out x49_2 p220 q220;cases e220;replace hx220_0:=(HB.out.cell (World.block_lt_of_cell? w _ hx220_0)).trans hx220_0;replace p220:=eq_true p220;replace q220:=eq_true q220)|((with_reducible refine gate_callee (f:=89) rfl ?_);refine goesL_ (some 76) rfl rfl Try.func89 (by kernel_rfl) rfl #[.string (rdOf ByteArray.empty l0_5 x49_2)] rfl (by (try simp only [List.map_toArray,List.map_cons,List.map_nil]);first|done|rfl|(simp only [List.length_drop,List.length_take];rfl)) ?_;(with_reducible refine (latticeref01_Text.calls (rdOf ByteArray.empty l0_5 x49_2) t221 _ A67.out).mono ?_);rintro e w73 ⟨v222,rfl,ho0,hb⟩;refine ⟨_,rfl,?_⟩;have n0_:=Aside0.mk (Kd.R_elder' (by (with_reducible repeat (first|apply Kd.R_alloc|apply Kd.R_drewN|apply Kd.R_drew));exact HO209.out) (Kd.R_base ho0) hb);have n1_:=Aside0.mk (Kd.R_elder' (by (with_reducible repeat (first|apply Kd.R_alloc|apply Kd.R_drewN|apply Kd.R_drew));exact HO212.out) (Kd.R_base ho0) hb);have n2_:=Aside0.mk (Kd.R_lower (Kd.R_new' (Kd.R_new' ho0 (Kd.R_lt (by (with_reducible repeat (first|apply Kd.R_alloc|apply Kd.R_drewN|apply Kd.R_drew));exact HO209.out))) (Kd.R_lt (by (with_reducible repeat (first|apply Kd.R_alloc|apply Kd.R_drewN|apply Kd.R_drew));exact HO212.out))) (below_size (by repeat (first|(with_reducible first|exact HB.out|apply below_alloc|apply pw_below_drewN|apply below_drew1|refine below_set ?_ GE167.out)|exact HB.out))));have n3_:=Aside0.mk (blk_below (g:=gb167) (o:=.cells #[.int .i64 a0_0,.int .i64 a0_1,.int .i64 a0_2,.string a0_3,.slice (some ad206) l0_4.length c0_4,.slice (some ad220) l0_5.length c0_5,.slice A0_6 l0_6.length c0_6] 113 (0,0)) (by (with_reducible repeat (first|refine blk_drewN ?_ _|refine blk_drew ?_|refine blk_alloc ?_ _));exact BK167.out) hb);have n4_:=Aside0.mk (below_step (by repeat (first|(with_reducible first|exact HB.out|apply below_alloc|apply pw_below_drewN|apply below_drew1|refine below_set ?_ GE167.out)|exact HB.out)) hb);clear HO209;clear HO212;clear BK167;clear HB;have HO209:=n0_;have HO212:=n1_;have HO223:=n2_;have BK167:=n3_;have HB:=n4_;clear n0_ n1_ n2_ n3_ n4_;(try clear hb);(try clear hb2);(try clear hk);(try clear hi);(try clear ho0);obtain ⟨Ao75,co75,eo75⟩:=Kd.R_slice HO223.out;subst eo75)|((with_reducible refine gate_builtin (b:=.append) (xs:=#[.tmp 70,.tmp 76]) rfl ?_);at_builtin;refine Kd.R_append_rows (Kd.int .u8) (w0:=w) w.heap.size rfl (.tmp 70) (.tmp 76) 67 5 (.int .u8 0) 1 rfl Try.underlying67 info5 rfl (by decide) (by omega) v211 y210 t221 _ _ _ (fun k_=>some k_≠(.slice Ao71 t207.length co71:Value).ownBlock∧some k_≠(.slice Ao75 t221.length co75:Value).ownBlock) (fun _=>False) rfl rfl ?aO ?aR (fun _ _ h=>h) (fun _ h=>h.elim) ?aF ?aB ?aS ?aL ?_;(case aR=>repeat (first|exact (Kd.R_reads' HO223.out).2.2|(with_reducible refine Kd.C_alloc ?_ _)|(with_reducible refine Kd.C_drewN ?_ _)|(with_reducible refine Kd.C_drew ?_)));(case aB=>exact (by repeat (first|(with_reducible first|exact HB.out|apply below_alloc|apply pw_below_drewN|apply below_drew1|refine below_set ?_ GE167.out)|exact HB.out)));(case aF=>exact (fun k_ hk=>⟨Kd.fresh' (Kd.R_lt (by (with_reducible repeat (first|apply Kd.R_alloc|apply Kd.R_drewN|apply Kd.R_drew));exact HO209.out)) k_ hk,Kd.fresh' (Kd.R_lt (by (with_reducible repeat (first|apply Kd.R_alloc|apply Kd.R_drewN|apply Kd.R_drew));exact HO223.out)) k_ hk⟩));(case aO=>exact (by (with_reducible repeat (first|apply Kd.R_alloc|apply Kd.R_drewN|apply Kd.R_drew));exact HO212.out));(case aS=>exact (below_size (by repeat (first|(with_reducible first|exact HB.out|apply below_alloc|apply pw_below_drewN|apply below_drew1|refine below_set ?_ GE167.out)|exact HB.out))));(case aL=>have:=LMc68.out;omega);intro v225 w74 ho hb hg hat;rw [← Ny224.out] at ho;have n0_:=Aside0.mk (blk_grown (g:=gb167) (o:=.cells #[.int .i64 a0_0,.int .i64 a0_1,.int .i64 a0_2,.string a0_3,.slice (some ad206) l0_4.length c0_4,.slice (some ad220) l0_5.length c0_5,.slice A0_6 l0_6.length c0_6] 113 (0,0)) (by (with_reducible repeat (first|refine blk_drewN ?_ _|refine blk_drew ?_|refine blk_alloc ?_ _));exact BK167.out) hg (Kd.R_ne HO212.out BK167.out (by decide)));have n1_:=Aside0.mk (Kd.R_after (ok:=(fun k_=>some k_≠(.slice Ao75 t221.length co75:Value).ownBlock)) (by (with_reducible repeat (first|apply Kd.R_alloc|apply Kd.R_drewN|apply Kd.R_drew));exact Kd.R_mono HO209.out (fun _ hk=>⟨hk.2,hk.1.2⟩)) hg hat);have n2_:=Aside0.mk (Kd.R_after (ok:=(fun k_=>some k_≠(.slice Ao71 t207.length co71:Value).ownBlock)) (by (with_reducible repeat (first|apply Kd.R_alloc|apply Kd.R_drewN|apply Kd.R_drew));exact Kd.R_mono HO223.out (fun _ hk=>⟨hk.1.2,hk.2⟩)) hg hat);have n3_:=Aside0.mk (hb);have n4_:=Aside0.mk (ho);clear BK167;clear HO209;clear HO223;clear HB;clear HO212;have BK167:=n0_;have HO209:=n1_;have HO223:=n2_;have HB:=n3_;have HO226:=n4_;clear n0_ n1_ n2_ n3_ n4_;clear ho hb hg hat))
                  go_roundg k2
                  case measure=>have:=HJ13.out;have:=HK2.out;omega
                  case rel=>exact ⟨(y224),(wrap64 (x49_2+1)),(by first|rfl|(simp;done)|(simp [*];done)),H',⟨by have:=HJ13.out;have:=HK2.out;omega⟩,⟨by (with_reducible repeat (first|apply Kd.R_alloc|apply Kd.R_drewN|apply Kd.R_drew));exact Kd.R_mono HO226.out (fun _ hk=>trivial)⟩,⟨by (with_reducible repeat (first|refine blk_drewN ?_ _|refine blk_drew ?_|refine blk_alloc ?_ _));exact BK167.out⟩,⟨by repeat (first|(with_reducible first|exact HB.out|apply below_alloc|apply pw_below_drewN|apply below_drew1|refine below_set ?_ GE167.out)|exact HB.out)⟩⟩
                 ·rw [if_neg c68] at H
                  exact absurd H (by simp)
                ·rw [if_neg c66] at H
                 exact absurd H (by simp)
              ·rw [if_neg c52] at H
               exact absurd H (by simp)
             ·rw [if_neg c50] at H
              exact absurd H (by simp)
            ·rw [if_neg c49] at H
             exact absurd H (by simp)
           ·rw [if_neg c48] at H
            have c48b0:decide (x49_2 < (l0_4.length:Int))=false:=decide_eq_false c48
            clear c48
            have H':=Aside0.mk H
            clear H
            go_wp2
            go_loopg [4] k2 (fun kq v4 w'=>∃ (x4_3:List Int),Aside0 (latticeref06_Encode.l1 kq x4_3=some (r1,r2))∧Aside0 (kq≤k2)∧Aside0 (Kd.R (Kd.int .u8) 5 w' w.heap.size (fun _=>True) v4 x4_3)∧Aside0 (w'.heap[gb167]?=some (.cells #[.int .i64 a0_0,.int .i64 a0_1,.int .i64 a0_2,.string a0_3,(.slice A0_4 l0_4.length c0_4),(.slice A0_5 l0_5.length c0_5),(.slice A0_6 l0_6.length c0_6)] 113 (0,0)))∧Aside0 (Below w.heap.size w w'))
            case atStart=>exact ⟨(x4_2),H',⟨Nat.le_refl _⟩,⟨by (with_reducible repeat (first|apply Kd.R_alloc|apply Kd.R_drewN|apply Kd.R_drew));exact HO_4.out⟩,⟨by (with_reducible repeat (first|refine blk_drewN ?_ _|refine blk_drew ?_|refine blk_alloc ?_ _));exact BK167.out⟩,⟨by repeat (first|(with_reducible first|exact HB.out|apply below_alloc|apply pw_below_drewN|apply below_drew1|refine below_set ?_ GE167.out)|exact HB.out)⟩⟩
            case round =>
             clear H'
             try clear c1
             try clear p1
             try clear q1
             try clear hx1
             try clear qi1
             try clear p2
             try clear q2
             try clear hx2
             try clear c3
             try clear c4
             try clear c5
             try clear c6
             try clear p6
             try clear c7
             try clear c8
             try clear c9
             try clear c10
             try clear c11
             try clear c13
             try clear p19
             try clear q19
             try clear hx19
             try clear qi19
             try clear p20
             try clear q20
             try clear hx20
             try clear p21
             try clear q21
             try clear hx21
             try clear p22
             try clear q22
             try clear hx22
             try clear c39
             try clear c39b0
             try clear c40
             try clear c40b0
             try clear c40b1
             try clear c42
             try clear c48
             try clear c48b0
             try clear c49
             try clear c49b0
             try clear c50
             try clear c50b0
             try clear c52
             try clear c53
             try clear c53b0
             try clear c55
             try clear c55b0
             try clear c56
             try clear c56b0
             try clear c58
             try clear p64
             try clear c66
             try clear c66b0
             try clear c68
             try clear hcz16_0
             try clear hcz16_1
             try clear hcz16_2
             try clear hcz16_3
             try clear hcz16_4
             try clear hcz16_5
             try clear hcz16_6
             try clear hcz18_0
             try clear hcz18_1
             try clear hcz18_2
             try clear hcz18_3
             try clear hcz18_4
             try clear hcz18_5
             try clear hcz18_6
             try clear hcz22_0
             try clear hcz22_1
             try clear hcz22_2
             try clear hcz22_3
             try clear hcz22_4
             try clear hcz22_5
             try clear hcz22_6
             try clear hcz26_0
             try clear hcz26_1
             try clear hcz26_2
             try clear hcz26_3
             try clear hcz26_4
             try clear hcz26_5
             try clear hcz26_6
             try clear hcz30_0
             try clear hcz30_1
             try clear hcz30_2
             try clear hcz30_3
             try clear hcz30_4
             try clear hcz30_5
             try clear hcz30_6
             try clear hcz34_0
             try clear hcz34_1
             try clear hcz34_2
             try clear hcz34_3
             try clear hcz34_4
             try clear hcz34_5
             try clear hcz34_6
             try clear hcz38_0
             try clear hcz38_1
             try clear hcz38_2
             try clear hcz38_3
             try clear hcz38_4
             try clear hcz38_5
             try clear hcz38_6
             try clear hcz43_0
             try clear hcz43_1
             try clear hcz43_2
             try clear hcz43_3
             try clear hcz43_4
             try clear hcz43_5
             try clear hcz43_6
             try clear hcz47_0
             try clear hcz47_1
             try clear hcz47_2
             try clear hcz47_3
             try clear hcz47_4
             try clear hcz47_5
             try clear hcz47_6
             try clear hcz62_0
             try clear hcz62_1
             try clear hcz62_2
             try clear hcz62_3
             try clear hcz62_4
             try clear hcz62_5
             try clear hcz62_6
             try clear hcz72_0
             try clear hcz72_1
             try clear hcz72_2
             try clear hcz72_3
             try clear hcz72_4
             try clear hcz72_5
             try clear hcz72_6
             try clear hfz16_0
             try clear hfz16_1
             try clear hfz16_2
             try clear hfz16_3
             try clear hfz16_4
             try clear hfz16_5
             try clear hfz16_6
             try clear hfz18_0
             try clear hfz18_1
             try clear hfz18_2
             try clear hfz18_3
             try clear hfz18_4
             try clear hfz18_5
             try clear hfz18_6
             try clear hfz22_0
             try clear hfz22_1
             try clear hfz22_2
             try clear hfz22_3
             try clear hfz22_4
             try clear hfz22_5
             try clear hfz22_6
             try clear hfz26_0
             try clear hfz26_1
             try clear hfz26_2
             try clear hfz26_3
             try clear hfz26_4
             try clear hfz26_5
             try clear hfz26_6
             try clear hfz30_0
             try clear hfz30_1
             try clear hfz30_2
             try clear hfz30_3
             try clear hfz30_4
             try clear hfz30_5
             try clear hfz30_6
             try clear hfz34_0
             try clear hfz34_1
             try clear hfz34_2
             try clear hfz34_3
             try clear hfz34_4
             try clear hfz34_5
             try clear hfz34_6
             try clear hfz38_0
             try clear hfz38_1
             try clear hfz38_2
             try clear hfz38_3
             try clear hfz38_4
             try clear hfz38_5
             try clear hfz38_6
             try clear hfz43_0
             try clear hfz43_1
             try clear hfz43_2
             try clear hfz43_3
             try clear hfz43_4
             try clear hfz43_5
             try clear hfz43_6
             try clear hfz47_0
             try clear hfz47_1
             try clear hfz47_2
             try clear hfz47_3
             try clear hfz47_4
             try clear hfz47_5
             try clear hfz47_6
             try clear hfz62_0
             try clear hfz62_1
             try clear hfz62_2
             try clear hfz62_3
             try clear hfz62_4
             try clear hfz62_5
             try clear hfz62_6
             try clear hfz72_0
             try clear hfz72_1
             try clear hfz72_2
             try clear hfz72_3
             try clear hfz72_4
             try clear hfz72_5
             try clear hfz72_6
             try clear hx199_0
             try clear hx206_0
             try clear hx213_0
             try clear hx220_0
             try clear p1
             try clear p19
             try clear p199
             try clear p2
             try clear p206
             try clear p213
             try clear p220
             try clear q1
             try clear q19
             try clear q199
             try clear q206
             try clear q213
             try clear q220
             obtain ⟨x4_3,HA,HK3,HO_4,BK167,HB⟩:=hrel
             cases gk with
             | zero=>exact absurd (show none=some _ from HA.out) (by simp)
             | succ k3 =>
              have H:=HA.out
              clear HA
              rw [latticeref06_Encode.l1_s] at H
              by_cases c76:(x4_3.length:Int) < 252
              ·rw [if_pos c76] at H
               have c76b0:decide ((x4_3.length:Int) < 252)=true:=decide_eq_true c76
               have c76b1:decide (x4_3.length < 252)=true:=decide_eq_true (by omega)
               clear c76
               by_cases c77:x4_3.length < 140737488355328
               ·rw [if_pos c77] at H
                have LMc77:=Aside0.mk c77
                clear c77
                obtain ⟨y227,hy227⟩:∃ y_:List Int,y_=(x4_3++[0]):=⟨_,rfl⟩
                replace H:(latticeref06_Encode.l1 k3 y227)=some (r1,r2):=by first|(rw [hy227];with_reducible exact H)|(have H2_:=(Option.bind_some _ _).symm.trans H;rw [hy227];with_reducible exact H2_)|(have H2_:=(Option.bind_some _ _).symm.trans H;with_reducible exact H2_)|with_reducible exact H|(rw [hy227];exact H)|exact H
                have Ny227:=Aside0.mk hy227
                clear hy227
                have H':=Aside0.mk H
                clear H
                obtain ⟨Ao78,co78,eo78⟩:=Kd.R_slice HO_4.out
                subst eo78
                go_wp2_with (first|((with_reducible refine gate_builtin (b:=.append) (xs:=#[.tmp 82,.tmp 83]) rfl ?_);at_builtin;refine Kd.R_append (Kd.int .u8) (w0:=w) w.heap.size rfl (.tmp 82) (.tmp 83) 67 5 (.int .u8 0) 1 rfl Try.underlying67 info5 rfl (by decide) (by omega) (.slice Ao78 x4_3.length co78) x4_3 0 [.int .u8 0] (fun _=>True) (fun _=>False) rfl rfl ?aP (fun _ hk=>hk.elim) ?aF ?aO ?aB ?aS ?aL ?_;(case aP=>exact rfl);(case aB=>exact (by repeat (first|(with_reducible first|exact HB.out|apply below_alloc|apply pw_below_drewN|apply below_drew1|refine below_set ?_ GE167.out)|exact HB.out)));(case aF=>exact (fun _ _=>trivial));(case aO=>exact (by (with_reducible repeat (first|apply Kd.R_alloc|apply Kd.R_drewN|apply Kd.R_drew));exact HO_4.out));(case aS=>exact (below_size (by repeat (first|(with_reducible first|exact HB.out|apply below_alloc|apply pw_below_drewN|apply below_drew1|refine below_set ?_ GE167.out)|exact HB.out))));(case aL=>have:=LMc77.out;omega);intro v228 w79 ho hb hg hat;rw [← Ny227.out] at ho;have n0_:=Aside0.mk (blk_grown (g:=gb167) (o:=.cells #[.int .i64 a0_0,.int .i64 a0_1,.int .i64 a0_2,.string a0_3,.slice A0_4 l0_4.length c0_4,.slice A0_5 l0_5.length c0_5,.slice A0_6 l0_6.length c0_6] 113 (0,0)) (by (with_reducible repeat (first|refine blk_drewN ?_ _|refine blk_drew ?_|refine blk_alloc ?_ _));exact BK167.out) hg (Kd.R_ne HO_4.out BK167.out (by decide)));have n1_:=Aside0.mk (hb);have n2_:=Aside0.mk (ho);clear BK167;clear HB;clear HO_4;have BK167:=n0_;have HB:=n1_;have HO229:=n2_;clear n0_ n1_ n2_;clear ho hb hg hat))
                go_roundg k3
                case measure=>have:=HJ13.out;have:=HK2.out;have:=HK3.out;omega
                case rel=>exact ⟨(y227),H',⟨by have:=HJ13.out;have:=HK2.out;have:=HK3.out;omega⟩,⟨by (with_reducible repeat (first|apply Kd.R_alloc|apply Kd.R_drewN|apply Kd.R_drew));exact HO229.out⟩,⟨by (with_reducible repeat (first|refine blk_drewN ?_ _|refine blk_drew ?_|refine blk_alloc ?_ _));exact BK167.out⟩,⟨by repeat (first|(with_reducible first|exact HB.out|apply below_alloc|apply pw_below_drewN|apply below_drew1|refine below_set ?_ GE167.out)|exact HB.out)⟩⟩
               ·rw [if_neg c77] at H
                exact absurd H (by simp)
              ·rw [if_neg c76] at H
               have c76b0:decide ((x4_3.length:Int) < 252)=false:=decide_eq_false c76
               have c76b1:decide (x4_3.length < 252)=false:=decide_eq_false (by omega)
               clear c76
               replace H:=Option.bind_eq_some_iff.mp H
               obtain ⟨t230,A800,H⟩:=H
               try dsimp only at H
               have A80:=Aside0.mk A800
               clear A800
               simp only [Option.some.injEq,Prod.mk.injEq] at H
               obtain ⟨rfl,rfl⟩:=H
               obtain ⟨Ao81,co81,eo81⟩:=Kd.R_slice HO_4.out
               subst eo81
               go_wp2_with (first|((with_reducible refine gate_callee (f:=90) rfl ?_);refine goesL_ (some 86) rfl rfl Try.func90 (by kernel_rfl) rfl #[.slice Ao81 x4_3.length co81] rfl (by (try simp only [List.map_toArray,List.map_cons,List.map_nil]);first|done|rfl|(simp only [List.length_drop,List.length_take];rfl)) ?_;(with_reducible refine (latticeref02_Seal.calls _ _ x4_3 t230 _ ?side1 ?side2 A80.out).mono ?_);(case side1=>repeat (first|exact (Kd.R_reads' HO_4.out).2.2|(with_reducible refine Kd.C_alloc ?_ _)|(with_reducible refine Kd.C_drewN ?_ _)|(with_reducible refine Kd.C_drew ?_)));(case side2=>exact (Kd.R_reads' HO_4.out).2.1);rintro e w82 ⟨v231,rfl,ho0,hb⟩;refine ⟨_,rfl,?_⟩;have n0_:=Aside0.mk (Kd.R_elder' (by (with_reducible repeat (first|apply Kd.R_alloc|apply Kd.R_drewN|apply Kd.R_drew));exact HO_4.out) (Kd.R_base ho0) hb);have n1_:=Aside0.mk (Kd.R_lower (Kd.R_new' ho0 (Kd.R_lt (by (with_reducible repeat (first|apply Kd.R_alloc|apply Kd.R_drewN|apply Kd.R_drew));exact HO_4.out))) (below_size (by repeat (first|(with_reducible first|exact HB.out|apply below_alloc|apply pw_below_drewN|apply below_drew1|refine below_set ?_ GE167.out)|exact HB.out))));have n2_:=Aside0.mk (blk_below (g:=gb167) (o:=.cells #[.int .i64 a0_0,.int .i64 a0_1,.int .i64 a0_2,.string a0_3,.slice A0_4 l0_4.length c0_4,.slice A0_5 l0_5.length c0_5,.slice A0_6 l0_6.length c0_6] 113 (0,0)) (by (with_reducible repeat (first|refine blk_drewN ?_ _|refine blk_drew ?_|refine blk_alloc ?_ _));exact BK167.out) hb);have n3_:=Aside0.mk (below_step (by repeat (first|(with_reducible first|exact HB.out|apply below_alloc|apply pw_below_drewN|apply below_drew1|refine below_set ?_ GE167.out)|exact HB.out)) hb);clear HO_4;clear BK167;clear HB;have HO_4:=n0_;have HO232:=n1_;have BK167:=n2_;have HB:=n3_;clear n0_ n1_ n2_ n3_;(try clear hb);(try clear hb2);(try clear hk);(try clear hi);(try clear ho0)))
               go_ret2
               exact ⟨_,by first|rfl|(simp [errW_none,errW_some] <;> rfl)|(simp [*,errW_none,errW_some] <;> rfl),by (with_reducible repeat (first|apply Kd.R_alloc|apply Kd.R_drewN|apply Kd.R_drew));exact Kd.R_mono HO232.out (fun _ hk=>trivial),by repeat (first|(with_reducible first|exact HB.out|apply below_alloc|apply pw_below_drewN|apply below_drew1|refine below_set ?_ GE167.out)|exact HB.out)⟩
      ·rw [if_neg c13] at H
       exact absurd H (by simp)
     ·rw [if_neg c11] at H
      exact absurd H (by simp)
    ·rw [if_neg c9] at H
     exact absurd H (by simp)
   ·rw [if_neg c7] at H
    exact absurd H (by simp)
  ·rw [if_neg c5] at H
   exact absurd H (by simp)
 ·replace c3:=Bool.eq_false_iff.mpr c3
  subst c3
  have H1:(some (([]:List Int),60))=some (r1,r2):=by rw [if_neg (show ¬ (false=true) by decide)] at H;exact H
  clear H
  have H:=H1
  clear H1
  simp only [Option.some.injEq,Prod.mk.injEq] at H
  obtain ⟨rfl,rfl⟩:=H
  go_enter Try.func87,Try.ntmps87
  go_wp2_with (first|((with_reducible refine gate_dst (N:=1) rfl ?_);refine box_event ?hg (N:=1) ?hd (cs:=#[.int .i64 a0_0,.int .i64 a0_1,.int .i64 a0_2,.string a0_3,.slice A0_4 l0_4.length c0_4,.slice A0_5 l0_5.length c0_5,.slice A0_6 l0_6.length c0_6]) (t:=113) ?hr ?_;(case hd=>rfl);(case hg=>rfl);(case hr=>first|(go_simp;done)|(go_simp;rfl));intro gb167 hg w83 hbox hb;have n0_:=Aside0.mk (below_step (by repeat (first|(with_reducible first|exact HB.out|apply below_alloc|apply pw_below_drewN|apply below_drew1)|exact HB.out)) hb);have n1_:=Aside0.mk (hbox);have n2_:=Aside0.mk ((by rw [hg];exact (below_size (by repeat (first|(with_reducible first|exact HB.out|apply below_alloc|apply pw_below_drewN|apply below_drew1)|exact HB.out))):w.heap.size≤gb167));have n3_:=Aside0.mk ((by rw [hg];exact (below_size (by repeat (first|(with_reducible first|exact HB.out|apply below_alloc|apply pw_below_drewN|apply below_drew1)|exact HB.out))):w.heap.size≤gb167));clear HB;have HB:=n0_;have BK167:=n1_;have GW167:=n2_;have GE167:=n3_;clear n0_ n1_ n2_ n3_;clear hb hbox hg;have hcz84_0:w83.cell? ⟨gb167,0,none⟩=some (.int .i64 a0_0):=(blk_cell BK167.out 0).trans rfl;have hcz84_1:w83.cell? ⟨gb167,1,none⟩=some (.int .i64 a0_1):=(blk_cell BK167.out 1).trans rfl;have hcz84_2:w83.cell? ⟨gb167,2,none⟩=some (.int .i64 a0_2):=(blk_cell BK167.out 2).trans rfl;have hcz84_3:w83.cell? ⟨gb167,3,none⟩=some (.string a0_3):=(blk_cell BK167.out 3).trans rfl;have hcz84_4:w83.cell? ⟨gb167,4,none⟩=some (.slice A0_4 l0_4.length c0_4):=(blk_cell BK167.out 4).trans rfl;have hcz84_5:w83.cell? ⟨gb167,5,none⟩=some (.slice A0_5 l0_5.length c0_5):=(blk_cell BK167.out 5).trans rfl;have hcz84_6:w83.cell? ⟨gb167,6,none⟩=some (.slice A0_6 l0_6.length c0_6):=(blk_cell BK167.out 6).trans rfl;have hfz84_0:=blk_frozen BK167.out 0;have hfz84_1:=blk_frozen BK167.out 1;have hfz84_2:=blk_frozen BK167.out 2;have hfz84_3:=blk_frozen BK167.out 3;have hfz84_4:=blk_frozen BK167.out 4;have hfz84_5:=blk_frozen BK167.out 5;have hfz84_6:=blk_frozen BK167.out 6)|((with_reducible refine gate_callee (f:=102) rfl ?_);refine goesL_ (some 8) rfl rfl Try.func102 (by kernel_rfl) rfl #[.agg #[.int .i64 a0_0,.int .i64 a0_1,.int .i64 a0_2,.string a0_3,.slice A0_4 l0_4.length c0_4,.slice A0_5 l0_5.length c0_5,.slice A0_6 l0_6.length c0_6]] rfl (by (try simp only [List.map_toArray,List.map_cons,List.map_nil]);first|done|rfl|(simp only [List.length_drop,List.length_take];rfl)) ?_;(with_reducible refine (latticeref06_Right.calls k a0_0 a0_1 a0_2 a0_3 _ _ l0_4 _ _ l0_5 _ _ l0_6 false _ ?side1 ?side2 ?side3 ?side4 ?side5 ?side6 A2.out).mono ?_);(case side1=>repeat (first|exact (Kd.C_below HR0_4.out HB.out)|(with_reducible refine Kd.C_alloc ?_ _)|(with_reducible refine Kd.C_drewN ?_ _)|(with_reducible refine Kd.C_drew ?_)));(case side2=>exact HC0_4.out);(case side3=>repeat (first|exact (Kd.C_below HR0_5.out HB.out)|(with_reducible refine Kd.C_alloc ?_ _)|(with_reducible refine Kd.C_drewN ?_ _)|(with_reducible refine Kd.C_drew ?_)));(case side4=>exact HC0_5.out);(case side5=>repeat (first|exact (Kd.C_below HR0_6.out HB.out)|(with_reducible refine Kd.C_alloc ?_ _)|(with_reducible refine Kd.C_drewN ?_ _)|(with_reducible refine Kd.C_drew ?_)));(case side6=>exact HC0_6.out);rintro e w85 ⟨rfl,hb⟩;refine ⟨_,rfl,?_⟩;have n0_:=Aside0.mk (blk_below (g:=gb167) (o:=.cells #[.int .i64 a0_0,.int .i64 a0_1,.int .i64 a0_2,.string a0_3,.slice A0_4 l0_4.length c0_4,.slice A0_5 l0_5.length c0_5,.slice A0_6 l0_6.length c0_6] 113 (0,0)) (by (with_reducible repeat (first|refine blk_drewN ?_ _|refine blk_drew ?_|refine blk_alloc ?_ _));exact BK167.out) hb);have n1_:=Aside0.mk (below_step (by repeat (first|(with_reducible first|exact HB.out|apply below_alloc|apply pw_below_drewN|apply below_drew1|refine below_set ?_ GE167.out)|exact HB.out)) hb);clear BK167;clear HB;have BK167:=n0_;have HB:=n1_;clear n0_ n1_;(try clear hb);(try clear hb2);(try clear hk);(try clear hi)))
  go_ret2
  exact ⟨_,by first|rfl|(simp [errW_none,errW_some] <;> rfl)|(simp [*,errW_none,errW_some] <;> rfl),by first|exact Kd.R_nil _ _ _ _ _|exact Kd.N_nil _ _ _ _ _|exact Kd.V_nil _ _ _ _ _|exact Kd.Q_nil _ _ _ _ _|exact Kd.S_nil _ _ _ _ _,by repeat (first|(with_reducible first|exact HB.out|apply below_alloc|apply pw_below_drewN|apply below_drew1|refine below_set ?_ GE167.out)|exact HB.out)⟩
end Go.Proofs.Ytgjibcfkjaedfaa.Pr
