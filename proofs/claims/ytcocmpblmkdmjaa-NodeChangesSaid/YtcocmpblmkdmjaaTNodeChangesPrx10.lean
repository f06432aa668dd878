-- A part of the text Prx10, thinned by a program of this session.
import Derived.Test.YtcocmpblmkdmjaaTNodeChangesPrx0
import Derived.Test.YtcocmpblmkdmjaaTNodeChangesPrx4
import Derived.Test.YtcocmpblmkdmjaaTNodeChangesPrx6
import Derived.Test.YtcocmpblmkdmjaaTNodeChangesPrx9
namespace Go.Proofs.Ytcocmpblmkdmjaa.Pr
open Go.RowKit Go.Proofs.YtcocmpblmkdmjaaW.PrintWords Go.Proofs.YtcocmpblmkdmjaaW.PrintLast Go.Proofs.YtcocmpblmkdmjaaW.PrintMore
attribute [local go_sem] max2_int min2_int max_two min_two max_three min_three max_four min_four
set_option linter.unusedVariables false
set_option linter.unusedSimpArgs false
def node_own.f (a0_0:Int) (a0_1:Int) (a0_2:Int) (a0_3:ByteArray) (l0_4:List ByteArray) (l0_5:List ByteArray) (l0_6:List Int):Option (Int×Int×Int×ByteArray×List ByteArray×List ByteArray×List Int):=(slices_Clone_string_string.f l0_4).bind fun t177=>((slices_Clone_string_string.f l0_5).bind fun t180=>((slices_Clone_int_int.f l0_6).bind fun t183=>(some (a0_0,a0_1,a0_2,a0_3,t177,t180,t183))))
def node_own.T1:Bool×List (List Nat×List Nat):=(true,[([],[]),([0],[0]),([1],[1]),([],[]),([3],[3]),([4,2],[4]),([],[]),([6],[6]),([7,5],[7]),([0,1,2,3,4,6,7],[]),([9,2,8,0,1,2,3,4,6,7],[2,9]),([0,1,2,3,4,5,6,7,9,10],[]),([11,5,10,0,1,2,3,4,5,6,7,9,10],[5,11]),([0,1,2,3,4,5,6,7,8,9,10,11,12],[]),([13,8,12,0,1,2,3,4,5,6,7,8,9,10,11,12],[8,13])])
def node_own.B1:List Nat:=[0,1,3,0,8,31,0,64,255,223,1023,2047,4095,8191,16383]
theorem node_own.tab1:rtab .any (opsOf Try.f38 1)=node_own.T1:=by kernel_rfl
theorem node_own.bits1:waitsOk node_own.T1.2 node_own.B1=true:=by kernel_rfl
set_option maxHeartbeats 8000000 in
set_option maxRecDepth 100000 in
theorem node_own.calls (a0_0:Int) (a0_1:Int) (a0_2:Int) (a0_3:ByteArray) (A0_4:Option Addr) (c0_4:Nat) (l0_4:List ByteArray) (A0_5:Option Addr) (c0_5:Nat) (l0_5:List ByteArray) (A0_6:Option Addr) (c0_6:Nat) (l0_6:List Int) (r1:Int) (r2:Int) (r3:Int) (r4:ByteArray) (r5:List ByteArray) (r6:List ByteArray) (r7:List Int) (w:World) (hr0_4:Kd.C Kd.string w A0_4 l0_4.length l0_4) (hc0_4:l0_4.length≤c0_4) (hr0_5:Kd.C Kd.string w A0_5 l0_5.length l0_5) (hc0_5:l0_5.length≤c0_5) (hr0_6:Kd.C (Kd.int .i64) w A0_6 l0_6.length l0_6) (hc0_6:l0_6.length≤c0_6) (h:node_own.f a0_0 a0_1 a0_2 a0_3 l0_4 l0_5 l0_6=some (r1,r2,r3,r4,r5,r6,r7)) :
  Calls Try.prog 38 #[.agg #[.int .i64 a0_0,.int .i64 a0_1,.int .i64 a0_2,.string a0_3,.slice A0_4 l0_4.length c0_4,.slice A0_5 l0_5.length c0_5,.slice A0_6 l0_6.length c0_6]] w fun e w'=>∃ v4_ v5_ v6_:Value,e=.returned (.agg #[.int .i64 r1,.int .i64 r2,.int .i64 r3,.string r4,v4_,v5_,v6_])∧Kd.R Kd.string 9 w' w.heap.size (fun k_=>some k_≠(v5_:Value).ownBlock) v4_ r5∧Kd.R Kd.string 9 w' w.heap.size (fun k_=>some k_≠(v4_:Value).ownBlock) v5_ r6∧Kd.R (Kd.int .i64) 3 w' w.heap.size (fun _=>True) v6_ r7∧Below w.heap.size w w':=by
 have hu25:=Try.underlying25
 have HR0_4:=Aside0.mk hr0_4
 have HC0_4:=Aside0.mk hc0_4
 clear hr0_4 hc0_4
 have HR0_5:=Aside0.mk hr0_5
 have HC0_5:=Aside0.mk hc0_5
 clear hr0_5 hc0_5
 have HR0_6:=Aside0.mk hr0_6
 have HC0_6:=Aside0.mk hc0_6
 clear hr0_6 hc0_6
 have HB:=Aside0.mk (Below.refl w.heap.size w)
 have H:((slices_Clone_string_string.f l0_4).bind fun t177=>((slices_Clone_string_string.f l0_5).bind fun t180=>((slices_Clone_int_int.f l0_6).bind fun t183=>(some (a0_0,a0_1,a0_2,a0_3,t177,t180,t183)))))=some (r1,r2,r3,r4,r5,r6,r7):=h
 clear h
 replace H:=Option.bind_eq_some_iff.mp H
 obtain ⟨t177,A20,H⟩:=H
 try dsimp only at H
 have A2:=Aside0.mk A20
 clear A20
 replace H:=Option.bind_eq_some_iff.mp H
 obtain ⟨t180,A30,H⟩:=H
 try dsimp only at H
 have A3:=Aside0.mk A30
 clear A30
 replace H:=Option.bind_eq_some_iff.mp H
 obtain ⟨t183,A40,H⟩:=H
 try dsimp only at H
 have A4:=Aside0.mk A40
 clear A40
 simp only [Option.some.injEq,Prod.mk.injEq] at H
 obtain ⟨rfl,rfl,rfl,rfl,rfl,rfl,rfl⟩:=H
 go_enter Try.func38,Try.ntmps38
 try go_wp2_with (first|((with_reducible refine gate_dst (N:=1) rfl ?_);refine box_event ?hg (N:=1) ?hd (cs:=#[.int .i64 a0_0,.int .i64 a0_1,.int .i64 a0_2,.string a0_3,.slice A0_4 l0_4.length c0_4,.slice A0_5 l0_5.length c0_5,.slice A0_6 l0_6.length c0_6]) (t:=25) ?hr ?_;(case hd=>rfl);(case hg=>rfl);(case hr=>first|(go_simp;done)|(go_simp;rfl));intro gb175 hg w5 hbox hb;have n0_:=Aside0.mk (below_step (by repeat (first|(with_reducible first|exact HB.out|apply below_alloc|apply pw_below_drewN|apply below_drew1)|exact HB.out)) hb);have n1_:=Aside0.mk (hbox);have n2_:=Aside0.mk ((by rw [hg];exact (below_size (by repeat (first|(with_reducible first|exact HB.out|apply below_alloc|apply pw_below_drewN|apply below_drew1)|exact HB.out))):w.heap.size≤gb175));have n3_:=Aside0.mk ((by rw [hg];exact (below_size (by repeat (first|(with_reducible first|exact HB.out|apply below_alloc|apply pw_below_drewN|apply below_drew1)|exact HB.out))):w.heap.size≤gb175));clear HB;have HB:=n0_;have BK175:=n1_;have GW175:=n2_;have GE175:=n3_;clear n0_ n1_ n2_ n3_;clear hb hbox hg)|((with_reducible refine gate_dst (N:=2) rfl ?_);refine box_event ?hg (N:=2) ?hd (cs:=#[.int .i64 0,.int .i64 0,.int .i64 0,.string (⟨#[]⟩:ByteArray),.slice none 0 0,.slice none 0 0,.slice none 0 0]) (t:=25) ?hr ?_;(case hd=>rfl);(case hg=>rfl);(case hr=>first|(go_simp;done)|(go_simp;rfl));intro gb176 hg w6 hbox hb;have n0_:=Aside0.mk (blk_below (g:=gb175) (o:=.cells #[.int .i64 a0_0,.int .i64 a0_1,.int .i64 a0_2,.string a0_3,.slice A0_4 l0_4.length c0_4,.slice A0_5 l0_5.length c0_5,.slice A0_6 l0_6.length c0_6] 25 (0,0)) (by (with_reducible repeat (first|refine blk_drewN ?_ _|refine blk_drew ?_|refine blk_alloc ?_ _));exact BK175.out) hb);have n1_:=Aside0.mk (below_step (by repeat (first|(with_reducible first|exact HB.out|apply below_alloc|apply pw_below_drewN|apply below_drew1|refine below_set ?_ GE175.out)|exact HB.out)) hb);have n2_:=Aside0.mk (hbox);have n3_:=Aside0.mk ((by rw [hg];exact (below_size (by repeat (first|(with_reducible first|exact HB.out|apply below_alloc|apply pw_below_drewN|apply below_drew1|refine below_set ?_ GE175.out)|exact HB.out))):w.heap.size≤gb176));have n4_:=Aside0.mk ((by rw [hg];exact (below_size (by repeat (first|(with_reducible first|exact HB.out|apply below_alloc|apply pw_below_drewN|apply below_drew1|refine below_set ?_ GE175.out)|exact HB.out))):w.heap.size≤gb176));have n5_:=Aside0.mk ((by rw [hg];exact Nat.ne_of_lt (blk_lt (g:=gb175) (o:=.cells #[.int .i64 a0_0,.int .i64 a0_1,.int .i64 a0_2,.string a0_3,.slice A0_4 l0_4.length c0_4,.slice A0_5 l0_5.length c0_5,.slice A0_6 l0_6.length c0_6] 25 (0,0)) (by (with_reducible repeat (first|refine blk_drewN ?_ _|refine blk_drew ?_|refine blk_alloc ?_ _));exact BK175.out)):gb175≠gb176));have n6_:=Aside0.mk ((by rw [hg];exact Nat.ne_of_gt (blk_lt (g:=gb175) (o:=.cells #[.int .i64 a0_0,.int .i64 a0_1,.int .i64 a0_2,.string a0_3,.slice A0_4 l0_4.length c0_4,.slice A0_5 l0_5.length c0_5,.slice A0_6 l0_6.length c0_6] 25 (0,0)) (by (with_reducible repeat (first|refine blk_drewN ?_ _|refine blk_drew ?_|refine blk_alloc ?_ _));exact BK175.out)):gb176≠gb175));clear BK175;clear HB;have BK175:=n0_;have HB:=n1_;have BK176:=n2_;have GW176:=n3_;have GE176:=n4_;have NB175_176:=n5_;have NB176_175:=n6_;clear n0_ n1_ n2_ n3_ n4_ n5_ n6_;clear hb hbox hg))
 have n0_:=Aside0.mk (blk_drew BK175.out)
 have n1_:=Aside0.mk (blk_drew BK176.out)
 have n2_:=Aside0.mk (below_drew1 HB.out)
 clear BK175
 clear BK176
 clear HB
 have BK175:=n0_
 have BK176:=n1_
 have HB:=n2_
 clear n0_ n1_ n2_
 refine start_ (n:=15) (S:=fun w'=>w'.cell? ⟨gb175,0,none⟩=some (.int .i64 a0_0)∧w'.cell? ⟨gb175,1,none⟩=some (.int .i64 a0_1)∧w'.cell? ⟨gb175,2,none⟩=some (.int .i64 a0_2)∧w'.cell? ⟨gb175,3,none⟩=some (.string a0_3)∧w'.cell? ⟨gb175,4,none⟩=some (.slice A0_4 l0_4.length c0_4)∧w'.cell? ⟨gb175,5,none⟩=some (.slice A0_5 l0_5.length c0_5)∧w'.cell? ⟨gb175,6,none⟩=some (.slice A0_6 l0_6.length c0_6)) (ds:=[10,12,14]) #[false,false,false,false,false,false,false,false,false,false,false,false,false,false,false] (by kernel_rfl) rfl rfl ⟨(blk_cell BK175.out 0).trans rfl,(blk_cell BK175.out 1).trans rfl,(blk_cell BK175.out 2).trans rfl,(blk_cell BK175.out 3).trans rfl,(blk_cell BK175.out 4).trans rfl,(blk_cell BK175.out 5).trans rfl,(blk_cell BK175.out 6).trans rfl⟩ (fun hHeld=>?_);refine with_tabW node_own.tab1 node_own.bits1 (fun HT_ HW_=>?_)
 generalize w6.drew=w7 at BK175 BK176 HB hHeld ⊢
 refine pure_ (i:=0) (N:=some 3) (v:=?_) (a':=?_) #[true,false,false,false,false,false,false,false,false,false,false,false,false,false,false] rfl rfl (any_of HT_.out (by kernel_rfl)) (fun _ _ _ h=>h) (Or.inl ⟨by rfl,?_⟩) ?_ ?_
 rotate_left
 ·intro w'
  go_simp
  with_reducible rfl
 rotate_left
 ·simp only [Act.put,List.setIfInBounds_toArray,List.set_cons_zero,List.set_cons_succ,i64_w,i32_w]
  rfl
 refine pure_ (i:=3) (N:=some 6) (v:=?_) (a':=?_) #[true,false,false,true,false,false,false,false,false,false,false,false,false,false,false] rfl rfl (any_of HT_.out (by kernel_rfl)) (fun _ _ _ h=>h) (Or.inl ⟨by rfl,?_⟩) ?_ ?_
 rotate_left
 ·intro w'
  go_simp
  with_reducible rfl
 rotate_left
 ·simp only [Act.put,List.setIfInBounds_toArray,List.set_cons_zero,List.set_cons_succ,i64_w,i32_w]
  rfl
 refine pure_ (i:=6) (N:=some 9) (v:=?_) (a':=?_) #[true,false,false,true,false,false,true,false,false,false,false,false,false,false,false] rfl rfl (any_of HT_.out (by kernel_rfl)) (fun _ _ _ h=>h) (Or.inl ⟨by rfl,?_⟩) ?_ ?_
 rotate_left
 ·intro w'
  go_simp
  with_reducible rfl
 rotate_left
 ·simp only [Act.put,List.setIfInBounds_toArray,List.set_cons_zero,List.set_cons_succ,i64_w,i32_w]
  rfl
 refine take_ (i:=1) (N:=some 4) (v:=?_) (a':=?_) #[true,true,false,true,false,false,true,false,false,false,false,false,false,false,false] rfl rfl (take_ofW HT_.out HW_.out (by kernel_rfl)) (fun _ _ _ h=>h) (Or.inl ⟨by rfl,?_⟩) hHeld ?_ ?_
 rotate_left
 ·rintro w' ⟨s0,s1,s2,s3,s4,s5,s6⟩
  go_simp
  with_reducible rfl
 rotate_left
 ·simp only [Act.put,List.setIfInBounds_toArray,List.set_cons_zero,List.set_cons_succ,i64_w,i32_w]
  rfl
 refine take_ (i:=4) (N:=some 7) (v:=?_) (a':=?_) #[true,true,false,true,true,false,true,false,false,false,false,false,false,false,false] rfl rfl (take_ofW HT_.out HW_.out (by kernel_rfl)) (fun _ _ _ h=>h) (Or.inl ⟨by rfl,?_⟩) hHeld ?_ ?_
 rotate_left
 ·rintro w' ⟨s0,s1,s2,s3,s4,s5,s6⟩
  go_simp
  with_reducible rfl
 rotate_left
 ·simp only [Act.put,List.setIfInBounds_toArray,List.set_cons_zero,List.set_cons_succ,i64_w,i32_w]
  rfl
 refine take_ (i:=7) (N:=some 10) (v:=?_) (a':=?_) #[true,true,false,true,true,false,true,true,false,false,false,false,false,false,false] rfl rfl (take_ofW HT_.out HW_.out (by kernel_rfl)) (fun _ _ _ h=>h) (Or.inl ⟨by rfl,?_⟩) hHeld ?_ ?_
 rotate_left
 ·rintro w' ⟨s0,s1,s2,s3,s4,s5,s6⟩
  go_simp
  with_reducible rfl
 rotate_left
 ·simp only [Act.put,List.setIfInBounds_toArray,List.set_cons_zero,List.set_cons_succ,i64_w,i32_w]
  rfl
 refine one_ (i:=2) (N:=some 5) #[true,true,true,true,true,false,true,true,false,false,false,false,false,false,false] rfl rfl (one_of HT_.out (by kernel_rfl)) (by decide) (fun K hK=>?_)
 refine goes_ Try.func58 (by kernel_rfl) rfl #[.slice A0_4 l0_4.length c0_4] (by rfl) rfl rfl (by (try simp only [List.map_toArray,List.map_cons,List.map_nil]);first|done|rfl|(simp only [List.length_drop,List.length_take];rfl)) ?_
 with_reducible refine (slices_Clone_string_string.calls _ _ l0_4 t177 _ ?side1 ?side2 A2.out).mono ?_
 (case side1=>repeat (first|exact (Kd.C_below HR0_4.out HB.out)|(with_reducible refine Kd.C_alloc ?_ _)|(with_reducible refine Kd.C_drewN ?_ _)|(with_reducible refine Kd.C_drew ?_)))
 (case side2=>exact HC0_4.out)
 rintro e w8 ⟨v178,rfl,ho0,hb⟩
 refine ⟨_,rfl,?_⟩
 have n0_:=Aside0.mk (Kd.R_lower ho0 (below_size (by repeat (first|(with_reducible first|exact HB.out|apply below_alloc|apply pw_below_drewN|apply below_drew1|refine below_set ?_ GE175.out|refine below_set ?_ GE176.out)|exact HB.out))))
 have n1_:=Aside0.mk (blk_below (g:=gb175) (o:=.cells #[.int .i64 a0_0,.int .i64 a0_1,.int .i64 a0_2,.string a0_3,.slice A0_4 l0_4.length c0_4,.slice A0_5 l0_5.length c0_5,.slice A0_6 l0_6.length c0_6] 25 (0,0)) (by (with_reducible repeat (first|refine blk_drewN ?_ _|refine blk_drew ?_|refine blk_alloc ?_ _));exact BK175.out) hb)
 have n2_:=Aside0.mk (blk_below (g:=gb176) (o:=.cells #[.int .i64 0,.int .i64 0,.int .i64 0,.string (⟨#[]⟩:ByteArray),.slice none 0 0,.slice none 0 0,.slice none 0 0] 25 (0,0)) (by (with_reducible repeat (first|refine blk_drewN ?_ _|refine blk_drew ?_|refine blk_alloc ?_ _));exact BK176.out) hb)
 have n3_:=Aside0.mk (below_step (by repeat (first|(with_reducible first|exact HB.out|apply below_alloc|apply pw_below_drewN|apply below_drew1|refine below_set ?_ GE175.out|refine below_set ?_ GE176.out)|exact HB.out)) hb)
 clear BK175
 clear BK176
 clear HB
 have HO179:=n0_
 have BK175:=n1_
 have BK176:=n2_
 have HB:=n3_
 clear n0_ n1_ n2_ n3_
 (try clear hb)
 (try clear hb2)
 (try clear hk)
 (try clear hi)
 (try clear ho0)
 refine hK.out _ _ ⟨(blk_cell BK175.out 0).trans rfl,(blk_cell BK175.out 1).trans rfl,(blk_cell BK175.out 2).trans rfl,(blk_cell BK175.out 3).trans rfl,(blk_cell BK175.out 4).trans rfl,(blk_cell BK175.out 5).trans rfl,(blk_cell BK175.out 6).trans rfl⟩ (fun hHeld=>?_)
 clear hK K
 refine norm_ (a':=?_) ?_ ?_
 rotate_left
 ·show Act.put _ (some 5) _=_
  simp only [Act.put,List.setIfInBounds_toArray,List.set_cons_zero,List.set_cons_succ,i64_w,i32_w]
  rfl
 refine pure_ (i:=9) (N:=some 12) (v:=?_) (a':=?_) #[true,true,true,true,true,false,true,true,false,true,false,false,false,false,false] rfl rfl (any_of HT_.out (by kernel_rfl)) (fun _ _ _ h=>h) (Or.inl ⟨by rfl,?_⟩) ?_ ?_
 rotate_left
 ·intro w'
  go_simp
  with_reducible rfl
 rotate_left
 ·simp only [Act.put,List.setIfInBounds_toArray,List.set_cons_zero,List.set_cons_succ,i64_w,i32_w]
  rfl
 refine one_ (i:=5) (N:=some 8) #[true,true,true,true,true,true,true,true,false,true,false,false,false,false,false] rfl rfl (one_of HT_.out (by kernel_rfl)) (by decide) (fun K hK=>?_)
 refine goes_ Try.func58 (by kernel_rfl) rfl #[.slice A0_5 l0_5.length c0_5] (by rfl) rfl rfl (by (try simp only [List.map_toArray,List.map_cons,List.map_nil]);first|done|rfl|(simp only [List.length_drop,List.length_take];rfl)) ?_
 with_reducible refine (slices_Clone_string_string.calls _ _ l0_5 t180 _ ?side1 ?side2 A3.out).mono ?_
 (case side1=>repeat (first|exact (Kd.C_below HR0_5.out HB.out)|(with_reducible refine Kd.C_alloc ?_ _)|(with_reducible refine Kd.C_drewN ?_ _)|(with_reducible refine Kd.C_drew ?_)))
 (case side2=>exact HC0_5.out)
 rintro e w9 ⟨v181,rfl,ho0,hb⟩
 refine ⟨_,rfl,?_⟩
 have n0_:=Aside0.mk (Kd.R_elder' (by (with_reducible repeat (first|apply Kd.R_alloc|apply Kd.R_drewN|apply Kd.R_drew));exact HO179.out) (Kd.R_base ho0) hb)
 have n1_:=Aside0.mk (Kd.R_lower (Kd.R_new' ho0 (Kd.R_lt (by (with_reducible repeat (first|apply Kd.R_alloc|apply Kd.R_drewN|apply Kd.R_drew));exact HO179.out))) (below_size (by repeat (first|(with_reducible first|exact HB.out|apply below_alloc|apply pw_below_drewN|apply below_drew1|refine below_set ?_ GE175.out|refine below_set ?_ GE176.out)|exact HB.out))))
 have n2_:=Aside0.mk (blk_below (g:=gb175) (o:=.cells #[.int .i64 a0_0,.int .i64 a0_1,.int .i64 a0_2,.string a0_3,.slice A0_4 l0_4.length c0_4,.slice A0_5 l0_5.length c0_5,.slice A0_6 l0_6.length c0_6] 25 (0,0)) (by (with_reducible repeat (first|refine blk_drewN ?_ _|refine blk_drew ?_|refine blk_alloc ?_ _));exact BK175.out) hb)
 have n3_:=Aside0.mk (blk_below (g:=gb176) (o:=.cells #[.int .i64 0,.int .i64 0,.int .i64 0,.string (⟨#[]⟩:ByteArray),.slice none 0 0,.slice none 0 0,.slice none 0 0] 25 (0,0)) (by (with_reducible repeat (first|refine blk_drewN ?_ _|refine blk_drew ?_|refine blk_alloc ?_ _));exact BK176.out) hb)
 have n4_:=Aside0.mk (below_step (by repeat (first|(with_reducible first|exact HB.out|apply below_alloc|apply pw_below_drewN|apply below_drew1|refine below_set ?_ GE175.out|refine below_set ?_ GE176.out)|exact HB.out)) hb)
 clear HO179
 clear BK175
 clear BK176
 clear HB
 have HO179:=n0_
 have HO182:=n1_
 have BK175:=n2_
 have BK176:=n3_
 have HB:=n4_
 clear n0_ n1_ n2_ n3_ n4_
 (try clear hb)
 (try clear hb2)
 (try clear hk)
 (try clear hi)
 (try clear ho0)
 refine hK.out _ _ ⟨(blk_cell BK175.out 0).trans rfl,(blk_cell BK175.out 1).trans rfl,(blk_cell BK175.out 2).trans rfl,(blk_cell BK175.out 3).trans rfl,(blk_cell BK175.out 4).trans rfl,(blk_cell BK175.out 5).trans rfl,(blk_cell BK175.out 6).trans rfl⟩ (fun hHeld=>?_)
 clear hK K
 refine norm_ (a':=?_) ?_ ?_
 rotate_left
 ·show Act.put _ (some 8) _=_
  simp only [Act.put,List.setIfInBounds_toArray,List.set_cons_zero,List.set_cons_succ,i64_w,i32_w]
  rfl
 refine one_ (i:=8) (N:=some 11) #[true,true,true,true,true,true,true,true,true,true,false,false,false,false,false] rfl rfl (one_of HT_.out (by kernel_rfl)) (by decide) (fun K hK=>?_)
 refine goes_ Try.func59 (by kernel_rfl) rfl #[.slice A0_6 l0_6.length c0_6] (by rfl) rfl rfl (by (try simp only [List.map_toArray,List.map_cons,List.map_nil]);first|done|rfl|(simp only [List.length_drop,List.length_take];rfl)) ?_
 with_reducible refine (slices_Clone_int_int.calls _ _ l0_6 t183 _ ?side1 ?side2 A4.out).mono ?_
 (case side1=>repeat (first|exact (Kd.C_below HR0_6.out HB.out)|(with_reducible refine Kd.C_alloc ?_ _)|(with_reducible refine Kd.C_drewN ?_ _)|(with_reducible refine Kd.C_drew ?_)))
 (case side2=>exact HC0_6.out)
 rintro e w10 ⟨v184,rfl,ho0,hb⟩
 refine ⟨_,rfl,?_⟩
 have n0_:=Aside0.mk (Kd.R_below (by (with_reducible repeat (first|apply Kd.R_alloc|apply Kd.R_drewN|apply Kd.R_drew));exact HO179.out) hb)
 have n1_:=Aside0.mk (Kd.R_below (by (with_reducible repeat (first|apply Kd.R_alloc|apply Kd.R_drewN|apply Kd.R_drew));exact HO182.out) hb)
 have n2_:=Aside0.mk (Kd.R_lower ho0 (below_size (by repeat (first|(with_reducible first|exact HB.out|apply below_alloc|apply pw_below_drewN|apply below_drew1|refine below_set ?_ GE175.out|refine below_set ?_ GE176.out)|exact HB.out))))
 have n3_:=Aside0.mk (blk_below (g:=gb175) (o:=.cells #[.int .i64 a0_0,.int .i64 a0_1,.int .i64 a0_2,.string a0_3,.slice A0_4 l0_4.length c0_4,.slice A0_5 l0_5.length c0_5,.slice A0_6 l0_6.length c0_6] 25 (0,0)) (by (with_reducible repeat (first|refine blk_drewN ?_ _|refine blk_drew ?_|refine blk_alloc ?_ _));exact BK175.out) hb)
 have n4_:=Aside0.mk (blk_below (g:=gb176) (o:=.cells #[.int .i64 0,.int .i64 0,.int .i64 0,.string (⟨#[]⟩:ByteArray),.slice none 0 0,.slice none 0 0,.slice none 0 0] 25 (0,0)) (by (with_reducible repeat (first|refine blk_drewN ?_ _|refine blk_drew ?_|refine blk_alloc ?_ _));exact BK176.out) hb)
 have n5_:=Aside0.mk (below_step (by repeat (first|(with_reducible first|exact HB.out|apply below_alloc|apply pw_below_drewN|apply below_drew1|refine below_set ?_ GE175.out|refine below_set ?_ GE176.out)|exact HB.out)) hb)
 clear HO179
 clear HO182
 clear BK175
 clear BK176
 clear HB
 have HO179:=n0_
 have HO182:=n1_
 have HO185:=n2_
 have BK175:=n3_
 have BK176:=n4_
 have HB:=n5_
 clear n0_ n1_ n2_ n3_ n4_ n5_
 (try clear hb)
 (try clear hb2)
 (try clear hk)
 (try clear hi)
 (try clear ho0)
 obtain ⟨Ao11,co11,eo11⟩:=Kd.R_slice HO179.out
 (first|subst eo11|(injection eo11 with f1_ f2_ f3_;have f4_:=f1_.symm;have f5_:=f3_.symm;clear f1_ f2_ f3_;subst f4_;subst f5_))
 obtain ⟨Ao13,co13,eo13⟩:=Kd.R_slice HO182.out
 (first|subst eo13|(injection eo13 with f1_ f2_ f3_;have f4_:=f1_.symm;have f5_:=f3_.symm;clear f1_ f2_ f3_;subst f4_;subst f5_))
 obtain ⟨Ao15,co15,eo15⟩:=Kd.R_slice HO185.out
 (first|subst eo15|(injection eo15 with f1_ f2_ f3_;have f4_:=f1_.symm;have f5_:=f3_.symm;clear f1_ f2_ f3_;subst f4_;subst f5_))
 refine hK.out _ _ ⟨(blk_cell BK175.out 0).trans rfl,(blk_cell BK175.out 1).trans rfl,(blk_cell BK175.out 2).trans rfl,(blk_cell BK175.out 3).trans rfl,(blk_cell BK175.out 4).trans rfl,(blk_cell BK175.out 5).trans rfl,(blk_cell BK175.out 6).trans rfl⟩ (fun hHeld=>?_)
 clear hK K
 refine norm_ (a':=?_) ?_ ?_
 rotate_left
 ·show Act.put _ (some 11) _=_
  simp only [Act.put,List.setIfInBounds_toArray,List.set_cons_zero,List.set_cons_succ,i64_w,i32_w]
  rfl
 refine last_ (i:=10) (N:=none) #[true,true,true,true,true,true,true,true,true,true,true,false,false,false,false] rfl rfl (one_of HT_.out (by kernel_rfl)) (by decide) (fun K hK=>?_)
 have hs12:w10.cell? ⟨gb175,4,none⟩=some (.slice A0_4 l0_4.length c0_4):=(blk_cell BK175.out 4).trans rfl
 have hfs12:=blk_frozen BK175.out 4
 have hns12_1:=NB176_175.out
 have hms12_1:=NB175_176.out
 refine skip_ (w1:=?_) (by rfl) rfl ?_ ?_
 rotate_left
 ·go_simp
  rfl
 refine hK.out _ _ ?_
 clear hK K
 refine pure_ (i:=11) (N:=some 13) (v:=?_) (a':=?_) #[true,true,true,true,true,true,true,true,true,true,true,true,false,false,false] rfl rfl (any_of HT_.out (by kernel_rfl)) (fun _ _ _ h=>h) (Or.inl ⟨by rfl,?_⟩) ?_ ?_
 rotate_left
 ·intro w'
  go_simp
  with_reducible rfl
 rotate_left
 ·simp only [Act.put,List.setIfInBounds_toArray,List.set_cons_zero,List.set_cons_succ,i64_w,i32_w]
  rfl
 refine last_ (i:=12) (N:=none) #[true,true,true,true,true,true,true,true,true,true,true,true,true,false,false] rfl rfl (one_of HT_.out (by kernel_rfl)) (by decide) (fun K hK=>?_)
 have hs14:w10.cell? ⟨gb175,5,none⟩=some (.slice A0_5 l0_5.length c0_5):=(blk_cell BK175.out 5).trans rfl
 have hfs14:=blk_frozen BK175.out 5
 have hns14_1:=NB176_175.out
 have hms14_1:=NB175_176.out
 refine skip_ (w1:=?_) (by rfl) rfl ?_ ?_
 rotate_left
 ·go_simp
  rfl
 refine hK.out _ _ ?_
 clear hK K
 refine pure_ (i:=13) (N:=some 14) (v:=?_) (a':=?_) #[true,true,true,true,true,true,true,true,true,true,true,true,true,true,false] rfl rfl (any_of HT_.out (by kernel_rfl)) (fun _ _ _ h=>h) (Or.inl ⟨by rfl,?_⟩) ?_ ?_
 rotate_left
 ·intro w'
  go_simp
  with_reducible rfl
 rotate_left
 ·simp only [Act.put,List.setIfInBounds_toArray,List.set_cons_zero,List.set_cons_succ,i64_w,i32_w]
  rfl
 refine last_ (i:=14) (N:=none) #[true,true,true,true,true,true,true,true,true,true,true,true,true,true,true] rfl rfl (one_of HT_.out (by kernel_rfl)) (by decide) (fun K hK=>?_)
 have hs16:w10.cell? ⟨gb175,6,none⟩=some (.slice A0_6 l0_6.length c0_6):=(blk_cell BK175.out 6).trans rfl
 have hfs16:=blk_frozen BK175.out 6
 have hns16_1:=NB176_175.out
 have hms16_1:=NB175_176.out
 refine skip_ (w1:=?_) (by rfl) rfl ?_ ?_
 rotate_left
 ·go_simp
  rfl
 refine hK.out _ _ ?_
 clear hK K
 refine done_ (done_of HT_.out (by kernel_rfl)) ?_
 have hnb17:=NB175_176.out
 have hnc17:=NB176_175.out
 have hcz18_0:w10.cell? ⟨gb175,0,none⟩=some (.int .i64 a0_0):=(blk_cell BK175.out 0).trans rfl
 have hcz18_1:w10.cell? ⟨gb175,1,none⟩=some (.int .i64 a0_1):=(blk_cell BK175.out 1).trans rfl
 have hcz18_2:w10.cell? ⟨gb175,2,none⟩=some (.int .i64 a0_2):=(blk_cell BK175.out 2).trans rfl
 have hcz18_3:w10.cell? ⟨gb175,3,none⟩=some (.string a0_3):=(blk_cell BK175.out 3).trans rfl
 have hcz18_4:w10.cell? ⟨gb175,4,none⟩=some (.slice A0_4 l0_4.length c0_4):=(blk_cell BK175.out 4).trans rfl
 have hcz18_5:w10.cell? ⟨gb175,5,none⟩=some (.slice A0_5 l0_5.length c0_5):=(blk_cell BK175.out 5).trans rfl
 have hcz18_6:w10.cell? ⟨gb175,6,none⟩=some (.slice A0_6 l0_6.length c0_6):=(blk_cell BK175.out 6).trans rfl
 have hfz18_0:=blk_frozen BK175.out 0
 have hfz18_1:=blk_frozen BK175.out 1
 have hfz18_2:=blk_frozen BK175.out 2
 have hfz18_3:=blk_frozen BK175.out 3
 have hfz18_4:=blk_frozen BK175.out 4
 have hfz18_5:=blk_frozen BK175.out 5
 have hfz18_6:=blk_frozen BK175.out 6
 have hcz19_0:w10.cell? ⟨gb176,0,none⟩=some (.int .i64 0):=(blk_cell BK176.out 0).trans rfl
 have hcz19_1:w10.cell? ⟨gb176,1,none⟩=some (.int .i64 0):=(blk_cell BK176.out 1).trans rfl
 have hcz19_2:w10.cell? ⟨gb176,2,none⟩=some (.int .i64 0):=(blk_cell BK176.out 2).trans rfl
 have hcz19_3:w10.cell? ⟨gb176,3,none⟩=some (.string (⟨#[]⟩:ByteArray)):=(blk_cell BK176.out 3).trans rfl
 have hcz19_4:w10.cell? ⟨gb176,4,none⟩=some (.slice none 0 0):=(blk_cell BK176.out 4).trans rfl
 have hcz19_5:w10.cell? ⟨gb176,5,none⟩=some (.slice none 0 0):=(blk_cell BK176.out 5).trans rfl
 have hcz19_6:w10.cell? ⟨gb176,6,none⟩=some (.slice none 0 0):=(blk_cell BK176.out 6).trans rfl
 have hfz19_0:=blk_frozen BK176.out 0
 have hfz19_1:=blk_frozen BK176.out 1
 have hfz19_2:=blk_frozen BK176.out 2
 have hfz19_3:=blk_frozen BK176.out 3
 have hfz19_4:=blk_frozen BK176.out 4
 have hfz19_5:=blk_frozen BK176.out 5
 have hfz19_6:=blk_frozen BK176.out 6
 try go_wp2
 refine bodyPost_ret (results_cell_row rfl _ _ gb176 25 #[.int .i64 a0_0,.int .i64 a0_1,.int .i64 a0_2,.string a0_3,.slice Ao11 t177.length co11,.slice Ao13 t180.length co13,.slice Ao15 t183.length co15] (0,0) _ rfl (by (with_reducible repeat (first|refine blk_drewN ?_ _|refine blk_drew ?_|refine blk_alloc ?_ _));refine blk_put (cs:=#[.int .i64 a0_0,.int .i64 a0_1,.int .i64 a0_2,.string a0_3,.slice Ao11 t177.length co11,.slice Ao13 t180.length co13,.slice none 0 0]) ?_ 6 _ rfl;(with_reducible repeat (first|refine blk_drewN ?_ _|refine blk_drew ?_|refine blk_alloc ?_ _));refine blk_put (cs:=#[.int .i64 a0_0,.int .i64 a0_1,.int .i64 a0_2,.string a0_3,.slice Ao11 t177.length co11,.slice none 0 0,.slice none 0 0]) ?_ 5 _ rfl;(with_reducible repeat (first|refine blk_drewN ?_ _|refine blk_drew ?_|refine blk_alloc ?_ _));refine blk_put (cs:=#[.int .i64 a0_0,.int .i64 a0_1,.int .i64 a0_2,.string a0_3,.slice none 0 0,.slice none 0 0,.slice none 0 0]) ?_ 4 _ rfl;(with_reducible repeat (first|refine blk_drewN ?_ _|refine blk_drew ?_|refine blk_alloc ?_ _));refine blk_put (cs:=#[.int .i64 a0_0,.int .i64 a0_1,.int .i64 a0_2,.string (⟨#[]⟩:ByteArray),.slice none 0 0,.slice none 0 0,.slice none 0 0]) ?_ 3 _ rfl;(with_reducible repeat (first|refine blk_drewN ?_ _|refine blk_drew ?_|refine blk_alloc ?_ _));refine blk_put (cs:=#[.int .i64 a0_0,.int .i64 a0_1,.int .i64 0,.string (⟨#[]⟩:ByteArray),.slice none 0 0,.slice none 0 0,.slice none 0 0]) ?_ 2 _ rfl;(with_reducible repeat (first|refine blk_drewN ?_ _|refine blk_drew ?_|refine blk_alloc ?_ _));refine blk_put (cs:=#[.int .i64 a0_0,.int .i64 0,.int .i64 0,.string (⟨#[]⟩:ByteArray),.slice none 0 0,.slice none 0 0,.slice none 0 0]) ?_ 1 _ rfl;(with_reducible repeat (first|refine blk_drewN ?_ _|refine blk_drew ?_|refine blk_alloc ?_ _));refine blk_put (cs:=#[.int .i64 0,.int .i64 0,.int .i64 0,.string (⟨#[]⟩:ByteArray),.slice none 0 0,.slice none 0 0,.slice none 0 0]) ?_ 0 _ rfl;(with_reducible repeat (first|refine blk_drewN ?_ _|refine blk_drew ?_|refine blk_alloc ?_ _));refine blk_far ?_ NB176_175.out _;(with_reducible repeat (first|refine blk_drewN ?_ _|refine blk_drew ?_|refine blk_alloc ?_ _));refine blk_far ?_ NB176_175.out _;(with_reducible repeat (first|refine blk_drewN ?_ _|refine blk_drew ?_|refine blk_alloc ?_ _));refine blk_far ?_ NB176_175.out _;(with_reducible repeat (first|refine blk_drewN ?_ _|refine blk_drew ?_|refine blk_alloc ?_ _));exact BK176.out) Try.underlying25 rfl (by kernel_rfl)) rfl ?_
 exact ⟨_,_,_,by first|rfl|(simp [errW_none,errW_some] <;> rfl)|(simp [*,errW_none,errW_some] <;> rfl),by (with_reducible repeat (first|apply Kd.R_alloc|apply Kd.R_drewN|apply Kd.R_drew));exact Kd.R_mono (Kd.R_far (p:=⟨gb176,6,none⟩) (Kd.R_far (p:=⟨gb176,5,none⟩) (Kd.R_far (p:=⟨gb176,4,none⟩) (Kd.R_far (p:=⟨gb176,3,none⟩) (Kd.R_far (p:=⟨gb176,2,none⟩) (Kd.R_far (p:=⟨gb176,1,none⟩) (Kd.R_far (p:=⟨gb176,0,none⟩) (Kd.R_far (p:=⟨gb175,6,none⟩) (Kd.R_far (p:=⟨gb175,5,none⟩) (Kd.R_far (p:=⟨gb175,4,none⟩) (Kd.R_types (Kd.R_types HO179.out BK175.out (by decide)) BK176.out (by decide)) (fun _ hk=>hk.1.2) (.slice Ao11 t177.length co11)) (fun _ hk=>hk.1.2) (.slice Ao13 t180.length co13)) (fun _ hk=>hk.1.2) (.slice Ao15 t183.length co15)) (fun _ hk=>hk.2) (.int .i64 a0_0)) (fun _ hk=>hk.2) (.int .i64 a0_1)) (fun _ hk=>hk.2) (.int .i64 a0_2)) (fun _ hk=>hk.2) (.string a0_3)) (fun _ hk=>hk.2) (.slice Ao11 t177.length co11)) (fun _ hk=>hk.2) (.slice Ao13 t180.length co13)) (fun _ hk=>hk.2) (.slice Ao15 t183.length co15)) (fun _ hk=>hk.1.1.2),by (with_reducible repeat (first|apply Kd.R_alloc|apply Kd.R_drewN|apply Kd.R_drew));exact Kd.R_mono (Kd.R_far (p:=⟨gb176,6,none⟩) (Kd.R_far (p:=⟨gb176,5,none⟩) (Kd.R_far (p:=⟨gb176,4,none⟩) (Kd.R_far (p:=⟨gb176,3,none⟩) (Kd.R_far (p:=⟨gb176,2,none⟩) (Kd.R_far (p:=⟨gb176,1,none⟩) (Kd.R_far (p:=⟨gb176,0,none⟩) (Kd.R_far (p:=⟨gb175,6,none⟩) (Kd.R_far (p:=⟨gb175,5,none⟩) (Kd.R_far (p:=⟨gb175,4,none⟩) (Kd.R_types (Kd.R_types HO182.out BK175.out (by decide)) BK176.out (by decide)) (fun _ hk=>hk.1.2) (.slice Ao11 t177.length co11)) (fun _ hk=>hk.1.2) (.slice Ao13 t180.length co13)) (fun _ hk=>hk.1.2) (.slice Ao15 t183.length co15)) (fun _ hk=>hk.2) (.int .i64 a0_0)) (fun _ hk=>hk.2) (.int .i64 a0_1)) (fun _ hk=>hk.2) (.int .i64 a0_2)) (fun _ hk=>hk.2) (.string a0_3)) (fun _ hk=>hk.2) (.slice Ao11 t177.length co11)) (fun _ hk=>hk.2) (.slice Ao13 t180.length co13)) (fun _ hk=>hk.2) (.slice Ao15 t183.length co15)) (fun _ hk=>hk.1.1.2),by (with_reducible repeat (first|apply Kd.R_alloc|apply Kd.R_drewN|apply Kd.R_drew));exact Kd.R_mono (Kd.R_far (p:=⟨gb176,6,none⟩) (Kd.R_far (p:=⟨gb176,5,none⟩) (Kd.R_far (p:=⟨gb176,4,none⟩) (Kd.R_far (p:=⟨gb176,3,none⟩) (Kd.R_far (p:=⟨gb176,2,none⟩) (Kd.R_far (p:=⟨gb176,1,none⟩) (Kd.R_far (p:=⟨gb176,0,none⟩) (Kd.R_far (p:=⟨gb175,6,none⟩) (Kd.R_far (p:=⟨gb175,5,none⟩) (Kd.R_far (p:=⟨gb175,4,none⟩) (Kd.R_types (Kd.R_types HO185.out BK175.out (by decide)) BK176.out (by decide)) (fun _ hk=>hk.1.2) (.slice Ao11 t177.length co11)) (fun _ hk=>hk.1.2) (.slice Ao13 t180.length co13)) (fun _ hk=>hk.1.2) (.slice Ao15 t183.length co15)) (fun _ hk=>hk.2) (.int .i64 a0_0)) (fun _ hk=>hk.2) (.int .i64 a0_1)) (fun _ hk=>hk.2) (.int .i64 a0_2)) (fun _ hk=>hk.2) (.string a0_3)) (fun _ hk=>hk.2) (.slice Ao11 t177.length co11)) (fun _ hk=>hk.2) (.slice Ao13 t180.length co13)) (fun _ hk=>hk.2) (.slice Ao15 t183.length co15)) (fun _ hk=>trivial),by repeat (first|(with_reducible first|exact HB.out|apply below_alloc|apply pw_below_drewN|apply below_drew1|refine below_set ?_ GE175.out|refine below_set ?_ GE176.out)|exact HB.out)⟩
def latticeref07_Further.f (k:Nat) (a0_0:Int) (a0_1:Int) (a0_2:Int) (a0_3:ByteArray) (l0_4:List ByteArray) (l0_5:List ByteArray) (l0_6:List Int) (a1:ByteArray):Option (Bool):=if a0_3.toList=([]:List UInt8) then (some false) else ((latticeref05_Compare.f k a0_3 a1).bind fun t205=>(some (decide (t205≤0))))
set_option maxHeartbeats 8000000 in
set_option maxRecDepth 100000 in
theorem latticeref07_Further.calls (k:Nat) (a0_0:Int) (a0_1:Int) (a0_2:Int) (a0_3:ByteArray) (A0_4:Option Addr) (c0_4:Nat) (l0_4:List ByteArray) (A0_5:Option Addr) (c0_5:Nat) (l0_5:List ByteArray) (A0_6:Option Addr) (c0_6:Nat) (l0_6:List Int) (a1:ByteArray) (r:Bool) (w:World) (hr0_4:Kd.C Kd.string w A0_4 l0_4.length l0_4) (hc0_4:l0_4.length≤c0_4) (hr0_5:Kd.C Kd.string w A0_5 l0_5.length l0_5) (hc0_5:l0_5.length≤c0_5) (hr0_6:Kd.C (Kd.int .i64) w A0_6 l0_6.length l0_6) (hc0_6:l0_6.length≤c0_6) (h:latticeref07_Further.f k a0_0 a0_1 a0_2 a0_3 l0_4 l0_5 l0_6 a1=some r) :
  Calls Try.prog 23 #[.agg #[.int .i64 a0_0,.int .i64 a0_1,.int .i64 a0_2,.string a0_3,.slice A0_4 l0_4.length c0_4,.slice A0_5 l0_5.length c0_5,.slice A0_6 l0_6.length c0_6],.string a1] w fun e w'=>e=.returned (.bool r)∧Below w.heap.size w w':=by
 have hu25:=Try.underlying25
 have HR0_4:=Aside0.mk hr0_4
 have HC0_4:=Aside0.mk hc0_4
 clear hr0_4 hc0_4
 have HR0_5:=Aside0.mk hr0_5
 have HC0_5:=Aside0.mk hc0_5
 clear hr0_5 hc0_5
 have HR0_6:=Aside0.mk hr0_6
 have HC0_6:=Aside0.mk hc0_6
 clear hr0_6 hc0_6
 have HB:=Aside0.mk (Below.refl w.heap.size w)
 have H:(if a0_3.toList=([]:List UInt8) then (some false) else ((latticeref05_Compare.f k a0_3 a1).bind fun t205=>(some (decide (t205≤0)))))=some r:=h
 clear h
 by_cases c3:a0_3.toList=([]:List UInt8)
 ·rw [if_pos c3] at H
  have c3b0:(a0_3.toList==([]:List UInt8))=true:=beq_iff_eq.mpr c3
  have c3b1:(a0_3.toList != ([]:List UInt8))=false:=bne_eq_false_iff_eq.mpr c3
  clear c3
  obtain rfl:=Option.some.inj H
  go_enter Try.func23,Try.ntmps23
  go_wp2_with (first|((with_reducible refine gate_dst (N:=2) rfl ?_);refine box_event ?hg (N:=2) ?hd (cs:=#[.int .i64 a0_0,.int .i64 a0_1,.int .i64 a0_2,.string a0_3,.slice A0_4 l0_4.length c0_4,.slice A0_5 l0_5.length c0_5,.slice A0_6 l0_6.length c0_6]) (t:=25) ?hr ?_;(case hd=>rfl);(case hg=>rfl);(case hr=>first|(go_simp;done)|(go_simp;rfl));intro gb204 hg w4 hbox hb;have n0_:=Aside0.mk (below_step (by repeat (first|(with_reducible first|exact HB.out|apply below_alloc|apply pw_below_drewN|apply below_drew1)|exact HB.out)) hb);have n1_:=Aside0.mk (hbox);have n2_:=Aside0.mk ((by rw [hg];exact (below_size (by repeat (first|(with_reducible first|exact HB.out|apply below_alloc|apply pw_below_drewN|apply below_drew1)|exact HB.out))):w.heap.size≤gb204));have n3_:=Aside0.mk ((by rw [hg];exact (below_size (by repeat (first|(with_reducible first|exact HB.out|apply below_alloc|apply pw_below_drewN|apply below_drew1)|exact HB.out))):w.heap.size≤gb204));clear HB;have HB:=n0_;have BK204:=n1_;have GW204:=n2_;have GE204:=n3_;clear n0_ n1_ n2_ n3_;clear hb hbox hg;have hcz5_0:w4.cell? ⟨gb204,0,none⟩=some (.int .i64 a0_0):=(blk_cell BK204.out 0).trans rfl;have hcz5_1:w4.cell? ⟨gb204,1,none⟩=some (.int .i64 a0_1):=(blk_cell BK204.out 1).trans rfl;have hcz5_2:w4.cell? ⟨gb204,2,none⟩=some (.int .i64 a0_2):=(blk_cell BK204.out 2).trans rfl;have hcz5_3:w4.cell? ⟨gb204,3,none⟩=some (.string a0_3):=(blk_cell BK204.out 3).trans rfl;have hcz5_4:w4.cell? ⟨gb204,4,none⟩=some (.slice A0_4 l0_4.length c0_4):=(blk_cell BK204.out 4).trans rfl;have hcz5_5:w4.cell? ⟨gb204,5,none⟩=some (.slice A0_5 l0_5.length c0_5):=(blk_cell BK204.out 5).trans rfl;have hcz5_6:w4.cell? ⟨gb204,6,none⟩=some (.slice A0_6 l0_6.length c0_6):=(blk_cell BK204.out 6).trans rfl;have hfz5_0:=blk_frozen BK204.out 0;have hfz5_1:=blk_frozen BK204.out 1;have hfz5_2:=blk_frozen BK204.out 2;have hfz5_3:=blk_frozen BK204.out 3;have hfz5_4:=blk_frozen BK204.out 4;have hfz5_5:=blk_frozen BK204.out 5;have hfz5_6:=blk_frozen BK204.out 6))
  go_ret
  exact ⟨by first|rfl|(simp [errW_none,errW_some] <;> rfl)|(simp [*,errW_none,errW_some] <;> rfl),by repeat (first|(with_reducible first|exact HB.out|apply below_alloc|apply pw_below_drewN|apply below_drew1|refine below_set ?_ GE204.out)|exact HB.out)⟩
 ·rw [if_neg c3] at H
  have c3b0:(a0_3.toList==([]:List UInt8))=false:=beq_eq_false_iff_ne.mpr c3
  have c3b1:(a0_3.toList != ([]:List UInt8))=true:=bne_iff_ne.mpr c3
  replace H:=Option.bind_eq_some_iff.mp H
  obtain ⟨t205,A60,H⟩:=H
  replace H:(some (decide (t205≤0)))=some r:=H
  have A6:=Aside0.mk A60
  clear A60
  obtain rfl:=Option.some.inj H
  go_enter Try.func23,Try.ntmps23
  go_wp2_with (first|((with_reducible refine gate_dst (N:=2) rfl ?_);refine box_event ?hg (N:=2) ?hd (cs:=#[.int .i64 a0_0,.int .i64 a0_1,.int .i64 a0_2,.string a0_3,.slice A0_4 l0_4.length c0_4,.slice A0_5 l0_5.length c0_5,.slice A0_6 l0_6.length c0_6]) (t:=25) ?hr ?_;(case hd=>rfl);(case hg=>rfl);(case hr=>first|(go_simp;done)|(go_simp;rfl));intro gb204 hg w7 hbox hb;have n0_:=Aside0.mk (below_step (by repeat (first|(with_reducible first|exact HB.out|apply below_alloc|apply pw_below_drewN|apply below_drew1)|exact HB.out)) hb);have n1_:=Aside0.mk (hbox);have n2_:=Aside0.mk ((by rw [hg];exact (below_size (by repeat (first|(with_reducible first|exact HB.out|apply below_alloc|apply pw_below_drewN|apply below_drew1)|exact HB.out))):w.heap.size≤gb204));have n3_:=Aside0.mk ((by rw [hg];exact (below_size (by repeat (first|(with_reducible first|exact HB.out|apply below_alloc|apply pw_below_drewN|apply below_drew1)|exact HB.out))):w.heap.size≤gb204));clear HB;have HB:=n0_;have BK204:=n1_;have GW204:=n2_;have GE204:=n3_;clear n0_ n1_ n2_ n3_;clear hb hbox hg;have hcz8_0:w7.cell? ⟨gb204,0,none⟩=some (.int .i64 a0_0):=(blk_cell BK204.out 0).trans rfl;have hcz8_1:w7.cell? ⟨gb204,1,none⟩=some (.int .i64 a0_1):=(blk_cell BK204.out 1).trans rfl;have hcz8_2:w7.cell? ⟨gb204,2,none⟩=some (.int .i64 a0_2):=(blk_cell BK204.out 2).trans rfl;have hcz8_3:w7.cell? ⟨gb204,3,none⟩=some (.string a0_3):=(blk_cell BK204.out 3).trans rfl;have hcz8_4:w7.cell? ⟨gb204,4,none⟩=some (.slice A0_4 l0_4.length c0_4):=(blk_cell BK204.out 4).trans rfl;have hcz8_5:w7.cell? ⟨gb204,5,none⟩=some (.slice A0_5 l0_5.length c0_5):=(blk_cell BK204.out 5).trans rfl;have hcz8_6:w7.cell? ⟨gb204,6,none⟩=some (.slice A0_6 l0_6.length c0_6):=(blk_cell BK204.out 6).trans rfl;have hfz8_0:=blk_frozen BK204.out 0;have hfz8_1:=blk_frozen BK204.out 1;have hfz8_2:=blk_frozen BK204.out 2;have hfz8_3:=blk_frozen BK204.out 3;have hfz8_4:=blk_frozen BK204.out 4;have hfz8_5:=blk_frozen BK204.out 5;have hfz8_6:=blk_frozen BK204.out 6)|(go_at_call 41;(with_reducible refine (latticeref05_Compare.calls k a0_3 a1 t205 _ A6.out).mono ?_);rintro e w' ⟨rfl,⟨nd,rfl⟩⟩))
  go_ret
  exact ⟨by first|rfl|(simp [errW_none,errW_some] <;> rfl)|(simp [*,errW_none,errW_some] <;> rfl),by repeat (first|(with_reducible first|exact HB.out|apply below_alloc|apply pw_below_drewN|apply below_drew1|refine below_set ?_ GE204.out)|exact HB.out)⟩
mutual
def latticeref07_asked.j0:Nat→ByteArray→Int→Bool→Int→Int→Int→ByteArray→List ByteArray→List ByteArray→List Int→Option (Int)
 | 0,_,_,_,_,_,_,_,_,_,_=>none
 | k+1,x1,x4,x29,x207000,x207001,x207002,x207003,x207004,x207005,x207006=>if x29=true then (some 1) else (if x4=0 then (if x207000=0 then (if x4=1 then (latticeref07_asked.j1 k x1 (x207000==0) x207000 x207001 x207002 x207003 x207004 x207005 x207006) else (latticeref07_asked.j1 k x1 false x207000 x207001 x207002 x207003 x207004 x207005 x207006)) else (latticeref07_asked.j1 k x1 true x207000 x207001 x207002 x207003 x207004 x207005 x207006)) else (if x4=1 then (latticeref07_asked.j1 k x1 (x207000==0) x207000 x207001 x207002 x207003 x207004 x207005 x207006) else (latticeref07_asked.j1 k x1 false x207000 x207001 x207002 x207003 x207004 x207005 x207006)))
def latticeref07_asked.j1:Nat→ByteArray→Bool→Int→Int→Int→ByteArray→List ByteArray→List ByteArray→List Int→Option (Int)
 | 0,_,_,_,_,_,_,_,_,_=>none
 | k+1,x1,x45,x207000,x207001,x207002,x207003,x207004,x207005,x207006=>if x45=true then (some 7) else ((latticeref07_Further.f k x207000 x207001 x207002 x207003 x207004 x207005 x207006 x1).bind fun t212=>(if t212=true then (some 71) else (some 0)))
end
def latticeref07_asked.f (k:Nat) (a0_0:Int) (a0_1:Int) (a0_2:Int) (a0_3:ByteArray) (l0_4:List ByteArray) (l0_5:List ByteArray) (l0_6:List Int) (a1:ByteArray) (a2:ByteArray) (a3:Int) (a4:Int):Option (Int):=(latticeref06_Right.f k a0_0 a0_1 a0_2 a0_3 l0_4 l0_5 l0_6).bind fun t207=>(if t207=true then ((latticeref05_Check.f a1).bind fun t208=>(if t208=0 then ((latticeref05_Value.f a2).bind fun t210=>(if t210=0 then (if a3 < 1 then (latticeref07_asked.j0 k a1 a4 true a0_0 a0_1 a0_2 a0_3 l0_4 l0_5 l0_6) else (latticeref07_asked.j0 k a1 a4 (decide (a3 > 4096)) a0_0 a0_1 a0_2 a0_3 l0_4 l0_5 l0_6)) else ((latticeref05_Value.f a2).bind fun t211=>(some t211)))) else ((latticeref05_Check.f a1).bind fun t209=>(some t209)))) else (some 70))
set_option maxHeartbeats 8000000 in
set_option maxRecDepth 100000 in
theorem latticeref07_asked.calls (k:Nat) (a0_0:Int) (a0_1:Int) (a0_2:Int) (a0_3:ByteArray) (A0_4:Option Addr) (c0_4:Nat) (l0_4:List ByteArray) (A0_5:Option Addr) (c0_5:Nat) (l0_5:List ByteArray) (A0_6:Option Addr) (c0_6:Nat) (l0_6:List Int) (a1:ByteArray) (a2:ByteArray) (a3:Int) (a4:Int) (r:Int) (w:World) (hr0_4:Kd.C Kd.string w A0_4 l0_4.length l0_4) (hc0_4:l0_4.length≤c0_4) (hr0_5:Kd.C Kd.string w A0_5 l0_5.length l0_5) (hc0_5:l0_5.length≤c0_5) (hr0_6:Kd.C (Kd.int .i64) w A0_6 l0_6.length l0_6) (hc0_6:l0_6.length≤c0_6) (h:latticeref07_asked.f k a0_0 a0_1 a0_2 a0_3 l0_4 l0_5 l0_6 a1 a2 a3 a4=some r) :
  Calls Try.prog 46 #[.agg #[.int .i64 a0_0,.int .i64 a0_1,.int .i64 a0_2,.string a0_3,.slice A0_4 l0_4.length c0_4,.slice A0_5 l0_5.length c0_5,.slice A0_6 l0_6.length c0_6],.string a1,.string a2,.int .i64 a3,.int .i64 a4] w fun e w'=>e=.returned (.int .i64 r)∧Below w.heap.size w w':=by
 have hu25:=Try.underlying25
 have HR0_4:=Aside0.mk hr0_4
 have HC0_4:=Aside0.mk hc0_4
 clear hr0_4 hc0_4
 have HR0_5:=Aside0.mk hr0_5
 have HC0_5:=Aside0.mk hc0_5
 clear hr0_5 hc0_5
 have HR0_6:=Aside0.mk hr0_6
 have HC0_6:=Aside0.mk hc0_6
 clear hr0_6 hc0_6
 have HB:=Aside0.mk (Below.refl w.heap.size w)
 have H:((latticeref06_Right.f k a0_0 a0_1 a0_2 a0_3 l0_4 l0_5 l0_6).bind fun t207=>(if t207=true then ((latticeref05_Check.f a1).bind fun t208=>(if t208=0 then ((latticeref05_Value.f a2).bind fun t210=>(if t210=0 then (if a3 < 1 then (latticeref07_asked.j0 k a1 a4 true a0_0 a0_1 a0_2 a0_3 l0_4 l0_5 l0_6) else (latticeref07_asked.j0 k a1 a4 (decide (a3 > 4096)) a0_0 a0_1 a0_2 a0_3 l0_4 l0_5 l0_6)) else ((latticeref05_Value.f a2).bind fun t211=>(some t211)))) else ((latticeref05_Check.f a1).bind fun t209=>(some t209)))) else (some 70)))=some r:=h
 clear h
 replace H:=Option.bind_eq_some_iff.mp H
 obtain ⟨t207,A60,H⟩:=H
 try dsimp only at H
 have A6:=Aside0.mk A60
 clear A60
 by_cases c7:t207=true
 ·subst c7
  have H1:((latticeref05_Check.f a1).bind fun t208=>(if t208=0 then ((latticeref05_Value.f a2).bind fun t210=>(if t210=0 then (if a3 < 1 then (latticeref07_asked.j0 k a1 a4 true a0_0 a0_1 a0_2 a0_3 l0_4 l0_5 l0_6) else (latticeref07_asked.j0 k a1 a4 (decide (a3 > 4096)) a0_0 a0_1 a0_2 a0_3 l0_4 l0_5 l0_6)) else ((latticeref05_Value.f a2).bind fun t211=>(some t211)))) else ((latticeref05_Check.f a1).bind fun t209=>(some t209))))=some r:=by rw [if_pos rfl] at H;exact H
  clear H
  have H:=H1
  clear H1
  replace H:=Option.bind_eq_some_iff.mp H
  obtain ⟨t208,A80,H⟩:=H
  try dsimp only at H
  have A8:=Aside0.mk A80
  clear A80
  by_cases c9:t208=0
  ·rw [if_pos c9] at H
   have c9b0:(t208==0)=true:=beq_iff_eq.mpr c9
   have c9b1:(t208 != 0)=false:=bne_eq_false_iff_eq.mpr c9
   clear c9
   replace H:=Option.bind_eq_some_iff.mp H
   obtain ⟨t210,A100,H⟩:=H
   try dsimp only at H
   have A10:=Aside0.mk A100
   clear A100
   by_cases c11:t210=0
   ·rw [if_pos c11] at H
    have c11b0:(t210==0)=true:=beq_iff_eq.mpr c11
    have c11b1:(t210 != 0)=false:=bne_eq_false_iff_eq.mpr c11
    clear c11
    have HC12:=Aside0.mk H
    clear H
    go_enter Try.func46,Try.ntmps46
    go_upto_region 7 with (first|((with_reducible refine gate_dst (N:=5) rfl ?_);refine box_event ?hg (N:=5) ?hd (cs:=#[.int .i64 a0_0,.int .i64 a0_1,.int .i64 a0_2,.string a0_3,.slice A0_4 l0_4.length c0_4,.slice A0_5 l0_5.length c0_5,.slice A0_6 l0_6.length c0_6]) (t:=25) ?hr ?_;(case hd=>rfl);(case hg=>rfl);(case hr=>first|(go_simp;done)|(go_simp;rfl));intro gb206 hg w13 hbox hb;have n0_:=Aside0.mk (below_step (by repeat (first|(with_reducible first|exact HB.out|apply below_alloc|apply pw_below_drewN|apply below_drew1)|exact HB.out)) hb);have n1_:=Aside0.mk (hbox);have n2_:=Aside0.mk ((by rw [hg];exact (below_size (by repeat (first|(with_reducible first|exact HB.out|apply below_alloc|apply pw_below_drewN|apply below_drew1)|exact HB.out))):w.heap.size≤gb206));have n3_:=Aside0.mk ((by rw [hg];exact (below_size (by repeat (first|(with_reducible first|exact HB.out|apply below_alloc|apply pw_below_drewN|apply below_drew1)|exact HB.out))):w.heap.size≤gb206));clear HB;have HB:=n0_;have BK206:=n1_;have GW206:=n2_;have GE206:=n3_;clear n0_ n1_ n2_ n3_;clear hb hbox hg;have hcz14_0:w13.cell? ⟨gb206,0,none⟩=some (.int .i64 a0_0):=(blk_cell BK206.out 0).trans rfl;have hcz14_1:w13.cell? ⟨gb206,1,none⟩=some (.int .i64 a0_1):=(blk_cell BK206.out 1).trans rfl;have hcz14_2:w13.cell? ⟨gb206,2,none⟩=some (.int .i64 a0_2):=(blk_cell BK206.out 2).trans rfl;have hcz14_3:w13.cell? ⟨gb206,3,none⟩=some (.string a0_3):=(blk_cell BK206.out 3).trans rfl;have hcz14_4:w13.cell? ⟨gb206,4,none⟩=some (.slice A0_4 l0_4.length c0_4):=(blk_cell BK206.out 4).trans rfl;have hcz14_5:w13.cell? ⟨gb206,5,none⟩=some (.slice A0_5 l0_5.length c0_5):=(blk_cell BK206.out 5).trans rfl;have hcz14_6:w13.cell? ⟨gb206,6,none⟩=some (.slice A0_6 l0_6.length c0_6):=(blk_cell BK206.out 6).trans rfl;have hfz14_0:=blk_frozen BK206.out 0;have hfz14_1:=blk_frozen BK206.out 1;have hfz14_2:=blk_frozen BK206.out 2;have hfz14_3:=blk_frozen BK206.out 3;have hfz14_4:=blk_frozen BK206.out 4;have hfz14_5:=blk_frozen BK206.out 5;have hfz14_6:=blk_frozen BK206.out 6)|((with_reducible refine gate_callee (f:=24) rfl ?_);refine goesL_ (some 12) rfl rfl Try.func24 (by kernel_rfl) rfl #[.agg #[.int .i64 a0_0,.int .i64 a0_1,.int .i64 a0_2,.string a0_3,.slice A0_4 l0_4.length c0_4,.slice A0_5 l0_5.length c0_5,.slice A0_6 l0_6.length c0_6]] rfl (by (try simp only [List.map_toArray,List.map_cons,List.map_nil]);first|done|rfl|(simp only [List.length_drop,List.length_take];rfl)) ?_;(with_reducible refine (latticeref06_Right.calls k a0_0 a0_1 a0_2 a0_3 _ _ l0_4 _ _ l0_5 _ _ l0_6 true _ ?side1 ?side2 ?side3 ?side4 ?side5 ?side6 A6.out).mono ?_);(case side1=>repeat (first|exact (Kd.C_below HR0_4.out HB.out)|(with_reducible refine Kd.C_alloc ?_ _)|(with_reducible refine Kd.C_drewN ?_ _)|(with_reducible refine Kd.C_drew ?_)));(case side2=>exact HC0_4.out);(case side3=>repeat (first|exact (Kd.C_below HR0_5.out HB.out)|(with_reducible refine Kd.C_alloc ?_ _)|(with_reducible refine Kd.C_drewN ?_ _)|(with_reducible refine Kd.C_drew ?_)));(case side4=>exact HC0_5.out);(case side5=>repeat (first|exact (Kd.C_below HR0_6.out HB.out)|(with_reducible refine Kd.C_alloc ?_ _)|(with_reducible refine Kd.C_drewN ?_ _)|(with_reducible refine Kd.C_drew ?_)));(case side6=>exact HC0_6.out);rintro e w15 ⟨rfl,hb⟩;refine ⟨_,rfl,?_⟩;have n0_:=Aside0.mk (blk_below (g:=gb206) (o:=.cells #[.int .i64 a0_0,.int .i64 a0_1,.int .i64 a0_2,.string a0_3,.slice A0_4 l0_4.length c0_4,.slice A0_5 l0_5.length c0_5,.slice A0_6 l0_6.length c0_6] 25 (0,0)) (by (with_reducible repeat (first|refine blk_drewN ?_ _|refine blk_drew ?_|refine blk_alloc ?_ _));exact BK206.out) hb);have n1_:=Aside0.mk (below_step (by repeat (first|(with_reducible first|exact HB.out|apply below_alloc|apply pw_below_drewN|apply below_drew1|refine below_set ?_ GE206.out)|exact HB.out)) hb);clear BK206;clear HB;have BK206:=n0_;have HB:=n1_;clear n0_ n1_;(try clear hb);(try clear hb2);(try clear hk);(try clear hi))|((with_reducible refine gate_callee (f:=25) rfl ?_);refine goesL_ (some 15) rfl rfl Try.func25 (by kernel_rfl) rfl #[.string a1] rfl (by (try simp only [List.map_toArray,List.map_cons,List.map_nil]);first|done|rfl|(simp only [List.length_drop,List.length_take];rfl)) ?_;(with_reducible refine (latticeref05_Check.calls a1 t208 _ A8.out).mono ?_);rintro e w' ⟨rfl,⟨nd,rfl⟩⟩;refine ⟨_,rfl,?_⟩)|((with_reducible refine gate_callee (f:=47) rfl ?_);refine goesL_ (some 20) rfl rfl Try.func47 (by kernel_rfl) rfl #[.string a2] rfl (by (try simp only [List.map_toArray,List.map_cons,List.map_nil]);first|done|rfl|(simp only [List.length_drop,List.length_take];rfl)) ?_;(with_reducible refine (latticeref05_Value.calls a2 t210 _ A10.out).mono ?_);rintro e w' ⟨rfl,⟨nd,rfl⟩⟩;refine ⟨_,rfl,?_⟩))
    (try simp only [Act.put,List.setIfInBounds_toArray,List.set_cons_zero,List.set_cons_succ])
    go_cut [29] (fun v29 wc=>∃ (kq:Nat) (x29_11:Bool),v29=.bool x29_11∧Aside0 (latticeref07_asked.j0 kq a1 a4 x29_11 a0_0 a0_1 a0_2 a0_3 l0_4 l0_5 l0_6=some r)∧Aside0 (kq≤k)∧Aside0 (wc.heap[gb206]?=some (.cells #[.int .i64 a0_0,.int .i64 a0_1,.int .i64 a0_2,.string a0_3,(.slice A0_4 l0_4.length c0_4),(.slice A0_5 l0_5.length c0_5),(.slice A0_6 l0_6.length c0_6)] 25 (0,0)))∧Aside0 (Below w.heap.size w wc))
    case first =>
     have H:=HC12.out
     clear HC12
     by_cases c16:a3 < 1
     ·rw [if_pos c16] at H
      have c16b0:decide (a3 < 1)=true:=decide_eq_true c16
      clear c16
      (first|rw [c16b0]|(simp only [i64_w,i32_w];rw [c16b0])|skip)
      have H':=Aside0.mk H
      clear H
      go_wp2
      go_meet
      case rel=>exact ⟨_,(true),(by first|rfl|(simp;done)|(simp [*];done)),H',⟨by first|omega|exact Nat.le_refl _⟩,⟨by (with_reducible repeat (first|refine blk_drewN ?_ _|refine blk_drew ?_|refine blk_alloc ?_ _));exact BK206.out⟩,⟨by repeat (first|(with_reducible first|exact HB.out|apply below_alloc|apply pw_below_drewN|apply below_drew1|refine below_set ?_ GE206.out)|exact HB.out)⟩⟩
     ·rw [if_neg c16] at H
      have c16b0:decide (a3 < 1)=false:=decide_eq_false c16
      clear c16
      (first|rw [c16b0]|(simp only [i64_w,i32_w];rw [c16b0])|skip)
      have H':=Aside0.mk H
      clear H
      go_wp2
      go_meet
      case rel=>exact ⟨_,(decide (a3 > 4096)),(by first|rfl|(simp;done)|(simp [*];done)),H',⟨by first|omega|exact Nat.le_refl _⟩,⟨by (with_reducible repeat (first|refine blk_drewN ?_ _|refine blk_drew ?_|refine blk_alloc ?_ _));exact BK206.out⟩,⟨by repeat (first|(with_reducible first|exact HB.out|apply below_alloc|apply pw_below_drewN|apply below_drew1|refine below_set ?_ GE206.out)|exact HB.out)⟩⟩
    case rest =>
     clear HC12
     try clear c1
     try clear c2
     try clear p2
     try clear c4
     try clear c7
     try clear c9
     try clear c9b0
     try clear c9b1
     try clear c11
     try clear c11b0
     try clear c11b1
     try clear c16
     try clear c16b0
     try clear hcz14_0
     try clear hcz14_1
     try clear hcz14_2
     try clear hcz14_3
     try clear hcz14_4
     try clear hcz14_5
     try clear hcz14_6
     try clear hfz14_0
     try clear hfz14_1
     try clear hfz14_2
     try clear hfz14_3
     try clear hfz14_4
     try clear hfz14_5
     try clear hfz14_6
     obtain ⟨kq,x29_11,rfl,HA,HJ11,BK206,HB⟩:=hcut
     cases kq with
     | zero=>exact absurd HA.out (by simp [latticeref07_asked.j0])
     | succ kj11 =>
      have H:=HA.out
      clear HA
      simp only [latticeref07_asked.j0] at H
      by_cases c17:x29_11=true
      ·subst c17
       have H1:(some 1)=some r:=by rw [if_pos rfl] at H;exact H
       clear H
       have H:=H1
       clear H1
       obtain rfl:=Option.some.inj H
       go_wp2
       go_ret
       exact ⟨by first|rfl|(simp [errW_none,errW_some] <;> rfl)|(simp [*,errW_none,errW_some] <;> rfl),by repeat (first|(with_reducible first|exact HB.out|apply below_alloc|apply pw_below_drewN|apply below_drew1|refine below_set ?_ GE206.out)|exact HB.out)⟩
      ·replace c17:=Bool.eq_false_iff.mpr c17
       subst c17
       have H1:(if a4=0 then (if a0_0=0 then (if a4=1 then (latticeref07_asked.j1 kj11 a1 (a0_0==0) a0_0 a0_1 a0_2 a0_3 l0_4 l0_5 l0_6) else (latticeref07_asked.j1 kj11 a1 false a0_0 a0_1 a0_2 a0_3 l0_4 l0_5 l0_6)) else (latticeref07_asked.j1 kj11 a1 true a0_0 a0_1 a0_2 a0_3 l0_4 l0_5 l0_6)) else (if a4=1 then (latticeref07_asked.j1 kj11 a1 (a0_0==0) a0_0 a0_1 a0_2 a0_3 l0_4 l0_5 l0_6) else (latticeref07_asked.j1 kj11 a1 false a0_0 a0_1 a0_2 a0_3 l0_4 l0_5 l0_6)))=some r:=by rw [if_neg (show ¬ (false=true) by decide)] at H;exact H
       clear H
       have H:=H1
       clear H1
       have HC18:=Aside0.mk H
       clear H
       go_upto_region 9 with (fail)
       go_cut [45] (fun v45 wc=>∃ (kq:Nat) (x45_17:Bool),v45=.bool x45_17∧Aside0 (latticeref07_asked.j1 kq a1 x45_17 a0_0 a0_1 a0_2 a0_3 l0_4 l0_5 l0_6=some r)∧Aside0 (kq≤kj11)∧Aside0 (wc.heap[gb206]?=some (.cells #[.int .i64 a0_0,.int .i64 a0_1,.int .i64 a0_2,.string a0_3,(.slice A0_4 l0_4.length c0_4),(.slice A0_5 l0_5.length c0_5),(.slice A0_6 l0_6.length c0_6)] 25 (0,0)))∧Aside0 (Below w.heap.size w wc))
       case first =>
        have H:=HC18.out
        clear HC18
        by_cases c19:a4=0
        ·rw [if_pos c19] at H
         have c19b0:(a4==0)=true:=beq_iff_eq.mpr c19
         have c19b1:(a4 != 0)=false:=bne_eq_false_iff_eq.mpr c19
         clear c19
         (first|rw [c19b0]|(simp only [i64_w,i32_w];rw [c19b0])|skip)
         by_cases c20:a0_0=0
         ·rw [if_pos c20] at H
          have c20b0:(a0_0==0)=true:=beq_iff_eq.mpr c20
          have c20b1:(a0_0 != 0)=false:=bne_eq_false_iff_eq.mpr c20
          clear c20
          by_cases c21:a4=1
          ·rw [if_pos c21] at H
           have c21b0:(a4==1)=true:=beq_iff_eq.mpr c21
           have c21b1:(a4 != 1)=false:=bne_eq_false_iff_eq.mpr c21
           clear c21
           have H':=Aside0.mk H
           clear H
           have hcz22_0:wc.cell? ⟨gb206,0,none⟩=some (.int .i64 a0_0):=(blk_cell BK206.out 0).trans rfl
           have hcz22_1:wc.cell? ⟨gb206,1,none⟩=some (.int .i64 a0_1):=(blk_cell BK206.out 1).trans rfl
           have hcz22_2:wc.cell? ⟨gb206,2,none⟩=some (.int .i64 a0_2):=(blk_cell BK206.out 2).trans rfl
           have hcz22_3:wc.cell? ⟨gb206,3,none⟩=some (.string a0_3):=(blk_cell BK206.out 3).trans rfl
           have hcz22_4:wc.cell? ⟨gb206,4,none⟩=some (.slice A0_4 l0_4.length c0_4):=(blk_cell BK206.out 4).trans rfl
           have hcz22_5:wc.cell? ⟨gb206,5,none⟩=some (.slice A0_5 l0_5.length c0_5):=(blk_cell BK206.out 5).trans rfl
           have hcz22_6:wc.cell? ⟨gb206,6,none⟩=some (.slice A0_6 l0_6.length c0_6):=(blk_cell BK206.out 6).trans rfl
           have hfz22_0:=blk_frozen BK206.out 0
           have hfz22_1:=blk_frozen BK206.out 1
           have hfz22_2:=blk_frozen BK206.out 2
           have hfz22_3:=blk_frozen BK206.out 3
           have hfz22_4:=blk_frozen BK206.out 4
           have hfz22_5:=blk_frozen BK206.out 5
           have hfz22_6:=blk_frozen BK206.out 6
           go_wp2
           go_meet
           case rel=>exact ⟨_,((a0_0==0)),(by first|rfl|(simp;done)|(simp [*];done)),H',⟨by have:=HJ11.out;first|omega|exact Nat.le_refl _⟩,⟨by (with_reducible repeat (first|refine blk_drewN ?_ _|refine blk_drew ?_|refine blk_alloc ?_ _));exact BK206.out⟩,⟨by repeat (first|(with_reducible first|exact HB.out|apply below_alloc|apply pw_below_drewN|apply below_drew1|refine below_set ?_ GE206.out)|exact HB.out)⟩⟩
          ·rw [if_neg c21] at H
           have c21b0:(a4==1)=false:=beq_eq_false_iff_ne.mpr c21
           have c21b1:(a4 != 1)=true:=bne_iff_ne.mpr c21
           have H':=Aside0.mk H
           clear H
           have hcz23_0:wc.cell? ⟨gb206,0,none⟩=some (.int .i64 a0_0):=(blk_cell BK206.out 0).trans rfl
           have hcz23_1:wc.cell? ⟨gb206,1,none⟩=some (.int .i64 a0_1):=(blk_cell BK206.out 1).trans rfl
           have hcz23_2:wc.cell? ⟨gb206,2,none⟩=some (.int .i64 a0_2):=(blk_cell BK206.out 2).trans rfl
           have hcz23_3:wc.cell? ⟨gb206,3,none⟩=some (.string a0_3):=(blk_cell BK206.out 3).trans rfl
           have hcz23_4:wc.cell? ⟨gb206,4,none⟩=some (.slice A0_4 l0_4.length c0_4):=(blk_cell BK206.out 4).trans rfl
           have hcz23_5:wc.cell? ⟨gb206,5,none⟩=some (.slice A0_5 l0_5.length c0_5):=(blk_cell BK206.out 5).trans rfl
           have hcz23_6:wc.cell? ⟨gb206,6,none⟩=some (.slice A0_6 l0_6.length c0_6):=(blk_cell BK206.out 6).trans rfl
           have hfz23_0:=blk_frozen BK206.out 0
           have hfz23_1:=blk_frozen BK206.out 1
           have hfz23_2:=blk_frozen BK206.out 2
           have hfz23_3:=blk_frozen BK206.out 3
           have hfz23_4:=blk_frozen BK206.out 4
           have hfz23_5:=blk_frozen BK206.out 5
           have hfz23_6:=blk_frozen BK206.out 6
           go_wp2
           go_meet
           case rel=>exact ⟨_,(false),(by first|rfl|(simp;done)|(simp [*];done)),H',⟨by have:=HJ11.out;first|omega|exact Nat.le_refl _⟩,⟨by (with_reducible repeat (first|refine blk_drewN ?_ _|refine blk_drew ?_|refine blk_alloc ?_ _));exact BK206.out⟩,⟨by repeat (first|(with_reducible first|exact HB.out|apply below_alloc|apply pw_below_drewN|apply below_drew1|refine below_set ?_ GE206.out)|exact HB.out)⟩⟩
         ·rw [if_neg c20] at H
          have c20b0:(a0_0==0)=false:=beq_eq_false_iff_ne.mpr c20
          have c20b1:(a0_0 != 0)=true:=bne_iff_ne.mpr c20
          have H':=Aside0.mk H
          clear H
          have hcz24_0:wc.cell? ⟨gb206,0,none⟩=some (.int .i64 a0_0):=(blk_cell BK206.out 0).trans rfl
          have hcz24_1:wc.cell? ⟨gb206,1,none⟩=some (.int .i64 a0_1):=(blk_cell BK206.out 1).trans rfl
          have hcz24_2:wc.cell? ⟨gb206,2,none⟩=some (.int .i64 a0_2):=(blk_cell BK206.out 2).trans rfl
          have hcz24_3:wc.cell? ⟨gb206,3,none⟩=some (.string a0_3):=(blk_cell BK206.out 3).trans rfl
          have hcz24_4:wc.cell? ⟨gb206,4,none⟩=some (.slice A0_4 l0_4.length c0_4):=(blk_cell BK206.out 4).trans rfl
          have hcz24_5:wc.cell? ⟨gb206,5,none⟩=some (.slice A0_5 l0_5.length c0_5):=(blk_cell BK206.out 5).trans rfl
          have hcz24_6:wc.cell? ⟨gb206,6,none⟩=some (.slice A0_6 l0_6.length c0_6):=(blk_cell BK206.out 6).trans rfl
          have hfz24_0:=blk_frozen BK206.out 0
          have hfz24_1:=blk_frozen BK206.out 1
          have hfz24_2:=blk_frozen BK206.out 2
          have hfz24_3:=blk_frozen BK206.out 3
          have hfz24_4:=blk_frozen BK206.out 4
          have hfz24_5:=blk_frozen BK206.out 5
          have hfz24_6:=blk_frozen BK206.out 6
          go_wp2
          go_meet
          case rel=>exact ⟨_,(true),(by first|rfl|(simp;done)|(simp [*];done)),H',⟨by have:=HJ11.out;first|omega|exact Nat.le_refl _⟩,⟨by (with_reducible repeat (first|refine blk_drewN ?_ _|refine blk_drew ?_|refine blk_alloc ?_ _));exact BK206.out⟩,⟨by repeat (first|(with_reducible first|exact HB.out|apply below_alloc|apply pw_below_drewN|apply below_drew1|refine below_set ?_ GE206.out)|exact HB.out)⟩⟩
        ·rw [if_neg c19] at H
         have c19b0:(a4==0)=false:=beq_eq_false_iff_ne.mpr c19
         have c19b1:(a4 != 0)=true:=bne_iff_ne.mpr c19
         (first|rw [c19b0]|(simp only [i64_w,i32_w];rw [c19b0])|skip)
         by_cases c25:a4=1
         ·rw [if_pos c25] at H
          have c25b0:(a4==1)=true:=beq_iff_eq.mpr c25
          have c25b1:(a4 != 1)=false:=bne_eq_false_iff_eq.mpr c25
          clear c25
          have H':=Aside0.mk H
          clear H
          have hcz26_0:wc.cell? ⟨gb206,0,none⟩=some (.int .i64 a0_0):=(blk_cell BK206.out 0).trans rfl
          have hcz26_1:wc.cell? ⟨gb206,1,none⟩=some (.int .i64 a0_1):=(blk_cell BK206.out 1).trans rfl
          have hcz26_2:wc.cell? ⟨gb206,2,none⟩=some (.int .i64 a0_2):=(blk_cell BK206.out 2).trans rfl
          have hcz26_3:wc.cell? ⟨gb206,3,none⟩=some (.string a0_3):=(blk_cell BK206.out 3).trans rfl
          have hcz26_4:wc.cell? ⟨gb206,4,none⟩=some (.slice A0_4 l0_4.length c0_4):=(blk_cell BK206.out 4).trans rfl
          have hcz26_5:wc.cell? ⟨gb206,5,none⟩=some (.slice A0_5 l0_5.length c0_5):=(blk_cell BK206.out 5).trans rfl
          have hcz26_6:wc.cell? ⟨gb206,6,none⟩=some (.slice A0_6 l0_6.length c0_6):=(blk_cell BK206.out 6).trans rfl
          have hfz26_0:=blk_frozen BK206.out 0
          have hfz26_1:=blk_frozen BK206.out 1
          have hfz26_2:=blk_frozen BK206.out 2
          have hfz26_3:=blk_frozen BK206.out 3
          have hfz26_4:=blk_frozen BK206.out 4
          have hfz26_5:=blk_frozen BK206.out 5
          have hfz26_6:=blk_frozen BK206.out 6
          go_wp2
          go_meet
          case rel=>exact ⟨_,((a0_0==0)),(by first|rfl|(simp;done)|(simp [*];done)),H',⟨by have:=HJ11.out;first|omega|exact Nat.le_refl _⟩,⟨by (with_reducible repeat (first|refine blk_drewN ?_ _|refine blk_drew ?_|refine blk_alloc ?_ _));exact BK206.out⟩,⟨by repeat (first|(with_reducible first|exact HB.out|apply below_alloc|apply pw_below_drewN|apply below_drew1|refine below_set ?_ GE206.out)|exact HB.out)⟩⟩
         ·rw [if_neg c25] at H
          have c25b0:(a4==1)=false:=beq_eq_false_iff_ne.mpr c25
          have c25b1:(a4 != 1)=true:=bne_iff_ne.mpr c25
          have H':=Aside0.mk H
          clear H
          go_wp2
          go_meet
          case rel=>exact ⟨_,(false),(by first|rfl|(simp;done)|(simp [*];done)),H',⟨by have:=HJ11.out;first|omega|exact Nat.le_refl _⟩,⟨by (with_reducible repeat (first|refine blk_drewN ?_ _|refine blk_drew ?_|refine blk_alloc ?_ _));exact BK206.out⟩,⟨by repeat (first|(with_reducible first|exact HB.out|apply below_alloc|apply pw_below_drewN|apply below_drew1|refine below_set ?_ GE206.out)|exact HB.out)⟩⟩
       case rest =>
        clear HC18
        try clear c1
        try clear c2
        try clear p2
        try clear c4
        try clear c7
        try clear c9
        try clear c9b0
        try clear c9b1
        try clear c11
        try clear c11b0
        try clear c11b1
        try clear c16
        try clear c16b0
        try clear c17
        try clear c19
        try clear c19b0
        try clear c19b1
        try clear c20
        try clear c20b0
        try clear c20b1
        try clear c21
        try clear c21b0
        try clear c21b1
        try clear c24
        try clear c25
        try clear c25b0
        try clear c25b1
        try clear hcz14_0
        try clear hcz14_1
        try clear hcz14_2
        try clear hcz14_3
        try clear hcz14_4
        try clear hcz14_5
        try clear hcz14_6
        try clear hcz22_0
        try clear hcz22_1
        try clear hcz22_2
        try clear hcz22_3
        try clear hcz22_4
        try clear hcz22_5
        try clear hcz22_6
        try clear hcz23_0
        try clear hcz23_1
        try clear hcz23_2
        try clear hcz23_3
        try clear hcz23_4
        try clear hcz23_5
        try clear hcz23_6
        try clear hcz24_0
        try clear hcz24_1
        try clear hcz24_2
        try clear hcz24_3
        try clear hcz24_4
        try clear hcz24_5
        try clear hcz24_6
        try clear hcz26_0
        try clear hcz26_1
        try clear hcz26_2
        try clear hcz26_3
        try clear hcz26_4
        try clear hcz26_5
        try clear hcz26_6
        try clear hfz14_0
        try clear hfz14_1
        try clear hfz14_2
        try clear hfz14_3
        try clear hfz14_4
        try clear hfz14_5
        try clear hfz14_6
        try clear hfz22_0
        try clear hfz22_1
        try clear hfz22_2
        try clear hfz22_3
        try clear hfz22_4
        try clear hfz22_5
        try clear hfz22_6
        try clear hfz23_0
        try clear hfz23_1
        try clear hfz23_2
        try clear hfz23_3
        try clear hfz23_4
        try clear hfz23_5
        try clear hfz23_6
        try clear hfz24_0
        try clear hfz24_1
        try clear hfz24_2
        try clear hfz24_3
        try clear hfz24_4
        try clear hfz24_5
        try clear hfz24_6
        try clear hfz26_0
        try clear hfz26_1
        try clear hfz26_2
        try clear hfz26_3
        try clear hfz26_4
        try clear hfz26_5
        try clear hfz26_6
        try clear p2
        obtain ⟨kq,x45_17,rfl,HA,HJ17,BK206,HB⟩:=hcut
        cases kq with
        | zero=>exact absurd HA.out (by simp [latticeref07_asked.j1])
        | succ kj17 =>
         have H:=HA.out
         clear HA
         simp only [latticeref07_asked.j1] at H
         by_cases c27:x45_17=true
         ·subst c27
          have H1:(some 7)=some r:=by rw [if_pos rfl] at H;exact H
          clear H
          have H:=H1
          clear H1
          obtain rfl:=Option.some.inj H
          go_wp2
          go_ret
          exact ⟨by first|rfl|(simp [errW_none,errW_some] <;> rfl)|(simp [*,errW_none,errW_some] <;> rfl),by repeat (first|(with_reducible first|exact HB.out|apply below_alloc|apply pw_below_drewN|apply below_drew1|refine below_set ?_ GE206.out)|exact HB.out)⟩
         ·replace c27:=Bool.eq_false_iff.mpr c27
          subst c27
          have H1:((latticeref07_Further.f kj17 a0_0 a0_1 a0_2 a0_3 l0_4 l0_5 l0_6 a1).bind fun t212=>(if t212=true then (some 71) else (some 0)))=some r:=by rw [if_neg (show ¬ (false=true) by decide)] at H;exact H
          clear H
          have H:=H1
          clear H1
          replace H:=Option.bind_eq_some_iff.mp H
          obtain ⟨t212,A280,H⟩:=H
          try dsimp only at H
          have A28:=Aside0.mk A280
          clear A280
          by_cases c29:t212=true
          ·subst c29
           have H1:(some 71)=some r:=by rw [if_pos rfl] at H;exact H
           clear H
           have H:=H1
           clear H1
           obtain rfl:=Option.some.inj H
           have hcz30_0:wc.cell? ⟨gb206,0,none⟩=some (.int .i64 a0_0):=(blk_cell BK206.out 0).trans rfl
           have hcz30_1:wc.cell? ⟨gb206,1,none⟩=some (.int .i64 a0_1):=(blk_cell BK206.out 1).trans rfl
           have hcz30_2:wc.cell? ⟨gb206,2,none⟩=some (.int .i64 a0_2):=(blk_cell BK206.out 2).trans rfl
           have hcz30_3:wc.cell? ⟨gb206,3,none⟩=some (.string a0_3):=(blk_cell BK206.out 3).trans rfl
           have hcz30_4:wc.cell? ⟨gb206,4,none⟩=some (.slice A0_4 l0_4.length c0_4):=(blk_cell BK206.out 4).trans rfl
           have hcz30_5:wc.cell? ⟨gb206,5,none⟩=some (.slice A0_5 l0_5.length c0_5):=(blk_cell BK206.out 5).trans rfl
           have hcz30_6:wc.cell? ⟨gb206,6,none⟩=some (.slice A0_6 l0_6.length c0_6):=(blk_cell BK206.out 6).trans rfl
           have hfz30_0:=blk_frozen BK206.out 0
           have hfz30_1:=blk_frozen BK206.out 1
           have hfz30_2:=blk_frozen BK206.out 2
           have hfz30_3:=blk_frozen BK206.out 3
           have hfz30_4:=blk_frozen BK206.out 4
           have hfz30_5:=blk_frozen BK206.out 5
           have hfz30_6:=blk_frozen BK206.out 6
           go_wp2_with (first|((with_reducible refine gate_callee (f:=23) rfl ?_);refine goesL_ (some 48) rfl rfl Try.func23 (by kernel_rfl) rfl #[.agg #[.int .i64 a0_0,.int .i64 a0_1,.int .i64 a0_2,.string a0_3,.slice A0_4 l0_4.length c0_4,.slice A0_5 l0_5.length c0_5,.slice A0_6 l0_6.length c0_6],.string a1] rfl (by (try simp only [List.map_toArray,List.map_cons,List.map_nil]);first|done|rfl|(simp only [List.length_drop,List.length_take];rfl)) ?_;(with_reducible refine (latticeref07_Further.calls kj17 a0_0 a0_1 a0_2 a0_3 _ _ l0_4 _ _ l0_5 _ _ l0_6 a1 true _ ?side1 ?side2 ?side3 ?side4 ?side5 ?side6 A28.out).mono ?_);(case side1=>repeat (first|exact (Kd.C_below HR0_4.out HB.out)|(with_reducible refine Kd.C_alloc ?_ _)|(with_reducible refine Kd.C_drewN ?_ _)|(with_reducible refine Kd.C_drew ?_)));(case side2=>exact HC0_4.out);(case side3=>repeat (first|exact (Kd.C_below HR0_5.out HB.out)|(with_reducible refine Kd.C_alloc ?_ _)|(with_reducible refine Kd.C_drewN ?_ _)|(with_reducible refine Kd.C_drew ?_)));(case side4=>exact HC0_5.out);(case side5=>repeat (first|exact (Kd.C_below HR0_6.out HB.out)|(with_reducible refine Kd.C_alloc ?_ _)|(with_reducible refine Kd.C_drewN ?_ _)|(with_reducible refine Kd.C_drew ?_)));(case side6=>exact HC0_6.out);rintro e w31 ⟨rfl,hb⟩;refine ⟨_,rfl,?_⟩;have n0_:=Aside0.mk (blk_below (g:=gb206) (o:=.cells #[.int .i64 a0_0,.int .i64 a0_1,.int .i64 a0_2,.string a0_3,.slice A0_4 l0_4.length c0_4,.slice A0_5 l0_5.length c0_5,.slice A0_6 l0_6.length c0_6] 25 (0,0)) (by (with_reducible repeat (first|refine blk_drewN ?_ _|refine blk_drew ?_|refine blk_alloc ?_ _));exact BK206.out) hb);have n1_:=Aside0.mk (below_step (by repeat (first|(with_reducible first|exact HB.out|apply below_alloc|apply pw_below_drewN|apply below_drew1|refine below_set ?_ GE206.out)|exact HB.out)) hb);clear BK206;clear HB;have BK206:=n0_;have HB:=n1_;clear n0_ n1_;(try clear hb);(try clear hb2);(try clear hk);(try clear hi)))
           go_ret
           exact ⟨by first|rfl|(simp [errW_none,errW_some] <;> rfl)|(simp [*,errW_none,errW_some] <;> rfl),by repeat (first|(with_reducible first|exact HB.out|apply below_alloc|apply pw_below_drewN|apply below_drew1|refine below_set ?_ GE206.out)|exact HB.out)⟩
          ·replace c29:=Bool.eq_false_iff.mpr c29
           subst c29
           have H1:(some 0)=some r:=by rw [if_neg (show ¬ (false=true) by decide)] at H;exact H
           clear H
           have H:=H1
           clear H1
           obtain rfl:=Option.some.inj H
           have hcz32_0:wc.cell? ⟨gb206,0,none⟩=some (.int .i64 a0_0):=(blk_cell BK206.out 0).trans rfl
           have hcz32_1:wc.cell? ⟨gb206,1,none⟩=some (.int .i64 a0_1):=(blk_cell BK206.out 1).trans rfl
           have hcz32_2:wc.cell? ⟨gb206,2,none⟩=some (.int .i64 a0_2):=(blk_cell BK206.out 2).trans rfl
           have hcz32_3:wc.cell? ⟨gb206,3,none⟩=some (.string a0_3):=(blk_cell BK206.out 3).trans rfl
           have hcz32_4:wc.cell? ⟨gb206,4,none⟩=some (.slice A0_4 l0_4.length c0_4):=(blk_cell BK206.out 4).trans rfl
           have hcz32_5:wc.cell? ⟨gb206,5,none⟩=some (.slice A0_5 l0_5.length c0_5):=(blk_cell BK206.out 5).trans rfl
           have hcz32_6:wc.cell? ⟨gb206,6,none⟩=some (.slice A0_6 l0_6.length c0_6):=(blk_cell BK206.out 6).trans rfl
           have hfz32_0:=blk_frozen BK206.out 0
           have hfz32_1:=blk_frozen BK206.out 1
           have hfz32_2:=blk_frozen BK206.out 2
           have hfz32_3:=blk_frozen BK206.out 3
           have hfz32_4:=blk_frozen BK206.out 4
           have hfz32_5:=blk_frozen BK206.out 5
           have hfz32_6:=blk_frozen BK206.out 6
           go_wp2_with (first|((with_reducible refine gate_callee (f:=23) rfl ?_);refine goesL_ (some 48) rfl rfl Try.func23 (by kernel_rfl) rfl #[.agg #[.int .i64 a0_0,.int .i64 a0_1,.int .i64 a0_2,.string a0_3,.slice A0_4 l0_4.length c0_4,.slice A0_5 l0_5.length c0_5,.slice A0_6 l0_6.length c0_6],.string a1] rfl (by (try simp only [List.map_toArray,List.map_cons,List.map_nil]);first|done|rfl|(simp only [List.length_drop,List.length_take];rfl)) ?_;(with_reducible refine (latticeref07_Further.calls kj17 a0_0 a0_1 a0_2 a0_3 _ _ l0_4 _ _ l0_5 _ _ l0_6 a1 false _ ?side1 ?side2 ?side3 ?side4 ?side5 ?side6 A28.out).mono ?_);(case side1=>repeat (first|exact (Kd.C_below HR0_4.out HB.out)|(with_reducible refine Kd.C_alloc ?_ _)|(with_reducible refine Kd.C_drewN ?_ _)|(with_reducible refine Kd.C_drew ?_)));(case side2=>exact HC0_4.out);(case side3=>repeat (first|exact (Kd.C_below HR0_5.out HB.out)|(with_reducible refine Kd.C_alloc ?_ _)|(with_reducible refine Kd.C_drewN ?_ _)|(with_reducible refine Kd.C_drew ?_)));(case side4=>exact HC0_5.out);(case side5=>repeat (first|exact (Kd.C_below HR0_6.out HB.out)|(with_reducible refine Kd.C_alloc ?_ _)|(with_reducible refine Kd.C_drewN ?_ _)|(with_reducible refine Kd.C_drew ?_)));(case side6=>exact HC0_6.out);rintro e w33 ⟨rfl,hb⟩;refine ⟨_,rfl,?_⟩;have n0_:=Aside0.mk (blk_below (g:=gb206) (o:=.cells #[.int .i64 a0_0,.int .i64 a0_1,.int .i64 a0_2,.string a0_3,.slice A0_4 l0_4.length c0_4,.slice A0_5 l0_5.length c0_5,.slice A0_6 l0_6.length c0_6] 25 (0,0)) (by (with_reducible repeat (first|refine blk_drewN ?_ _|refine blk_drew ?_|refine blk_alloc ?_ _));exact BK206.out) hb);have n1_:=Aside0.mk (below_step (by repeat (first|(with_reducible first|exact HB.out|apply below_alloc|apply pw_below_drewN|apply below_drew1|refine below_set ?_ GE206.out)|exact HB.out)) hb);clear BK206;clear HB;have BK206:=n0_;have HB:=n1_;clear n0_ n1_;(try clear hb);(try clear hb2);(try clear hk);(try clear hi)))
           go_ret
           exact ⟨by first|rfl|(simp [errW_none,errW_some] <;> rfl)|(simp [*,errW_none,errW_some] <;> rfl),by repeat (first|(with_reducible first|exact HB.out|apply below_alloc|apply pw_below_drewN|apply below_drew1|refine below_set ?_ GE206.out)|exact HB.out)⟩
   ·rw [if_neg c11] at H
    have c11b0:(t210==0)=false:=beq_eq_false_iff_ne.mpr c11
    have c11b1:(t210 != 0)=true:=bne_iff_ne.mpr c11
    replace H:=Option.bind_eq_some_iff.mp H
    obtain ⟨t211,A340,H⟩:=H
    replace H:(some t211)=some r:=H
    have A34:=Aside0.mk A340
    clear A340
    obtain rfl:=Option.some.inj H
    go_enter Try.func46,Try.ntmps46
    go_wp2_with (first|((with_reducible refine gate_dst (N:=5) rfl ?_);refine box_event ?hg (N:=5) ?hd (cs:=#[.int .i64 a0_0,.int .i64 a0_1,.int .i64 a0_2,.string a0_3,.slice A0_4 l0_4.length c0_4,.slice A0_5 l0_5.length c0_5,.slice A0_6 l0_6.length c0_6]) (t:=25) ?hr ?_;(case hd=>rfl);(case hg=>rfl);(case hr=>first|(go_simp;done)|(go_simp;rfl));intro gb206 hg w35 hbox hb;have n0_:=Aside0.mk (below_step (by repeat (first|(with_reducible first|exact HB.out|apply below_alloc|apply pw_below_drewN|apply below_drew1)|exact HB.out)) hb);have n1_:=Aside0.mk (hbox);have n2_:=Aside0.mk ((by rw [hg];exact (below_size (by repeat (first|(with_reducible first|exact HB.out|apply below_alloc|apply pw_below_drewN|apply below_drew1)|exact HB.out))):w.heap.size≤gb206));have n3_:=Aside0.mk ((by rw [hg];exact (below_size (by repeat (first|(with_reducible first|exact HB.out|apply below_alloc|apply pw_below_drewN|apply below_drew1)|exact HB.out))):w.heap.size≤gb206));clear HB;have HB:=n0_;have BK206:=n1_;have GW206:=n2_;have GE206:=n3_;clear n0_ n1_ n2_ n3_;clear hb hbox hg;have hcz36_0:w35.cell? ⟨gb206,0,none⟩=some (.int .i64 a0_0):=(blk_cell BK206.out 0).trans rfl;have hcz36_1:w35.cell? ⟨gb206,1,none⟩=some (.int .i64 a0_1):=(blk_cell BK206.out 1).trans rfl;have hcz36_2:w35.cell? ⟨gb206,2,none⟩=some (.int .i64 a0_2):=(blk_cell BK206.out 2).trans rfl;have hcz36_3:w35.cell? ⟨gb206,3,none⟩=some (.string a0_3):=(blk_cell BK206.out 3).trans rfl;have hcz36_4:w35.cell? ⟨gb206,4,none⟩=some (.slice A0_4 l0_4.length c0_4):=(blk_cell BK206.out 4).trans rfl;have hcz36_5:w35.cell? ⟨gb206,5,none⟩=some (.slice A0_5 l0_5.length c0_5):=(blk_cell BK206.out 5).trans rfl;have hcz36_6:w35.cell? ⟨gb206,6,none⟩=some (.slice A0_6 l0_6.length c0_6):=(blk_cell BK206.out 6).trans rfl;have hfz36_0:=blk_frozen BK206.out 0;have hfz36_1:=blk_frozen BK206.out 1;have hfz36_2:=blk_frozen BK206.out 2;have hfz36_3:=blk_frozen BK206.out 3;have hfz36_4:=blk_frozen BK206.out 4;have hfz36_5:=blk_frozen BK206.out 5;have hfz36_6:=blk_frozen BK206.out 6)|((with_reducible refine gate_callee (f:=24) rfl ?_);refine goesL_ (some 12) rfl rfl Try.func24 (by kernel_rfl) rfl #[.agg #[.int .i64 a0_0,.int .i64 a0_1,.int .i64 a0_2,.string a0_3,.slice A0_4 l0_4.length c0_4,.slice A0_5 l0_5.length c0_5,.slice A0_6 l0_6.length c0_6]] rfl (by (try simp only [List.map_toArray,List.map_cons,List.map_nil]);first|done|rfl|(simp only [List.length_drop,List.length_take];rfl)) ?_;(with_reducible refine (latticeref06_Right.calls k a0_0 a0_1 a0_2 a0_3 _ _ l0_4 _ _ l0_5 _ _ l0_6 true _ ?side1 ?side2 ?side3 ?side4 ?side5 ?side6 A6.out).mono ?_);(case side1=>repeat (first|exact (Kd.C_below HR0_4.out HB.out)|(with_reducible refine Kd.C_alloc ?_ _)|(with_reducible refine Kd.C_drewN ?_ _)|(with_reducible refine Kd.C_drew ?_)));(case side2=>exact HC0_4.out);(case side3=>repeat (first|exact (Kd.C_below HR0_5.out HB.out)|(with_reducible refine Kd.C_alloc ?_ _)|(with_reducible refine Kd.C_drewN ?_ _)|(with_reducible refine Kd.C_drew ?_)));(case side4=>exact HC0_5.out);(case side5=>repeat (first|exact (Kd.C_below HR0_6.out HB.out)|(with_reducible refine Kd.C_alloc ?_ _)|(with_reducible refine Kd.C_drewN ?_ _)|(with_reducible refine Kd.C_drew ?_)));(case side6=>exact HC0_6.out);rintro e w37 ⟨rfl,hb⟩;refine ⟨_,rfl,?_⟩;have n0_:=Aside0.mk (blk_below (g:=gb206) (o:=.cells #[.int .i64 a0_0,.int .i64 a0_1,.int .i64 a0_2,.string a0_3,.slice A0_4 l0_4.length c0_4,.slice A0_5 l0_5.length c0_5,.slice A0_6 l0_6.length c0_6] 25 (0,0)) (by (with_reducible repeat (first|refine blk_drewN ?_ _|refine blk_drew ?_|refine blk_alloc ?_ _));exact BK206.out) hb);have n1_:=Aside0.mk (below_step (by repeat (first|(with_reducible first|exact HB.out|apply below_alloc|apply pw_below_drewN|apply below_drew1|refine below_set ?_ GE206.out)|exact HB.out)) hb);clear BK206;clear HB;have BK206:=n0_;have HB:=n1_;clear n0_ n1_;(try clear hb);(try clear hb2);(try clear hk);(try clear hi))|((with_reducible refine gate_callee (f:=25) rfl ?_);refine goesL_ (some 15) rfl rfl Try.func25 (by kernel_rfl) rfl #[.string a1] rfl (by (try simp only [List.map_toArray,List.map_cons,List.map_nil]);first|done|rfl|(simp only [List.length_drop,List.length_take];rfl)) ?_;(with_reducible refine (latticeref05_Check.calls a1 t208 _ A8.out).mono ?_);rintro e w' ⟨rfl,⟨nd,rfl⟩⟩;refine ⟨_,rfl,?_⟩)|((with_reducible refine gate_callee (f:=47) rfl ?_);refine goesL_ (some 20) rfl rfl Try.func47 (by kernel_rfl) rfl #[.string a2] rfl (by (try simp only [List.map_toArray,List.map_cons,List.map_nil]);first|done|rfl|(simp only [List.length_drop,List.length_take];rfl)) ?_;(with_reducible refine (latticeref05_Value.calls a2 t210 _ A10.out).mono ?_);rintro e w' ⟨rfl,⟨nd,rfl⟩⟩;refine ⟨_,rfl,?_⟩)|((with_reducible refine gate_callee (f:=47) rfl ?_);refine goesL_ (some 23) rfl rfl Try.func47 (by kernel_rfl) rfl #[.string a2] rfl (by (try simp only [List.map_toArray,List.map_cons,List.map_nil]);first|done|rfl|(simp only [List.length_drop,List.length_take];rfl)) ?_;(with_reducible refine (latticeref05_Value.calls a2 t211 _ A34.out).mono ?_);rintro e w' ⟨rfl,⟨nd,rfl⟩⟩;refine ⟨_,rfl,?_⟩))
    go_ret
    exact ⟨by first|rfl|(simp [errW_none,errW_some] <;> rfl)|(simp [*,errW_none,errW_some] <;> rfl),by repeat (first|(with_reducible first|exact HB.out|apply below_alloc|apply pw_below_drewN|apply below_drew1|refine below_set ?_ GE206.out)|exact HB.out)⟩
  ·rw [if_neg c9] at H
   have c9b0:(t208==0)=false:=beq_eq_false_iff_ne.mpr c9
   have c9b1:(t208 != 0)=true:=bne_iff_ne.mpr c9
   replace H:=Option.bind_eq_some_iff.mp H
   obtain ⟨t209,A380,H⟩:=H
   replace H:(some t209)=some r:=H
   have A38:=Aside0.mk A380
   clear A380
   obtain rfl:=Option.some.inj H
   go_enter Try.func46,Try.ntmps46
   go_wp2_with (first|((with_reducible refine gate_dst (N:=5) rfl ?_);refine box_event ?hg (N:=5) ?hd (cs:=#[.int .i64 a0_0,.int .i64 a0_1,.int .i64 a0_2,.string a0_3,.slice A0_4 l0_4.length c0_4,.slice A0_5 l0_5.length c0_5,.slice A0_6 l0_6.length c0_6]) (t:=25) ?hr ?_;(case hd=>rfl);(case hg=>rfl);(case hr=>first|(go_simp;done)|(go_simp;rfl));intro gb206 hg w39 hbox hb;have n0_:=Aside0.mk (below_step (by repeat (first|(with_reducible first|exact HB.out|apply below_alloc|apply pw_below_drewN|apply below_drew1)|exact HB.out)) hb);have n1_:=Aside0.mk (hbox);have n2_:=Aside0.mk ((by rw [hg];exact (below_size (by repeat (first|(with_reducible first|exact HB.out|apply below_alloc|apply pw_below_drewN|apply below_drew1)|exact HB.out))):w.heap.size≤gb206));have n3_:=Aside0.mk ((by rw [hg];exact (below_size (by repeat (first|(with_reducible first|exact HB.out|apply below_alloc|apply pw_below_drewN|apply below_drew1)|exact HB.out))):w.heap.size≤gb206));clear HB;have HB:=n0_;have BK206:=n1_;have GW206:=n2_;have GE206:=n3_;clear n0_ n1_ n2_ n3_;clear hb hbox hg;have hcz40_0:w39.cell? ⟨gb206,0,none⟩=some (.int .i64 a0_0):=(blk_cell BK206.out 0).trans rfl;have hcz40_1:w39.cell? ⟨gb206,1,none⟩=some (.int .i64 a0_1):=(blk_cell BK206.out 1).trans rfl;have hcz40_2:w39.cell? ⟨gb206,2,none⟩=some (.int .i64 a0_2):=(blk_cell BK206.out 2).trans rfl;have hcz40_3:w39.cell? ⟨gb206,3,none⟩=some (.string a0_3):=(blk_cell BK206.out 3).trans rfl;have hcz40_4:w39.cell? ⟨gb206,4,none⟩=some (.slice A0_4 l0_4.length c0_4):=(blk_cell BK206.out 4).trans rfl;have hcz40_5:w39.cell? ⟨gb206,5,none⟩=some (.slice A0_5 l0_5.length c0_5):=(blk_cell BK206.out 5).trans rfl;have hcz40_6:w39.cell? ⟨gb206,6,none⟩=some (.slice A0_6 l0_6.length c0_6):=(blk_cell BK206.out 6).trans rfl;have hfz40_0:=blk_frozen BK206.out 0;have hfz40_1:=blk_frozen BK206.out 1;have hfz40_2:=blk_frozen BK206.out 2;have hfz40_3:=blk_frozen BK206.out 3;have hfz40_4:=blk_frozen BK206.out 4;have hfz40_5:=blk_frozen BK206.out 5;have hfz40_6:=blk_frozen BK206.out 6)|((with_reducible refine gate_callee (f:=24) rfl ?_);refine goesL_ (some 12) rfl rfl Try.func24 (by kernel_rfl) rfl #[.agg #[.int .i64 a0_0,.int .i64 a0_1,.int .i64 a0_2,.string a0_3,.slice A0_4 l0_4.length c0_4,.slice A0_5 l0_5.length c0_5,.slice A0_6 l0_6.length c0_6]] rfl (by (try simp only [List.map_toArray,List.map_cons,List.map_nil]);first|done|rfl|(simp only [List.length_drop,List.length_take];rfl)) ?_;(with_reducible refine (latticeref06_Right.calls k a0_0 a0_1 a0_2 a0_3 _ _ l0_4 _ _ l0_5 _ _ l0_6 true _ ?side1 ?side2 ?side3 ?side4 ?side5 ?side6 A6.out).mono ?_);(case side1=>repeat (first|exact (Kd.C_below HR0_4.out HB.out)|(with_reducible refine Kd.C_alloc ?_ _)|(with_reducible refine Kd.C_drewN ?_ _)|(with_reducible refine Kd.C_drew ?_)));(case side2=>exact HC0_4.out);(case side3=>repeat (first|exact (Kd.C_below HR0_5.out HB.out)|(with_reducible refine Kd.C_alloc ?_ _)|(with_reducible refine Kd.C_drewN ?_ _)|(with_reducible refine Kd.C_drew ?_)));(case side4=>exact HC0_5.out);(case side5=>repeat (first|exact (Kd.C_below HR0_6.out HB.out)|(with_reducible refine Kd.C_alloc ?_ _)|(with_reducible refine Kd.C_drewN ?_ _)|(with_reducible refine Kd.C_drew ?_)));(case side6=>exact HC0_6.out);rintro e w41 ⟨rfl,hb⟩;refine ⟨_,rfl,?_⟩;have n0_:=Aside0.mk (blk_below (g:=gb206) (o:=.cells #[.int .i64 a0_0,.int .i64 a0_1,.int .i64 a0_2,.string a0_3,.slice A0_4 l0_4.length c0_4,.slice A0_5 l0_5.length c0_5,.slice A0_6 l0_6.length c0_6] 25 (0,0)) (by (with_reducible repeat (first|refine blk_drewN ?_ _|refine blk_drew ?_|refine blk_alloc ?_ _));exact BK206.out) hb);have n1_:=Aside0.mk (below_step (by repeat (first|(with_reducible first|exact HB.out|apply below_alloc|apply pw_below_drewN|apply below_drew1|refine below_set ?_ GE206.out)|exact HB.out)) hb);clear BK206;clear HB;have BK206:=n0_;have HB:=n1_;clear n0_ n1_;(try clear hb);(try clear hb2);(try clear hk);(try clear hi))|((with_reducible refine gate_callee (f:=25) rfl ?_);refine goesL_ (some 15) rfl rfl Try.func25 (by kernel_rfl) rfl #[.string a1] rfl (by (try simp only [List.map_toArray,List.map_cons,List.map_nil]);first|done|rfl|(simp only [List.length_drop,List.length_take];rfl)) ?_;(with_reducible refine (latticeref05_Check.calls a1 t208 _ A8.out).mono ?_);rintro e w' ⟨rfl,⟨nd,rfl⟩⟩;refine ⟨_,rfl,?_⟩)|((with_reducible refine gate_callee (f:=25) rfl ?_);refine goesL_ (some 18) rfl rfl Try.func25 (by kernel_rfl) rfl #[.string a1] rfl (by (try simp only [List.map_toArray,List.map_cons,List.map_nil]);first|done|rfl|(simp only [List.length_drop,List.length_take];rfl)) ?_;(with_reducible refine (latticeref05_Check.calls a1 t209 _ A38.out).mono ?_);rintro e w' ⟨rfl,⟨nd,rfl⟩⟩;refine ⟨_,rfl,?_⟩))
   go_ret
   exact ⟨by first|rfl|(simp [errW_none,errW_some] <;> rfl)|(simp [*,errW_none,errW_some] <;> rfl),by repeat (first|(with_reducible first|exact HB.out|apply below_alloc|apply pw_below_drewN|apply below_drew1|refine below_set ?_ GE206.out)|exact HB.out)⟩
 ·replace c7:=Bool.eq_false_iff.mpr c7
  subst c7
  have H1:(some 70)=some r:=by rw [if_neg (show ¬ (false=true) by decide)] at H;exact H
  clear H
  have H:=H1
  clear H1
  obtain rfl:=Option.some.inj H
  go_enter Try.func46,Try.ntmps46
  go_wp2_with (first|((with_reducible refine gate_dst (N:=5) rfl ?_);refine box_event ?hg (N:=5) ?hd (cs:=#[.int .i64 a0_0,.int .i64 a0_1,.int .i64 a0_2,.string a0_3,.slice A0_4 l0_4.length c0_4,.slice A0_5 l0_5.length c0_5,.slice A0_6 l0_6.length c0_6]) (t:=25) ?hr ?_;(case hd=>rfl);(case hg=>rfl);(case hr=>first|(go_simp;done)|(go_simp;rfl));intro gb206 hg w42 hbox hb;have n0_:=Aside0.mk (below_step (by repeat (first|(with_reducible first|exact HB.out|apply below_alloc|apply pw_below_drewN|apply below_drew1)|exact HB.out)) hb);have n1_:=Aside0.mk (hbox);have n2_:=Aside0.mk ((by rw [hg];exact (below_size (by repeat (first|(with_reducible first|exact HB.out|apply below_alloc|apply pw_below_drewN|apply below_drew1)|exact HB.out))):w.heap.size≤gb206));have n3_:=Aside0.mk ((by rw [hg];exact (below_size (by repeat (first|(with_reducible first|exact HB.out|apply below_alloc|apply pw_below_drewN|apply below_drew1)|exact HB.out))):w.heap.size≤gb206));clear HB;have HB:=n0_;have BK206:=n1_;have GW206:=n2_;have GE206:=n3_;clear n0_ n1_ n2_ n3_;clear hb hbox hg;have hcz43_0:w42.cell? ⟨gb206,0,none⟩=some (.int .i64 a0_0):=(blk_cell BK206.out 0).trans rfl;have hcz43_1:w42.cell? ⟨gb206,1,none⟩=some (.int .i64 a0_1):=(blk_cell BK206.out 1).trans rfl;have hcz43_2:w42.cell? ⟨gb206,2,none⟩=some (.int .i64 a0_2):=(blk_cell BK206.out 2).trans rfl;have hcz43_3:w42.cell? ⟨gb206,3,none⟩=some (.string a0_3):=(blk_cell BK206.out 3).trans rfl;have hcz43_4:w42.cell? ⟨gb206,4,none⟩=some (.slice A0_4 l0_4.length c0_4):=(blk_cell BK206.out 4).trans rfl;have hcz43_5:w42.cell? ⟨gb206,5,none⟩=some (.slice A0_5 l0_5.length c0_5):=(blk_cell BK206.out 5).trans rfl;have hcz43_6:w42.cell? ⟨gb206,6,none⟩=some (.slice A0_6 l0_6.length c0_6):=(blk_cell BK206.out 6).trans rfl;have hfz43_0:=blk_frozen BK206.out 0;have hfz43_1:=blk_frozen BK206.out 1;have hfz43_2:=blk_frozen BK206.out 2;have hfz43_3:=blk_frozen BK206.out 3;have hfz43_4:=blk_frozen BK206.out 4;have hfz43_5:=blk_frozen BK206.out 5;have hfz43_6:=blk_frozen BK206.out 6)|((with_reducible refine gate_callee (f:=24) rfl ?_);refine goesL_ (some 12) rfl rfl Try.func24 (by kernel_rfl) rfl #[.agg #[.int .i64 a0_0,.int .i64 a0_1,.int .i64 a0_2,.string a0_3,.slice A0_4 l0_4.length c0_4,.slice A0_5 l0_5.length c0_5,.slice A0_6 l0_6.length c0_6]] rfl (by (try simp only [List.map_toArray,List.map_cons,List.map_nil]);first|done|rfl|(simp only [List.length_drop,List.length_take];rfl)) ?_;(with_reducible refine (latticeref06_Right.calls k a0_0 a0_1 a0_2 a0_3 _ _ l0_4 _ _ l0_5 _ _ l0_6 false _ ?side1 ?side2 ?side3 ?side4 ?side5 ?side6 A6.out).mono ?_);(case side1=>repeat (first|exact (Kd.C_below HR0_4.out HB.out)|(with_reducible refine Kd.C_alloc ?_ _)|(with_reducible refine Kd.C_drewN ?_ _)|(with_reducible refine Kd.C_drew ?_)));(case side2=>exact HC0_4.out);(case side3=>repeat (first|exact (Kd.C_below HR0_5.out HB.out)|(with_reducible refine Kd.C_alloc ?_ _)|(with_reducible refine Kd.C_drewN ?_ _)|(with_reducible refine Kd.C_drew ?_)));(case side4=>exact HC0_5.out);(case side5=>repeat (first|exact (Kd.C_below HR0_6.out HB.out)|(with_reducible refine Kd.C_alloc ?_ _)|(with_reducible refine Kd.C_drewN ?_ _)|(with_reducible refine Kd.C_drew ?_)));(case side6=>exact HC0_6.out);rintro e w44 ⟨rfl,hb⟩;refine ⟨_,rfl,?_⟩;have n0_:=Aside0.mk (blk_below (g:=gb206) (o:=.cells #[.int .i64 a0_0,.int .i64 a0_1,.int .i64 a0_2,.string a0_3,.slice A0_4 l0_4.length c0_4,.slice A0_5 l0_5.length c0_5,.slice A0_6 l0_6.length c0_6] 25 (0,0)) (by (with_reducible repeat (first|refine blk_drewN ?_ _|refine blk_drew ?_|refine blk_alloc ?_ _));exact BK206.out) hb);have n1_:=Aside0.mk (below_step (by repeat (first|(with_reducible first|exact HB.out|apply below_alloc|apply pw_below_drewN|apply below_drew1|refine below_set ?_ GE206.out)|exact HB.out)) hb);clear BK206;clear HB;have BK206:=n0_;have HB:=n1_;clear n0_ n1_;(try clear hb);(try clear hb2);(try clear hk);(try clear hi)))
  go_ret
  exact ⟨by first|rfl|(simp [errW_none,errW_some] <;> rfl)|(simp [*,errW_none,errW_some] <;> rfl),by repeat (first|(with_reducible first|exact HB.out|apply below_alloc|apply pw_below_drewN|apply below_drew1|refine below_set ?_ GE206.out)|exact HB.out)⟩
end Go.Proofs.Ytcocmpblmkdmjaa.Pr
