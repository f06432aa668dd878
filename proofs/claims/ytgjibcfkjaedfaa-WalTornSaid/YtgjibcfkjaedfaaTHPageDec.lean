-- A part of the text PageDec, thinned by a program of this session.
import Derived.Test.YtgjibcfkjaedfaaTHPageNode
import Derived.Test.YtgjibcfkjaedfaaTHPrxS
namespace Go.Proofs.Ytgjibcfkjaedfaa.Page
open Go.RowKit Go.Proofs.YtgjibcfkjaedfaaW.PrintWords Go.Proofs.YtgjibcfkjaedfaaW.PrintLast Go.Proofs.YtgjibcfkjaedfaaW.PrintMore Go.Proofs.Ytgjibcfkjaedfaa.Wire Go.Proofs.Ytgjibcfkjaedfaa.Crc Go.Proofs.Ytgjibcfkjaedfaa.Pr
open Go.Proofs.Ytgjibcfkjaedfaa.Back (AllB numB numB_small)
open Go.Proofs.Ytgjibcfkjaedfaa.Pure
set_option linter.unusedVariables false
set_option linter.unusedSimpArgs false
abbrev NdV:=Int×Int×Int×ByteArray×List ByteArray×List ByteArray×List Int
def nodeOf (ys:List Int):NdV:=((lvR ys).1.1,(lsnR ys).1.1,(rtR ys).1.1,strOfNums (highR ys).1.1,(endN ys).ks,(endN ys).vs,(endN ys).ds)
def zeroV:NdV:=(0,0,0,⟨#[]⟩,[],[],[])
def pageV (v:NdV):List Int×Int:=pageF v.1 v.2.1 v.2.2.1 v.2.2.2.1 v.2.2.2.2.1 v.2.2.2.2.2.1 v.2.2.2.2.2.2
def decF (xs:List Int):NdV×Int :=
 if xs.length≠256 then (zeroV,60) else if (opOf xs).2≠0 then (zeroV,60) else if pageV (nodeOf (opOf xs).1)=(xs,0) then (nodeOf (opOf xs).1,0) else (zeroV,60)
def NdRes (w:World) (u:Value) (v:NdV):Prop :=
 ∃ A4 c4 A5 c5 A6 c6,u=.agg #[.int .i64 v.1,.int .i64 v.2.1,.int .i64 v.2.2.1,.string v.2.2.2.1,.slice A4 v.2.2.2.2.1.length c4,.slice A5 v.2.2.2.2.2.1.length c5,.slice A6 v.2.2.2.2.2.2.length c6]∧Kd.C Kd.string w A4 v.2.2.2.2.1.length v.2.2.2.2.1∧v.2.2.2.2.1.length≤c4∧Kd.C Kd.string w A5 v.2.2.2.2.2.1.length v.2.2.2.2.2.1∧v.2.2.2.2.2.1.length≤c5∧Kd.C (Kd.int .i64) w A6 v.2.2.2.2.2.2.length v.2.2.2.2.2.2∧v.2.2.2.2.2.2.length≤c6
theorem C_none {α:Type} (d:Kd α) (w:World):d.C w none 0 []:=⟨rfl,by decide,fun h=>absurd h (by decide)⟩
theorem NdRes.zero (w:World):NdRes w (.agg #[.int .i64 0,.int .i64 0,.int .i64 0,.string ⟨#[]⟩,.slice none 0 0,.slice none 0 0,.slice none 0 0]) zeroV :=
 ⟨none,0,none,0,none,0,rfl,C_none _ _,Nat.le_refl _,C_none _ _,Nat.le_refl _,C_none _ _,Nat.le_refl _⟩
theorem eq_l0 (a b:List Int) (hl:a.length=b.length) (hm:a.length≤9223372036854775807):∀ (d i:Nat),i≤a.length→a.length - i=d→(∀ j,j < i→a[j]?=b[j]?)→Ev (fun k=>slices_Equal_byte_byte.l0 k a b (a.length:Int) (i:Int)) (decide (a=b))
 | 0,i,h1,h2,h3=>by
  obtain rfl:i=a.length:=by omega
  refine Ev.step (fun _=>slices_Equal_byte_byte.l0.eq_2 _ _ _ _ _) ?_
  refine Ev.neg (by omega) ?_
  have:a=b:=List.ext_getElem? fun j=>by
   rcases Nat.lt_or_ge j a.length with h|h
   ·exact h3 j h
   ·rw [List.getElem?_eq_none h,List.getElem?_eq_none (by omega)]
  rw [decide_eq_true this]
  exact Ev.now _
 | d+1,i,h1,h2,h3=>by
  have hi:i < a.length:=by omega
  have hib:i < b.length:=by omega
  refine Ev.step (fun _=>slices_Equal_byte_byte.l0.eq_2 _ _ _ _ _) ?_
  refine Ev.pos (by omega) (Ev.pos (by omega) (Ev.pos (by omega) (Ev.pos (by omega) ?_)))
  by_cases e:rd a (i:Int)=rd b (i:Int)
  ·refine Ev.pos e ?_
   rw [rdI_get hi,rdI_get hib] at e
   have hw:wrap64 ((i:Int)+1)=((i+1:Nat):Int):=by
    unfold wrap64;omega
   simp only [hw]
   refine eq_l0 a b hl hm d (i+1) (by omega) (by omega) (fun j hj=>?_)
   by_cases hji:j < i
   ·exact h3 j hji
   ·obtain rfl:j=i:=by omega
    rw [List.getElem?_eq_getElem hi,List.getElem?_eq_getElem hib,e]
  ·refine Ev.neg e ?_
   rw [rdI_get hi,rdI_get hib] at e
   have:¬ a=b:=fun h=>e (by subst h;rfl)
   rw [decide_eq_false this]
   exact Ev.now _
theorem eq_ev (a b:List Int) (hm:a.length≤9223372036854775807):Ev (fun k=>slices_Equal_byte_byte.f k a b) (decide (a=b)):=by
 unfold slices_Equal_byte_byte.f
 by_cases h:a.length=b.length
 ·refine Ev.pos (by omega) ?_
  exact eq_l0 a b h hm _ 0 (Nat.zero_le _) rfl (fun j hj=>by omega)
 ·refine Ev.neg (by omega) ?_
  have:¬ a=b:=fun e=>h (by rw [e])
  rw [decide_eq_false this]
  exact Ev.now _
theorem equal_ok (A0:Option Addr) (c0:Nat) (l0:List Int) (A1:Option Addr) (c1:Nat) (l1:List Int) (w:World) (hr0:Kd.C (Kd.int .u8) w A0 l0.length l0) (hc0:l0.length≤c0) (hr1:Kd.C (Kd.int .u8) w A1 l1.length l1) (hc1:l1.length≤c1) :
  Calls Try.prog 105 #[.slice A0 l0.length c0,.slice A1 l1.length c1] w fun e w'=>e=.returned (.bool (decide (l0=l1)))∧Drawn0 w w':=by
 obtain ⟨k,hk⟩:=(eq_ev l0 l1 hr0.2.1).rounds
 exact slices_Equal_byte_byte.calls k A0 c0 l0 A1 c1 l1 _ w hr0 hc0 hr1 hc1 hk
theorem lens_end (ys:List Int):(endN ys).ks.length≤252∧(endN ys).vs.length≤252∧(endN ys).ds.length≤253:=by
 have h:=lens (lvR ys).1.1 (startN ys) (min (manyR ys).1.1 252).toNat
 have h2:min (manyR ys).1.1 252≤252:=Int.min_le_right _ _
 have h3:(startN ys).ks.length=0∧(startN ys).vs.length=0∧(startN ys).ds.length≤1:=by
  unfold startN
  split <;> simp [stepD]
 unfold endN
 omega
set_option maxHeartbeats 8000000 in
set_option maxRecDepth 100000 in
theorem decode_ok (A:Option Addr) (c:Nat) (xs:List Int) (w:World) (hr:Kd.C (Kd.int .u8) w A xs.length xs) (hc:xs.length≤c) (hb:AllB xs) :
  Calls Try.prog 92 #[.slice A xs.length c] w fun e w'=>∃ u,e=.returned (.tuple #[u,.int .i64 (decF xs).2])∧NdRes w' u (decF xs).1∧Below w.heap.size w w':=by
 have hlen:xs.length≤9223372036854775807:=hr.2.1
 obtain ⟨O0,hO0⟩:∃ O0,O0=Obj.cells #[.int .i64 0,.int .i64 0,.int .i64 0,.string ⟨#[]⟩,.slice none 0 0,.slice none 0 0,.slice none 0 0] 113:=⟨_,rfl⟩
 have HP0:Aside0 (NdAt (w.alloc (.cells #[.int .i64 0,.int .i64 0,.int .i64 0,.string ⟨#[]⟩,.slice none 0 0,.slice none 0 0,.slice none 0 0] 113)) w.heap.size 0 0 0 ⟨#[]⟩ (.slice none 0 0) (.slice none 0 0) (.slice none 0 0)):=⟨blk_newN _ _⟩
 have HB0:=Aside0.mk (below_alloc (Below.refl w.heap.size w) (.cells #[.int .i64 0,.int .i64 0,.int .i64 0,.string ⟨#[]⟩,.slice none 0 0,.slice none 0 0,.slice none 0 0] 113))
 clear hO0
 unfold decF
 by_cases h256:xs.length=256
 ·rw [if_neg (by omega)]
  have e1:((xs.length:Int)=256)=True:=eq_true (by omega)
  have e2:(xs.length=256)=True:=eq_true h256
  have e3:((xs.length:Int)==256)=true:=by simp [h256]
  have HC0:=Aside0.mk hr
  have HCC:=Aside0.mk hc
  have HL:=Aside0.mk h256
  have hop:=open_ok A c xs _ (Kd.C_below hr (below_alloc (Below.refl _ _) (.cells #[.int .i64 0,.int .i64 0,.int .i64 0,.string ⟨#[]⟩,.slice none 0 0,.slice none 0 0,.slice none 0 0] 113))) hc hb (by omega)
  have hob:AllB (opOf xs).1∧(opOf xs).1.length≤252:=by
   unfold opOf
   split
   ·exact ⟨fun x hx=>by simp at hx,by simp⟩
   ·split
    ·exact ⟨fun x hx=>by simp at hx,by simp⟩
    ·exact ⟨fun x hx=>hb x (List.mem_of_mem_take hx),by rw [List.length_take];omega⟩
  have HOB:=Aside0.mk hob
  clear hob hr hc hb h256
  generalize opOf xs=R at hop HOB ⊢
  by_cases hz:R.2=0
  ·rw [if_neg (by rw [hz];simp)]
   rw [hz] at hop
   have hlb:=lens_end R.1
   have HLB:=Aside0.mk hlb
   clear hz hlb
   obtain ⟨ys,hys⟩:∃ ys,ys=R.1:=⟨_,rfl⟩
   rw [← hys] at hop HOB HLB ⊢
   clear hys
   obtain ⟨P,hP⟩:∃ P,P=pageF (lvR ys).1.1 (lsnR ys).1.1 (rtR ys).1.1 (strOfNums (highR ys).1.1) (endN ys).ks (endN ys).vs (endN ys).ds:=⟨_,rfl⟩
   have HPQ:=Aside0.mk hP.symm
   clear hP
   have hpv:pageV (nodeOf ys)=P:=HPQ.out
   rw [hpv]
   clear hpv
   by_cases p2:P.2=0
   ·have HP2V:=Aside0.mk p2
    by_cases p1:P.1=xs
    ·have HP1V:=Aside0.mk (decide_eq_true p1)
     rw [if_pos (Prod.ext p1 p2)]
     clear p1 p2
     go_enter Try.func92,Try.ntmps92
     go_wp2_with (first
      | (go_at_call 80;(with_reducible refine hop.mono ?_);rintro e w2 ⟨u2,rfl,hR2,hB2⟩;obtain ⟨A2,c2,rfl,_,hC2⟩:=Kd.R_reads hR2;(have HP2:=Aside0.mk (HP0.out.below hB2));(have HB2:=Aside0.mk (below_from HB0.out (Nat.le_refl _) hB2));(have hof:=of_ok A2 c2 ys w2 hC2 (by have h1:=HOB.out.2;omega));clear hR2 hB2 hop hC2)
      | (go_at_call 78;(with_reducible refine hof.mono ?_);rintro e w3 ⟨g3,F3,rfl,hr3,hB3,hg3,_⟩;(have HP3:=Aside0.mk (HP2.out.below hB3));(have HB3:=Aside0.mk (below_from HB2.out (Nat.le_refl _) hB3));(have hnode:=node_ok hr3 ⟨HOB.out.1,by have h1:=HOB.out.2;omega⟩);(have HS3:=Aside0.mk hB3.size);(have HG3:=Aside0.mk hg3);clear hr3 hB3 hof hg3)
      | (go_at_call 103;(with_reducible refine hnode.mono ?_);rintro e w4 ⟨A4,c4,A5,c5,A6,c6,rfl,k4,k5,k6,hch⟩;(have HP4:=Aside0.mk (HP3.out.chg hch (fun e=>by have e:w.heap.size=g3:=e;have h1:=HG3.out;have h2:=HP2.out.lt;omega)));(have HB4:=Aside0.mk (HB3.out.trans (hch.below HB3.out.size (fun k hk=>by have e:k=g3:=hk;have h1:=HG3.out;have h2:=HB2.out.size;omega))));(have HBA:=Aside0.mk (below_alloc (Below.refl w4.heap.size w4) (.cells #[.int .i64 (lvR ys).1.1,.int .i64 (lsnR ys).1.1,.int .i64 (rtR ys).1.1,.string (strOfNums (highR ys).1.1),.slice A4 (endN ys).ks.length c4,.slice A5 (endN ys).vs.length c5,.slice A6 (endN ys).ds.length c6] 113)));(have HN5:Aside0 (NdAt (w4.alloc (.cells #[.int .i64 (lvR ys).1.1,.int .i64 (lsnR ys).1.1,.int .i64 (rtR ys).1.1,.string (strOfNums (highR ys).1.1),.slice A4 (endN ys).ks.length c4,.slice A5 (endN ys).vs.length c5,.slice A6 (endN ys).ds.length c6] 113)) w4.heap.size (lvR ys).1.1 (lsnR ys).1.1 (rtR ys).1.1 (strOfNums (highR ys).1.1) (.slice A4 (endN ys).ks.length c4) (.slice A5 (endN ys).vs.length c5) (.slice A6 (endN ys).ds.length c6)):=⟨blk_newN _ _⟩);(have HK4:=Aside0.mk (Kd.R_below k4 HBA.out));(have HK5:=Aside0.mk (Kd.R_below k5 HBA.out));(have HK6:=Aside0.mk (Kd.R_below k6 HBA.out));(have hen:=encode_ok (lvR ys).1.1 (lsnR ys).1.1 (rtR ys).1.1 (strOfNums (highR ys).1.1) A4 c4 (endN ys).ks A5 c5 (endN ys).vs A6 c6 (endN ys).ds _ (C_of_R HK4.out).2 (C_of_R HK4.out).1 (C_of_R HK5.out).2 (C_of_R HK5.out).1 (C_of_R HK6.out).2 (C_of_R HK6.out).1 (by have h1:=HLB.out;omega) (by have h1:=HLB.out;omega));rw [HPQ.out,HP2V.out] at hen;(have HS4:=Aside0.mk (Nat.le_trans HP3.out.lt (Nat.le_refl _)));clear k4 k5 k6 hch hnode)
      | (go_at_call 104;(with_reducible refine hen.mono ?_);rintro e w6 ⟨v6,rfl,hR6,hB6⟩;obtain ⟨A7,c7,rfl,l7,k7⟩:=Kd.R_reads hR6;(have HN6:=Aside0.mk (HN5.out.below hB6));(have HP6:=Aside0.mk ((HP4.out.below HBA.out).below hB6));(have HB6:=Aside0.mk (below_from2 (below_from2 HB4.out (Nat.le_refl _) HBA.out) (Nat.le_refl _) hB6));(have HM4:=Aside0.mk (Kd.R_below HK4.out hB6));(have HM5:=Aside0.mk (Kd.R_below HK5.out hB6));(have HM6:=Aside0.mk (Kd.R_below HK6.out hB6));(have heq:=equal_ok A7 c7 P.1 A c xs w6 k7 l7 (Kd.C_below HC0.out HB6.out) HCC.out);rw [HP1V.out] at heq;obtain ⟨⟨n0,n1,n2,n3,n4,n5,n6⟩,⟨m0,m1,m2,m3,m4,m5,m6⟩⟩:=HN6.out.cells;obtain ⟨⟨q0,q1,q2,q3,q4,q5,q6⟩,⟨t0,t1,t2,t3,t4,t5,t6⟩⟩:=HP6.out.cells;clear hR6 hB6 hen l7 k7)
      | (go_at_call 105;(with_reducible refine heq.mono ?_);rintro e w7 ⟨rfl,⟨nd,rfl⟩⟩;clear heq))
     have hrz:=(show NdAt (w6.drewN nd) w.heap.size 0 0 0 ⟨#[]⟩ (.slice none 0 0) (.slice none 0 0) (.slice none 0 0) from HP6.out).set7 (lvR ys).1.1 (lsnR ys).1.1 (rtR ys).1.1 (strOfNums (highR ys).1.1) (.slice A4 (endN ys).ks.length c4) (.slice A5 (endN ys).vs.length c5) (.slice A6 (endN ys).ds.length c6)
     refine bodyPost_ret (results_ct rfl _ _ w.heap.size 113 #[.int .i64 (lvR ys).1.1,.int .i64 (lsnR ys).1.1,.int .i64 (rtR ys).1.1,.string (strOfNums (highR ys).1.1),.slice A4 (endN ys).ks.length c4,.slice A5 (endN ys).vs.length c5,.slice A6 (endN ys).ds.length c6] (0,0) _ rfl hrz Try.underlying113 rfl (by kernel_rfl)) rfl ?_
     have c7:=set7_chg (w6.drewN nd) w.heap.size (.int .i64 (lvR ys).1.1) (.int .i64 (lsnR ys).1.1) (.int .i64 (rtR ys).1.1) (.string (strOfNums (highR ys).1.1)) (.slice A4 (endN ys).ks.length c4) (.slice A5 (endN ys).vs.length c5) (.slice A6 (endN ys).ds.length c6)
     have hlt:=HP3.out.lt
     have k4:=C_of_R (row_keep rfl (show Kd.R Kd.string 9 (w6.drewN nd) _ _ _ _ from HM4.out) c7 (fun k hk e=>by have e:k=w.heap.size:=e;have:=(own_lt HM4.out hk).1;omega))
     have k5:=C_of_R (row_keep rfl (show Kd.R Kd.string 9 (w6.drewN nd) _ _ _ _ from HM5.out) c7 (fun k hk e=>by have e:k=w.heap.size:=e;have:=(own_lt HM5.out hk).1;omega))
     have k6:=C_of_R (row_keep rfl (show Kd.R (Kd.int .i64) 3 (w6.drewN nd) _ _ _ _ from HM6.out) c7 (fun k hk e=>by have e:k=w.heap.size:=e;have:=(own_lt HM6.out hk).1;omega))
     exact ⟨_,rfl,⟨A4,c4,A5,c5,A6,c6,rfl,k4.2,k4.1,k5.2,k5.1,k6.2,k6.1⟩,below_set7 (pw_below_drewN HB6.out nd) (Nat.le_refl _)⟩
    ·have HP1V:=Aside0.mk (decide_eq_false p1)
     rw [if_neg (fun h=>p1 (by rw [h]))]
     clear p1 p2
     go_enter Try.func92,Try.ntmps92
     go_wp2_with (first
      | (go_at_call 80;(with_reducible refine hop.mono ?_);rintro e w2 ⟨u2,rfl,hR2,hB2⟩;obtain ⟨A2,c2,rfl,_,hC2⟩:=Kd.R_reads hR2;(have HP2:=Aside0.mk (HP0.out.below hB2));(have HB2:=Aside0.mk (below_from HB0.out (Nat.le_refl _) hB2));(have hof:=of_ok A2 c2 ys w2 hC2 (by have h1:=HOB.out.2;omega));clear hR2 hB2 hop hC2)
      | (go_at_call 78;(with_reducible refine hof.mono ?_);rintro e w3 ⟨g3,F3,rfl,hr3,hB3,hg3,_⟩;(have HP3:=Aside0.mk (HP2.out.below hB3));(have HB3:=Aside0.mk (below_from HB2.out (Nat.le_refl _) hB3));(have hnode:=node_ok hr3 ⟨HOB.out.1,by have h1:=HOB.out.2;omega⟩);(have HS3:=Aside0.mk hB3.size);(have HG3:=Aside0.mk hg3);clear hr3 hB3 hof hg3)
      | (go_at_call 103;(with_reducible refine hnode.mono ?_);rintro e w4 ⟨A4,c4,A5,c5,A6,c6,rfl,k4,k5,k6,hch⟩;(have HP4:=Aside0.mk (HP3.out.chg hch (fun e=>by have e:w.heap.size=g3:=e;have h1:=HG3.out;have h2:=HP2.out.lt;omega)));(have HB4:=Aside0.mk (HB3.out.trans (hch.below HB3.out.size (fun k hk=>by have e:k=g3:=hk;have h1:=HG3.out;have h2:=HB2.out.size;omega))));(have HBA:=Aside0.mk (below_alloc (Below.refl w4.heap.size w4) (.cells #[.int .i64 (lvR ys).1.1,.int .i64 (lsnR ys).1.1,.int .i64 (rtR ys).1.1,.string (strOfNums (highR ys).1.1),.slice A4 (endN ys).ks.length c4,.slice A5 (endN ys).vs.length c5,.slice A6 (endN ys).ds.length c6] 113)));(have HN5:Aside0 (NdAt (w4.alloc (.cells #[.int .i64 (lvR ys).1.1,.int .i64 (lsnR ys).1.1,.int .i64 (rtR ys).1.1,.string (strOfNums (highR ys).1.1),.slice A4 (endN ys).ks.length c4,.slice A5 (endN ys).vs.length c5,.slice A6 (endN ys).ds.length c6] 113)) w4.heap.size (lvR ys).1.1 (lsnR ys).1.1 (rtR ys).1.1 (strOfNums (highR ys).1.1) (.slice A4 (endN ys).ks.length c4) (.slice A5 (endN ys).vs.length c5) (.slice A6 (endN ys).ds.length c6)):=⟨blk_newN _ _⟩);(have HK4:=Aside0.mk (Kd.R_below k4 HBA.out));(have HK5:=Aside0.mk (Kd.R_below k5 HBA.out));(have HK6:=Aside0.mk (Kd.R_below k6 HBA.out));(have hen:=encode_ok (lvR ys).1.1 (lsnR ys).1.1 (rtR ys).1.1 (strOfNums (highR ys).1.1) A4 c4 (endN ys).ks A5 c5 (endN ys).vs A6 c6 (endN ys).ds _ (C_of_R HK4.out).2 (C_of_R HK4.out).1 (C_of_R HK5.out).2 (C_of_R HK5.out).1 (C_of_R HK6.out).2 (C_of_R HK6.out).1 (by have h1:=HLB.out;omega) (by have h1:=HLB.out;omega));rw [HPQ.out,HP2V.out] at hen;(have HS4:=Aside0.mk (Nat.le_trans HP3.out.lt (Nat.le_refl _)));clear k4 k5 k6 hch hnode)
      | (go_at_call 104;(with_reducible refine hen.mono ?_);rintro e w6 ⟨v6,rfl,hR6,hB6⟩;obtain ⟨A7,c7,rfl,l7,k7⟩:=Kd.R_reads hR6;(have HN6:=Aside0.mk (HN5.out.below hB6));(have HP6:=Aside0.mk ((HP4.out.below HBA.out).below hB6));(have HB6:=Aside0.mk (below_from2 (below_from2 HB4.out (Nat.le_refl _) HBA.out) (Nat.le_refl _) hB6));(have HM4:=Aside0.mk (Kd.R_below HK4.out hB6));(have HM5:=Aside0.mk (Kd.R_below HK5.out hB6));(have HM6:=Aside0.mk (Kd.R_below HK6.out hB6));(have heq:=equal_ok A7 c7 P.1 A c xs w6 k7 l7 (Kd.C_below HC0.out HB6.out) HCC.out);rw [HP1V.out] at heq;obtain ⟨⟨n0,n1,n2,n3,n4,n5,n6⟩,⟨m0,m1,m2,m3,m4,m5,m6⟩⟩:=HN6.out.cells;obtain ⟨⟨q0,q1,q2,q3,q4,q5,q6⟩,⟨t0,t1,t2,t3,t4,t5,t6⟩⟩:=HP6.out.cells;clear hR6 hB6 hen l7 k7)
      | (go_at_call 105;(with_reducible refine heq.mono ?_);rintro e w7 ⟨rfl,⟨nd,rfl⟩⟩;clear heq))
     have hrz:=(show NdAt (w6.drewN nd) w.heap.size 0 0 0 ⟨#[]⟩ (.slice none 0 0) (.slice none 0 0) (.slice none 0 0) from HP6.out).set7 0 0 0 ⟨#[]⟩ (.slice none 0 0) (.slice none 0 0) (.slice none 0 0)
     refine bodyPost_ret (results_ct rfl _ _ w.heap.size 113 #[.int .i64 0,.int .i64 0,.int .i64 0,.string ⟨#[]⟩,.slice none 0 0,.slice none 0 0,.slice none 0 0] (0,0) _ rfl hrz Try.underlying113 rfl (by kernel_rfl)) rfl ?_
     exact ⟨_,rfl,NdRes.zero _,below_set7 (pw_below_drewN HB6.out nd) (Nat.le_refl _)⟩
   ·have p60:P.2=60:=by
     rw [← HPQ.out] at p2 ⊢
     unfold pageF at p2 ⊢
     split at p2
     ·exact absurd rfl p2
     ·rename_i hn
      rw [if_neg hn]
    have HP2V:=Aside0.mk p60
    have HP1V:Aside0 (decide (P.1=xs)=decide (P.1=xs)):=⟨rfl⟩
    rw [if_neg (fun h=>p2 (by rw [h]))]
    clear p2 p60
    go_enter Try.func92,Try.ntmps92
    go_wp2_with (first
     | (go_at_call 80;(with_reducible refine hop.mono ?_);rintro e w2 ⟨u2,rfl,hR2,hB2⟩;obtain ⟨A2,c2,rfl,_,hC2⟩:=Kd.R_reads hR2;(have HP2:=Aside0.mk (HP0.out.below hB2));(have HB2:=Aside0.mk (below_from HB0.out (Nat.le_refl _) hB2));(have hof:=of_ok A2 c2 ys w2 hC2 (by have h1:=HOB.out.2;omega));clear hR2 hB2 hop hC2)
     | (go_at_call 78;(with_reducible refine hof.mono ?_);rintro e w3 ⟨g3,F3,rfl,hr3,hB3,hg3,_⟩;(have HP3:=Aside0.mk (HP2.out.below hB3));(have HB3:=Aside0.mk (below_from HB2.out (Nat.le_refl _) hB3));(have hnode:=node_ok hr3 ⟨HOB.out.1,by have h1:=HOB.out.2;omega⟩);(have HS3:=Aside0.mk hB3.size);(have HG3:=Aside0.mk hg3);clear hr3 hB3 hof hg3)
     | (go_at_call 103;(with_reducible refine hnode.mono ?_);rintro e w4 ⟨A4,c4,A5,c5,A6,c6,rfl,k4,k5,k6,hch⟩;(have HP4:=Aside0.mk (HP3.out.chg hch (fun e=>by have e:w.heap.size=g3:=e;have h1:=HG3.out;have h2:=HP2.out.lt;omega)));(have HB4:=Aside0.mk (HB3.out.trans (hch.below HB3.out.size (fun k hk=>by have e:k=g3:=hk;have h1:=HG3.out;have h2:=HB2.out.size;omega))));(have HBA:=Aside0.mk (below_alloc (Below.refl w4.heap.size w4) (.cells #[.int .i64 (lvR ys).1.1,.int .i64 (lsnR ys).1.1,.int .i64 (rtR ys).1.1,.string (strOfNums (highR ys).1.1),.slice A4 (endN ys).ks.length c4,.slice A5 (endN ys).vs.length c5,.slice A6 (endN ys).ds.length c6] 113)));(have HN5:Aside0 (NdAt (w4.alloc (.cells #[.int .i64 (lvR ys).1.1,.int .i64 (lsnR ys).1.1,.int .i64 (rtR ys).1.1,.string (strOfNums (highR ys).1.1),.slice A4 (endN ys).ks.length c4,.slice A5 (endN ys).vs.length c5,.slice A6 (endN ys).ds.length c6] 113)) w4.heap.size (lvR ys).1.1 (lsnR ys).1.1 (rtR ys).1.1 (strOfNums (highR ys).1.1) (.slice A4 (endN ys).ks.length c4) (.slice A5 (endN ys).vs.length c5) (.slice A6 (endN ys).ds.length c6)):=⟨blk_newN _ _⟩);(have HK4:=Aside0.mk (Kd.R_below k4 HBA.out));(have HK5:=Aside0.mk (Kd.R_below k5 HBA.out));(have HK6:=Aside0.mk (Kd.R_below k6 HBA.out));(have hen:=encode_ok (lvR ys).1.1 (lsnR ys).1.1 (rtR ys).1.1 (strOfNums (highR ys).1.1) A4 c4 (endN ys).ks A5 c5 (endN ys).vs A6 c6 (endN ys).ds _ (C_of_R HK4.out).2 (C_of_R HK4.out).1 (C_of_R HK5.out).2 (C_of_R HK5.out).1 (C_of_R HK6.out).2 (C_of_R HK6.out).1 (by have h1:=HLB.out;omega) (by have h1:=HLB.out;omega));rw [HPQ.out,HP2V.out] at hen;(have HS4:=Aside0.mk (Nat.le_trans HP3.out.lt (Nat.le_refl _)));clear k4 k5 k6 hch hnode)
     | (go_at_call 104;(with_reducible refine hen.mono ?_);rintro e w6 ⟨v6,rfl,hR6,hB6⟩;obtain ⟨A7,c7,rfl,l7,k7⟩:=Kd.R_reads hR6;(have HN6:=Aside0.mk (HN5.out.below hB6));(have HP6:=Aside0.mk ((HP4.out.below HBA.out).below hB6));(have HB6:=Aside0.mk (below_from2 (below_from2 HB4.out (Nat.le_refl _) HBA.out) (Nat.le_refl _) hB6));(have HM4:=Aside0.mk (Kd.R_below HK4.out hB6));(have HM5:=Aside0.mk (Kd.R_below HK5.out hB6));(have HM6:=Aside0.mk (Kd.R_below HK6.out hB6));(have heq:=equal_ok A7 c7 P.1 A c xs w6 k7 l7 (Kd.C_below HC0.out HB6.out) HCC.out);obtain ⟨⟨n0,n1,n2,n3,n4,n5,n6⟩,⟨m0,m1,m2,m3,m4,m5,m6⟩⟩:=HN6.out.cells;obtain ⟨⟨q0,q1,q2,q3,q4,q5,q6⟩,⟨t0,t1,t2,t3,t4,t5,t6⟩⟩:=HP6.out.cells;clear hR6 hB6 hen l7 k7)
     | (go_at_call 105;(with_reducible refine heq.mono ?_);rintro e w7 ⟨rfl,⟨nd,rfl⟩⟩;clear heq))
    have hrz:=HP6.out.set7 0 0 0 ⟨#[]⟩ (.slice none 0 0) (.slice none 0 0) (.slice none 0 0)
    refine bodyPost_ret (results_ct rfl _ _ w.heap.size 113 #[.int .i64 0,.int .i64 0,.int .i64 0,.string ⟨#[]⟩,.slice none 0 0,.slice none 0 0,.slice none 0 0] (0,0) _ rfl hrz Try.underlying113 rfl (by kernel_rfl)) rfl ?_
    exact ⟨_,rfl,NdRes.zero _,below_set7 HB6.out (Nat.le_refl _)⟩
  ·rw [if_pos hz]
   have d1:=eq_false hz
   have d2:(R.2==0)=false:=by simp [hz]
   clear hz
   go_enter Try.func92,Try.ntmps92
   go_wp2_with (go_at_call 80;(with_reducible refine hop.mono ?_);rintro e w2 ⟨u2,rfl,hR2,hB2⟩;obtain ⟨A2,c2,rfl,_,_⟩:=Kd.R_reads hR2;(have HP2:=Aside0.mk (HP0.out.below hB2));obtain ⟨⟨q0,q1,q2,q3,q4,q5,q6⟩,⟨t0,t1,t2,t3,t4,t5,t6⟩⟩:=HP2.out.cells;(have HB2:=Aside0.mk (below_from HB0.out (Nat.le_refl _) hB2));clear hR2 hB2 hop)
   have hrz:=HP2.out.set7 0 0 0 ⟨#[]⟩ (.slice none 0 0) (.slice none 0 0) (.slice none 0 0)
   refine bodyPost_ret (results_ct rfl _ _ w.heap.size 113 #[.int .i64 0,.int .i64 0,.int .i64 0,.string ⟨#[]⟩,.slice none 0 0,.slice none 0 0,.slice none 0 0] (0,0) _ rfl hrz Try.underlying113 rfl (by kernel_rfl)) rfl ?_
   exact ⟨_,rfl,NdRes.zero _,below_set7 HB2.out (Nat.le_refl _)⟩
 ·rw [if_pos h256]
  have e1:((xs.length:Int)=256)=False:=eq_false (by omega)
  have e2:(xs.length=256)=False:=eq_false h256
  have e3:((xs.length:Int)==256)=false:=by simp;omega
  clear hr hb hc h256
  go_enter Try.func92,Try.ntmps92
  go_wp2
  refine bodyPost_ret (results_ct rfl _ _ w.heap.size 113 #[.int .i64 0,.int .i64 0,.int .i64 0,.string ⟨#[]⟩,.slice none 0 0,.slice none 0 0,.slice none 0 0] (0,0) _ rfl HP0.out Try.underlying113 rfl (by kernel_rfl)) rfl ?_
  exact ⟨_,rfl,NdRes.zero _,HB0.out⟩
end Go.Proofs.Ytgjibcfkjaedfaa.Page
