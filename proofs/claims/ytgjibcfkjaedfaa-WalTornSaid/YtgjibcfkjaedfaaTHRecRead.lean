-- A part of the text RecRead, thinned by a program of this session.
import Derived.Test.YtgjibcfkjaedfaaTHRecV
import Derived.Test.YtgjibcfkjaedfaaTHRecChk
import Derived.Deep.RegionHeld3
namespace Go.Proofs.Ytgjibcfkjaedfaa.Rec
open Go.RowKit Go.Proofs.YtgjibcfkjaedfaaW.PrintWords Go.Proofs.YtgjibcfkjaedfaaW.PrintLast Go.Proofs.YtgjibcfkjaedfaaW.PrintMore Go.Proofs.Ytgjibcfkjaedfaa.Wire Go.Proofs.Ytgjibcfkjaedfaa.Crc Go.Proofs.Ytgjibcfkjaedfaa.Pr Go.Proofs.Ytgjibcfkjaedfaa.Page
open Go.Proofs.Ytgjibcfkjaedfaa.Back (AllB)
open Go.Proofs.Ytgjibcfkjaedfaa.Pure
set_option linter.unusedVariables false
set_option linter.unusedSimpArgs false
theorem set8_chg (w3:World) (p:Nat) (a b c d e f h i:Value):Chg w3 ((((((((w3.setCell ⟨p,0,none⟩ a).setCell ⟨p,1,none⟩ b).setCell ⟨p,2,none⟩ c).setCell ⟨p,3,none⟩ d).setCell ⟨p,4,none⟩ e).setCell ⟨p,5,none⟩ f).setCell ⟨p,6,none⟩ h).setCell ⟨p,7,none⟩ i) (fun k=>k=p) :=
 (((((((Chg.setCell _ ⟨p,0,none⟩ a).trans (Chg.setCell _ ⟨p,1,none⟩ b) (fun k hk=>.inl hk)).trans (Chg.setCell _ ⟨p,2,none⟩ c) (fun k hk=>.inl hk)).trans (Chg.setCell _ ⟨p,3,none⟩ d) (fun k hk=>.inl hk)).trans (Chg.setCell _ ⟨p,4,none⟩ e) (fun k hk=>.inl hk)).trans (Chg.setCell _ ⟨p,5,none⟩ f) (fun k hk=>.inl hk)).trans (Chg.setCell _ ⟨p,6,none⟩ h) (fun k hk=>.inl hk)).trans (Chg.setCell _ ⟨p,7,none⟩ i) (fun k hk=>.inl hk)
section
variable {w W w1:World} {g:Nat} {a1 a2 a3 a4 a5 a6:Int} {a7 a8:ByteArray}
theorem RcAt.set8 (h:RcAt w g a1 a2 a3 a4 a5 a6 a7 a8) (y1 y2 y3 y4 y5 y6:Int) (y7 y8:ByteArray):RcAt ((((((((w.setCell ⟨g,0,none⟩ (.int .i64 y1)).setCell ⟨g,1,none⟩ (.int .i64 y2)).setCell ⟨g,2,none⟩ (.int .i64 y3)).setCell ⟨g,3,none⟩ (.int .i64 y4)).setCell ⟨g,4,none⟩ (.int .i64 y5)).setCell ⟨g,5,none⟩ (.int .i64 y6)).setCell ⟨g,6,none⟩ (.string y7)).setCell ⟨g,7,none⟩ (.string y8)) g y1 y2 y3 y4 y5 y6 y7 y8:=by
 unfold RcAt at *
 have h0:=blk_put (cs':=#[.int .i64 y1,.int .i64 a2,.int .i64 a3,.int .i64 a4,.int .i64 a5,.int .i64 a6,.string a7,.string a8]) h 0 (.int .i64 y1) rfl
 have h1:=blk_put (cs':=#[.int .i64 y1,.int .i64 y2,.int .i64 a3,.int .i64 a4,.int .i64 a5,.int .i64 a6,.string a7,.string a8]) h0 1 (.int .i64 y2) rfl
 have h2:=blk_put (cs':=#[.int .i64 y1,.int .i64 y2,.int .i64 y3,.int .i64 a4,.int .i64 a5,.int .i64 a6,.string a7,.string a8]) h1 2 (.int .i64 y3) rfl
 have h3:=blk_put (cs':=#[.int .i64 y1,.int .i64 y2,.int .i64 y3,.int .i64 y4,.int .i64 a5,.int .i64 a6,.string a7,.string a8]) h2 3 (.int .i64 y4) rfl
 have h4:=blk_put (cs':=#[.int .i64 y1,.int .i64 y2,.int .i64 y3,.int .i64 y4,.int .i64 y5,.int .i64 a6,.string a7,.string a8]) h3 4 (.int .i64 y5) rfl
 have h5:=blk_put (cs':=#[.int .i64 y1,.int .i64 y2,.int .i64 y3,.int .i64 y4,.int .i64 y5,.int .i64 y6,.string a7,.string a8]) h4 5 (.int .i64 y6) rfl
 have h6:=blk_put (cs':=#[.int .i64 y1,.int .i64 y2,.int .i64 y3,.int .i64 y4,.int .i64 y5,.int .i64 y6,.string y7,.string a8]) h5 6 (.string y7) rfl
 have h7:=blk_put (cs':=#[.int .i64 y1,.int .i64 y2,.int .i64 y3,.int .i64 y4,.int .i64 y5,.int .i64 y6,.string y7,.string y8]) h6 7 (.string y8) rfl
 exact h7
theorem RcAt.set6 (h:RcAt w g a1 a2 a3 a4 a5 a6 a7 a8) (y:ByteArray):RcAt (w.setCell ⟨g,6,none⟩ (.string y)) g a1 a2 a3 a4 a5 a6 y a8:=by
 unfold RcAt at *
 exact blk_put (cs':=#[.int .i64 a1,.int .i64 a2,.int .i64 a3,.int .i64 a4,.int .i64 a5,.int .i64 a6,.string y,.string a8]) h 6 (.string y) rfl
theorem RcAt.set7 (h:RcAt w g a1 a2 a3 a4 a5 a6 a7 a8) (y:ByteArray):RcAt (w.setCell ⟨g,7,none⟩ (.string y)) g a1 a2 a3 a4 a5 a6 a7 y:=by
 unfold RcAt at *
 exact blk_put (cs':=#[.int .i64 a1,.int .i64 a2,.int .i64 a3,.int .i64 a4,.int .i64 a5,.int .i64 a6,.string a7,.string y]) h 7 (.string y) rfl
end
theorem below_set8 {w W:World} {g b:Nat} {y0 y1 y2 y3 y4 y5 y6 y7:Value} (h:Below b w W) (hg:b≤g):Below b w ((((((((W.setCell ⟨g,0,none⟩ y0).setCell ⟨g,1,none⟩ y1).setCell ⟨g,2,none⟩ y2).setCell ⟨g,3,none⟩ y3).setCell ⟨g,4,none⟩ y4).setCell ⟨g,5,none⟩ y5).setCell ⟨g,6,none⟩ y6).setCell ⟨g,7,none⟩ y7) :=
 below_setN (below_setN (below_setN (below_setN (below_setN (below_setN (below_setN (below_setN h hg) hg) hg) hg) hg) hg) hg) hg
structure RS (w W:World) (g bx:Nat) (F:Nat→Prop) (xs:List Int) (wg:Int):Prop where
 rd:RdAt W g xs wg F
 bl:Below w.heap.size w W
 bk:W.heap[bx]?=some (.cells #[.pointer (some ⟨g,0,none⟩)] 128 (0,0))
 rs:RcAt W w.heap.size 0 0 0 0 0 0 ⟨#[]⟩ ⟨#[]⟩
 lo:w.heap.size < g∧g < bx
 fb:∀ k,F k→w.heap.size < k∧k < bx
 ok:Ok xs
theorem RS.read {w W w1:World} {g bx:Nat} {F:Nat→Prop} {xs xs':List Int} {wg wg':Int} (h:RS w W g bx F xs wg) (hc:Chg W w1 (At g)) (hr:RdAt w1 g xs' wg' F) (ho:Ok xs'):RS w w1 g bx F xs' wg' :=
 ⟨hr,h.bl.trans (hc.below h.bl.size (fun k hk=>by have e:k=g:=hk;have:=h.lo;omega)),hc.blk h.bk (fun e=>by have e:bx=g:=e;have:=h.lo;omega),h.rs.chg hc (fun e=>by have e:w.heap.size=g:=e;have:=h.lo;omega),h.lo,h.fb,ho⟩
theorem RS.below {w W w1:World} {g bx:Nat} {F:Nat→Prop} {xs:List Int} {wg:Int} (h:RS w W g bx F xs wg) (hB:Below W.heap.size W w1):RS w w1 g bx F xs wg :=
 ⟨h.rd.below hB,below_from2 h.bl (Nat.le_refl _) hB,(Chg.of_below hB (fun _=>False)).blk h.bk (fun e=>e),h.rs.below hB,h.lo,h.fb,h.ok⟩
structure RA (W:World) (bx p:Nat):Prop where
 r:RcAt W p 0 0 0 0 0 0 ⟨#[]⟩ ⟨#[]⟩
 lo:bx < p
theorem RA.new {w W:World} {g bx:Nat} {F:Nat→Prop} {xs:List Int} {wg:Int} (h:RS w W g bx F xs wg):RA (W.alloc (.cells #[.int .i64 0,.int .i64 0,.int .i64 0,.int .i64 0,.int .i64 0,.int .i64 0,.string ⟨#[]⟩,.string ⟨#[]⟩] 53)) bx W.heap.size :=
 ⟨rc_new W 0 0 0 0 0 0 ⟨#[]⟩ ⟨#[]⟩,blk_lt h.bk⟩
theorem RA.below {W w1:World} {bx p:Nat} (h:RA W bx p) (hB:Below W.heap.size W w1):RA w1 bx p:=⟨h.r.below hB,h.lo⟩
theorem RA.read {w W w1:World} {g bx p:Nat} {F:Nat→Prop} {xs:List Int} {wg:Int} (h:RA W bx p) (hs:RS w w1 g bx F xs wg) (hc:Chg W w1 (At g)):RA w1 bx p :=
 ⟨h.r.chg hc (fun e=>by have e:p=g:=e;have:=h.lo;have:=hs.lo;omega),h.lo⟩
structure RP (w W:World) (g bx p:Nat) (F:Nat→Prop) (xs:List Int) (wg:Int) (a1 a2 a3 a4 a5 a6:Int) (a7 a8:ByteArray):Prop where
 s:RS w W g bx F xs wg
 r:RcAt W p a1 a2 a3 a4 a5 a6 a7 a8
 lo:bx < p
theorem RS.setp {w W W1:World} {g bx p:Nat} {F:Nat→Prop} {xs:List Int} {wg:Int} (h:RS w W g bx F xs wg) (hp:bx < p) (hc:Chg W W1 (fun k=>k=p)):RS w W1 g bx F xs wg :=
 ⟨h.rd.chg hc (fun k hk e=>by have e:k=p:=e;have:=h.fb k hk;omega),h.bl.trans (hc.below h.bl.size (fun k e=>by have e:k=p:=e;have:=h.lo;omega)),hc.blk h.bk (fun e=>by have e:bx=p:=e;omega),h.rs.chg hc (fun e=>by have e:w.heap.size=p:=e;have:=h.lo;omega),h.lo,h.fb,h.ok⟩
theorem RP.start {w W:World} {g bx p:Nat} {F:Nat→Prop} {xs:List Int} {wg:Int} (h:RS w W g bx F xs wg) (ha:RA W bx p) (a1 a2 a3 a4 a5 a6:Int) (a7 a8:ByteArray) :
  RP w ((((((((W.setCell ⟨p,0,none⟩ (.int .i64 a1)).setCell ⟨p,1,none⟩ (.int .i64 a2)).setCell ⟨p,2,none⟩ (.int .i64 a3)).setCell ⟨p,3,none⟩ (.int .i64 a4)).setCell ⟨p,4,none⟩ (.int .i64 a5)).setCell ⟨p,5,none⟩ (.int .i64 a6)).setCell ⟨p,6,none⟩ (.string a7)).setCell ⟨p,7,none⟩ (.string a8)) g bx p F xs wg a1 a2 a3 a4 a5 a6 a7 a8 :=
 ⟨h.setp ha.lo (set8_chg _ _ _ _ _ _ _ _ _ _),ha.r.set8 a1 a2 a3 a4 a5 a6 a7 a8,ha.lo⟩
theorem RP.start2 {w W:World} {g bx:Nat} {F:Nat→Prop} {xs:List Int} {wg:Int} (h:RS w W g bx F xs wg) (a1 a2 a3 a4 a5 a6:Int) (a7 a8:ByteArray) :
  RP w (W.alloc (.cells #[.int .i64 a1,.int .i64 a2,.int .i64 a3,.int .i64 a4,.int .i64 a5,.int .i64 a6,.string a7,.string a8] 53)) g bx W.heap.size F xs wg a1 a2 a3 a4 a5 a6 a7 a8 :=
 ⟨h.below (below_alloc (Below.refl _ _) _),rc_new W a1 a2 a3 a4 a5 a6 a7 a8,blk_lt h.bk⟩
section
variable {w W W1:World} {g bx p:Nat} {F:Nat→Prop} {xs:List Int} {wg:Int} {a1 a2 a3 a4 a5 a6:Int} {a7 a8:ByteArray}
theorem RP.set6 (h:RP w W g bx p F xs wg a1 a2 a3 a4 a5 a6 a7 a8) (y:ByteArray):RP w (W.setCell ⟨p,6,none⟩ (.string y)) g bx p F xs wg a1 a2 a3 a4 a5 a6 y a8 :=
 ⟨h.s.setp h.lo (Chg.setCell _ ⟨p,6,none⟩ _),h.r.set6 y,h.lo⟩
theorem RP.set7 (h:RP w W g bx p F xs wg a1 a2 a3 a4 a5 a6 a7 a8) (y:ByteArray):RP w (W.setCell ⟨p,7,none⟩ (.string y)) g bx p F xs wg a1 a2 a3 a4 a5 a6 a7 y :=
 ⟨h.s.setp h.lo (Chg.setCell _ ⟨p,7,none⟩ _),h.r.set7 y,h.lo⟩
theorem RP.out8 (h:RP w W g bx p F xs wg a1 a2 a3 a4 a5 a6 a7 a8) {y0 y1 y2 y3 y4 y5 y6 y7:Value}:let W1:=((((((((W.setCell ⟨w.heap.size,0,none⟩ y0).setCell ⟨w.heap.size,1,none⟩ y1).setCell ⟨w.heap.size,2,none⟩ y2).setCell ⟨w.heap.size,3,none⟩ y3).setCell ⟨w.heap.size,4,none⟩ y4).setCell ⟨w.heap.size,5,none⟩ y5).setCell ⟨w.heap.size,6,none⟩ y6).setCell ⟨w.heap.size,7,none⟩ y7);W1.cell? ⟨p,0,none⟩=some (.int .i64 a1)∧W1.cell? ⟨p,1,none⟩=some (.int .i64 a2)∧W1.cell? ⟨p,2,none⟩=some (.int .i64 a3)∧W1.cell? ⟨p,3,none⟩=some (.int .i64 a4)∧W1.cell? ⟨p,4,none⟩=some (.int .i64 a5)∧W1.cell? ⟨p,5,none⟩=some (.int .i64 a6)∧W1.cell? ⟨p,6,none⟩=some (.string a7)∧W1.cell? ⟨p,7,none⟩=some (.string a8) :=
 (h.r.chg (set8_chg W w.heap.size y0 y1 y2 y3 y4 y5 y6 y7) (fun e=>by have e:p=w.heap.size:=e;have:=h.lo;have:=h.s.lo;omega)).cells.1
theorem RP.below (h:RP w W g bx p F xs wg a1 a2 a3 a4 a5 a6 a7 a8) (hB:Below W.heap.size W W1):RP w W1 g bx p F xs wg a1 a2 a3 a4 a5 a6 a7 a8:=⟨h.s.below hB,h.r.below hB,h.lo⟩
theorem RP.text {v:ByteArray} {R:(List Int×Int)×(List Int×Int)} (h:RP w W g bx p F xs wg a1 a2 a3 a4 a5 a6 a7 a8) (e:rdText xs wg 65535=R) (hv:strOfNums R.1.1=v) :
  Calls Try.prog 79 #[.pointer (some ⟨g,0,none⟩),.int .i64 65535] W fun e w'=>e=.returned (.tuple #[.string v,.int .i64 R.1.2])∧RP w w' g bx p F R.2.1 R.2.2 a1 a2 a3 a4 a5 a6 a7 a8:=by
 subst e hv
 refine (rdtext_ok g xs wg 65535 F W h.s.rd (Nat.le_trans h.s.ok.2 (by decide)) (take2_ok h.s.ok.1)).mono ?_
 rintro e w' ⟨rfl,hr,hc⟩
 exact ⟨rfl,⟨h.s.read hc hr (h.s.ok.text _ _),h.r.chg hc (fun e=>by have e:p=g:=e;have:=h.lo;have:=h.s.lo;omega),h.lo⟩⟩
end
set_option maxHeartbeats 4000000 in
theorem num1_ok {w W:World} {g bx:Nat} {F:Nat→Prop} {xs:List Int} {wg size v:Int} {R:(Int×Int)×(List Int×Int)} (h:RS w W g bx F xs wg) (e:rdNum xs wg size=R) (hv:R.1.1=v) :
  Calls Try.prog 98 #[.int .i64 size,.pointer (some ⟨bx,0,none⟩)] W fun e w'=>e=.returned (.int .i64 v)∧RS w w' g bx F R.2.1 R.2.2∧Chg W w' (At g):=by
 subst e hv
 have hn:=rdnum_ok g xs wg size F W h.rd h.ok.2
 have hc0:=cell_of_one h.bk
 have H:=Aside0.mk h
 clear h
 go_enter Try.func98,Try.ntmps98
 go_wp2_with (go_at_call 97;(with_reducible refine hn.mono ?_);rintro e w2 ⟨rfl,hr2,hc2⟩;(have H2:=Aside0.mk (H.out.read hc2 hr2 (H.out.ok.num _ _)));(have HC:=Aside0.mk hc2);clear hr2 hc2 hn)
 go_ret
 exact ⟨rfl,H2.out,HC.out⟩
set_option maxHeartbeats 16000000 in
set_option maxRecDepth 100000 in
theorem recread_ok (A:Option Addr) (c:Nat) (ys:List Int) (w:World) (hr:Kd.C (Kd.int .u8) w A ys.length ys) (hb:AllB ys) (hl:ys.length≤65535) :
  Calls Try.prog 82 #[.slice A ys.length c] w fun e w'=>e=.returned (.tuple #[.agg #[.int .i64 (readF ys).1.1,.int .i64 (readF ys).1.2.1,.int .i64 (readF ys).1.2.2.1,.int .i64 (readF ys).1.2.2.2.1,.int .i64 (readF ys).1.2.2.2.2.1,.int .i64 (readF ys).1.2.2.2.2.2.1,.string (readF ys).1.2.2.2.2.2.2.1,.string (readF ys).1.2.2.2.2.2.2.2],.int .i64 (readF ys).2])∧Below w.heap.size w w':=by
 have hrc:=rc_new w 0 0 0 0 0 0 ⟨#[]⟩ ⟨#[]⟩
 have HB:=Aside0.mk (below_alloc (Below.refl w.heap.size w) (.cells #[.int .i64 0,.int .i64 0,.int .i64 0,.int .i64 0,.int .i64 0,.int .i64 0,.string ⟨#[]⟩,.string ⟨#[]⟩] 53))
 have hof:=of_ok A c ys _ (Kd.C_below hr HB.out) (by omega)
 have hOk:Ok ys:=⟨hb,by omega⟩
 have HRC:=Aside0.mk hrc
 have HOK:=Aside0.mk hOk
 obtain ⟨a1,h1⟩:∃ a,(q1 ys).1.1=a:=⟨_,rfl⟩
 obtain ⟨a2,h2⟩:∃ a,(q2 ys).1.1=a:=⟨_,rfl⟩
 obtain ⟨a3,h3⟩:∃ a,(q3 ys).1.1=a:=⟨_,rfl⟩
 obtain ⟨a4,h4⟩:∃ a,(q4 ys).1.1=a:=⟨_,rfl⟩
 obtain ⟨a5,h5⟩:∃ a,(q5 ys).1.1=a:=⟨_,rfl⟩
 obtain ⟨a6,h6⟩:∃ a,(q6 ys).1.1=a:=⟨_,rfl⟩
 obtain ⟨a7,h7⟩:∃ a,strOfNums (q7 ys).1.1=a:=⟨_,rfl⟩
 obtain ⟨a8,h8⟩:∃ a,strOfNums (q8 ys).1.1=a:=⟨_,rfl⟩
 have hF:readF ys=if endOf ys≠0 then (zeroR,90) else ((a1,a2,a3,a4,a5,a6,a7,a8),if rightB a1 a2 a3 a4 a5 a6 a7 a8=true then 0 else 90):=by
  unfold readF recOf rightV
  rw [h1,h2,h3,h4,h5,h6,h7,h8]
 have h8s:a8.size≤140737488351232:=by
  rw [← h8,strOfNums_size]
  have:=rdText_few (M:=65535) (by omega) (q7 ys).2.1 (q7 ys).2.2
  have e:q8 ys=rdText (q7 ys).2.1 (q7 ys).2.2 65535:=rfl
  rw [e]
  omega
 have HK1:=Aside0.mk h1
 have HK2:=Aside0.mk h2
 have HK3:=Aside0.mk h3
 have HK4:=Aside0.mk h4
 have HK5:=Aside0.mk h5
 have HK6:=Aside0.mk h6
 have HK7:=Aside0.mk h7
 have HK8:=Aside0.mk h8
 have H8S:=Aside0.mk h8s
 obtain ⟨D,hD⟩:∃ D,readF ys=D:=⟨_,rfl⟩
 rw [hD] at hF ⊢
 have HF:=Aside0.mk hF
 clear hr hb hl hrc hOk h1 h2 h3 h4 h5 h6 h7 h8 h8s hD hF
 go_enter Try.func82,Try.ntmps82
 go_upto_region 3 with (go_at_call 78;(with_reducible refine hof.mono ?_);rintro e w2 ⟨g,F,rfl,hrd,hB,hg,hlow⟩;(have hhi:∀ k,F k→k < w2.heap.size:=by obtain ⟨_,_,_,_,_,_,_,h6⟩:=hrd;exact h6);(have hgm:=hrd.mine);(have hrs:=HRC.out.below hB);(have hbl:=below_from2 HB.out (Nat.le_refl _) hB);(have hb2:=below_alloc (Below.refl w2.heap.size w2) (.cells #[.pointer (some ⟨g,0,none⟩)] 128));(have HS:=Aside0.mk (show RS w (w2.alloc (.cells #[.pointer (some ⟨g,0,none⟩)] 128)) g w2.heap.size F ys 0 from ⟨hrd.below hb2,below_from2 hbl (Nat.le_refl _) hb2,blk_newN _ _,hrs.below hb2,⟨by have h1:=HRC.out.lt;omega,hhi g hgm⟩,fun k hk=>⟨by have h1:=HRC.out.lt;have:=hlow k hk;omega,hhi k hk⟩,HOK.out⟩));clear hrs hbl hb2 hof hrd hB hg hlow hhi hgm)
 generalize hW0:w2.alloc (.cells #[.pointer (some ⟨g,0,none⟩)] 128)=W0 at HS ⊢
 clear hW0
 generalize w2.heap.size=bx at HS ⊢
 have HC1:Aside0 (∀ W,RS w W g bx F ys 0→Calls Try.prog 98 #[.int .i64 8,.pointer (some ⟨bx,0,none⟩)] W fun e w'=>e=.returned (.int .i64 a1)∧RS w w' g bx F (q1 ys).2.1 (q1 ys).2.2∧Chg W w' (At g)):=⟨fun W h=>num1_ok h rfl HK1.out⟩
 have HC2:Aside0 (∀ W,RS w W g bx F (q1 ys).2.1 (q1 ys).2.2→Calls Try.prog 98 #[.int .i64 8,.pointer (some ⟨bx,0,none⟩)] W fun e w'=>e=.returned (.int .i64 a2)∧RS w w' g bx F (q2 ys).2.1 (q2 ys).2.2∧Chg W w' (At g)):=⟨fun W h=>num1_ok h rfl HK2.out⟩
 have HC3:Aside0 (∀ W,RS w W g bx F (q2 ys).2.1 (q2 ys).2.2→Calls Try.prog 98 #[.int .i64 1,.pointer (some ⟨bx,0,none⟩)] W fun e w'=>e=.returned (.int .i64 a3)∧RS w w' g bx F (q3 ys).2.1 (q3 ys).2.2∧Chg W w' (At g)):=⟨fun W h=>num1_ok h rfl HK3.out⟩
 have HC4:Aside0 (∀ W,RS w W g bx F (q3 ys).2.1 (q3 ys).2.2→Calls Try.prog 98 #[.int .i64 4,.pointer (some ⟨bx,0,none⟩)] W fun e w'=>e=.returned (.int .i64 a4)∧RS w w' g bx F (q4 ys).2.1 (q4 ys).2.2∧Chg W w' (At g)):=⟨fun W h=>num1_ok h rfl HK4.out⟩
 have HC5:Aside0 (∀ W,RS w W g bx F (q4 ys).2.1 (q4 ys).2.2→Calls Try.prog 98 #[.int .i64 4,.pointer (some ⟨bx,0,none⟩)] W fun e w'=>e=.returned (.int .i64 a5)∧RS w w' g bx F (q5 ys).2.1 (q5 ys).2.2∧Chg W w' (At g)):=⟨fun W h=>num1_ok h rfl HK5.out⟩
 have HC6:Aside0 (∀ W,RS w W g bx F (q5 ys).2.1 (q5 ys).2.2→Calls Try.prog 98 #[.int .i64 8,.pointer (some ⟨bx,0,none⟩)] W fun e w'=>e=.returned (.int .i64 a6)∧RS w w' g bx F (q6 ys).2.1 (q6 ys).2.2∧Chg W w' (At g)):=⟨fun W h=>num1_ok h rfl HK6.out⟩
 go_cut [6] (fun v6 wx=>∃ p,v6=.pointer (some ⟨p,0,none⟩)∧Aside0 (RP w wx g bx p F (q6 ys).2.1 (q6 ys).2.2 a1 a2 a3 a4 a5 a6 ⟨#[]⟩ ⟨#[]⟩))
 case first =>
  have HS0:=HS
  go_wp2_with (first
   | (go_at_call 98;(with_reducible refine (HC6.out _ HS5.out).mono ?_);rintro e w6 ⟨rfl,hs,_⟩;(have HS6:=Aside0.mk hs);clear hs)
   | (go_at_call 98;(with_reducible refine (HC5.out _ HS4.out).mono ?_);rintro e w5 ⟨rfl,hs,_⟩;(have HS5:=Aside0.mk hs);clear hs)
   | (go_at_call 98;(with_reducible refine (HC4.out _ HS3.out).mono ?_);rintro e w4 ⟨rfl,hs,_⟩;(have HS4:=Aside0.mk hs);clear hs)
   | (go_at_call 98;(with_reducible refine (HC3.out _ HS2.out).mono ?_);rintro e w3 ⟨rfl,hs,_⟩;(have HS3:=Aside0.mk hs);clear hs)
   | (go_at_call 98;(with_reducible refine (HC2.out _ HS1.out).mono ?_);rintro e w2 ⟨rfl,hs,_⟩;(have HS2:=Aside0.mk hs);clear hs)
   | (go_at_call 98;(with_reducible refine (HC1.out _ HS0.out).mono ?_);rintro e w1 ⟨rfl,hs,_⟩;(have HS1:=Aside0.mk hs);clear hs))
  go_meet
  case rel=>exact ⟨_,rfl,⟨RP.start2 HS6.out _ _ _ _ _ _ _ _⟩⟩
 case rest =>
  obtain ⟨p,rfl,HP⟩:=hcut
  clear HC1 HC2 HC3 HC4 HC5 HC6 HS
  obtain ⟨⟨n0,n1,n2,n3,n4,n5,n6,n7⟩,⟨m0,m1,m2,m3,m4,m5,m6,m7⟩⟩:=HP.out.r.cells
  have hbx:=cell_of_one HP.out.s.bk
  have ht1:=HP.out.text (R:=q7 ys) rfl HK7.out
  go_upto_region 5 with (go_at_call 79;(with_reducible refine ht1.mono ?_);rintro e w7 ⟨rfl,hp⟩;clear n0 n1 n2 n3 n4 n5 n6 n7 m0 m1 m2 m3 m4 m5 m6 m7 hbx;(replace HP:=Aside0.mk hp);obtain ⟨⟨n0,n1,n2,n3,n4,n5,n6,n7⟩,⟨m0,m1,m2,m3,m4,m5,m6,m7⟩⟩:=HP.out.r.cells;clear hp ht1)
  replace HP:=Aside0.mk (HP.out.set6 a7)
  clear n0 n1 n2 n3 n4 n5 n6 n7 m0 m1 m2 m3 m4 m5 m6 m7
  generalize w7.setCell ⟨p,6,none⟩ (.string a7)=w8 at HP ⊢
  obtain ⟨⟨n0,n1,n2,n3,n4,n5,n6,n7⟩,⟨m0,m1,m2,m3,m4,m5,m6,m7⟩⟩:=HP.out.r.cells
  have hbx:=cell_of_one HP.out.s.bk
  have ht2:=HP.out.text (R:=q8 ys) rfl HK8.out
  go_upto_region 6 with (go_at_call 79;(with_reducible refine ht2.mono ?_);rintro e w9 ⟨rfl,hp⟩;clear n0 n1 n2 n3 n4 n5 n6 n7 m0 m1 m2 m3 m4 m5 m6 m7 hbx;(replace HP:=Aside0.mk hp);obtain ⟨⟨n0,n1,n2,n3,n4,n5,n6,n7⟩,⟨m0,m1,m2,m3,m4,m5,m6,m7⟩⟩:=HP.out.r.cells;clear hp ht2)
  replace HP:=Aside0.mk (HP.out.set7 a8)
  clear n0 n1 n2 n3 n4 n5 n6 n7 m0 m1 m2 m3 m4 m5 m6 m7
  generalize w9.setCell ⟨p,7,none⟩ (.string a8)=W at HP ⊢
  have hbx:=cell_of_one HP.out.s.bk
  have hend:=end_ok g _ _ F W HP.out.s.rd
  rw [show rdEnd (q8 ys).2.1 (q8 ys).2.2=endOf ys from rfl] at hend
  by_cases hE:endOf ys=0
  ·rw [hE] at hend
   have hd:D=((a1,a2,a3,a4,a5,a6,a7,a8),if rightB a1 a2 a3 a4 a5 a6 a7 a8=true then 0 else 90):=by rw [HF.out,if_neg (by omega)]
   clear hE HF
   obtain ⟨⟨n0,n1,n2,n3,n4,n5,n6,n7⟩,⟨m0,m1,m2,m3,m4,m5,m6,m7⟩⟩:=HP.out.r.cells
   obtain ⟨⟨b0,b1,b2,b3,b4,b5,b6,b7⟩,⟨f0,f1,f2,f3,f4,f5,f6,f7⟩⟩:=HP.out.s.rs.cells
   obtain ⟨R,hR⟩:∃ R:Int,(if rightB a1 a2 a3 a4 a5 a6 a7 a8=true then 0 else 90)=R:=⟨_,rfl⟩
   have HCK:Aside0 (∀ V,RP w V g bx p F (q8 ys).2.1 (q8 ys).2.2 a1 a2 a3 a4 a5 a6 a7 a8→Calls Try.prog 55 #[.agg #[.int .i64 a1,.int .i64 a2,.int .i64 a3,.int .i64 a4,.int .i64 a5,.int .i64 a6,.string a7,.string a8]] V fun e w'=>e=.returned (.int .i64 R)∧RP w w' g bx p F (q8 ys).2.1 (q8 ys).2.2 a1 a2 a3 a4 a5 a6 a7 a8):=⟨fun V h=>(hR ▸ reccheck_ok a1 a2 a3 a4 a5 a6 a7 a8 H8S.out V).mono (by rintro e w' ⟨rfl,hB⟩;exact ⟨rfl,h.below hB⟩)⟩
   rw [hR] at hd
   have HDE:=Aside0.mk hd
   clear hR hd
   go_upto_region 8 with (go_at_call 99;(with_reducible refine hend.mono ?_);rintro e w10 ⟨rfl,⟨nd,rfl⟩⟩;clear hend)
   clear n0 n1 n2 n3 n4 n5 n6 n7 m0 m1 m2 m3 m4 m5 m6 m7 b0 b1 b2 b3 b4 b5 b6 b7 f0 f1 f2 f3 f4 f5 f6 f7 hbx
   replace HP:=Aside0.mk (HP.out.below (pw_below_drewN (Below.refl _ _) nd))
   generalize W.drewN nd=W10 at HP ⊢
   obtain ⟨⟨n0,n1,n2,n3,n4,n5,n6,n7⟩,_⟩:=HP.out.r.cells
   obtain ⟨⟨b0,b1,b2,b3,b4,b5,b6,b7⟩,⟨f0,f1,f2,f3,f4,f5,f6,f7⟩⟩:=HP.out.s.rs.cells
   go_region_held3 (fun w'=>w'.cell? ⟨p,0,none⟩=some (.int .i64 a1)∧w'.cell? ⟨p,1,none⟩=some (.int .i64 a2)∧w'.cell? ⟨p,2,none⟩=some (.int .i64 a3)∧w'.cell? ⟨p,3,none⟩=some (.int .i64 a4)∧w'.cell? ⟨p,4,none⟩=some (.int .i64 a5)∧w'.cell? ⟨p,5,none⟩=some (.int .i64 a6)∧w'.cell? ⟨p,6,none⟩=some (.string a7)∧w'.cell? ⟨p,7,none⟩=some (.string a8))
    (first|(with_reducible exact ⟨n0,n1,n2,n3,n4,n5,n6,n7⟩)|(with_reducible exact HQ.out.out8)|(with_reducible exact HQ.out.r.cells.1)|(with_reducible exact HP.out.r.cells.1)|(with_reducible exact (HP.out.below (below_drew (Below.refl _ _))).r.cells.1))
    (first
     | (go_at_call 55;(with_reducible refine (HCK.out _ (by first|(with_reducible exact HP.out)|(with_reducible exact HP.out.below (below_drew (Below.refl _ _))))).mono ?_);rintro e w11 ⟨rfl,hq⟩;(have HQ:=Aside0.mk hq);clear n0 n1 n2 n3 n4 n5 n6 n7 b0 b1 b2 b3 b4 b5 b6 b7 f0 f1 f2 f3 f4 f5 f6 f7;obtain ⟨⟨n0,n1,n2,n3,n4,n5,n6,n7⟩,_⟩:=HQ.out.r.cells;obtain ⟨⟨b0,b1,b2,b3,b4,b5,b6,b7⟩,⟨f0,f1,f2,f3,f4,f5,f6,f7⟩⟩:=HQ.out.s.rs.cells;clear hq))
   all_goals
    go_wp2
    refine bodyPost_ret (results_ct rfl _ _ w.heap.size 53 #[.int .i64 a1,.int .i64 a2,.int .i64 a3,.int .i64 a4,.int .i64 a5,.int .i64 a6,.string a7,.string a8] (0,0) _ rfl (HQ.out.s.rs.set8 a1 a2 a3 a4 a5 a6 a7 a8) Try.underlying53 rfl (by kernel_rfl)) rfl ?_
    have hde:=HDE.out
    subst hde
    exact ⟨rfl,below_set8 HQ.out.s.bl (Nat.le_refl _)⟩
  ·obtain rfl:D=(zeroR,90):=by rw [HF.out,if_pos hE]
   generalize endOf ys=E at hend hE
   have e1:(E==0)=false:=beq_eq_false_iff_ne.2 hE
   have e2:(E != 0)=true:=bne_iff_ne.2 hE
   have e3:=eq_false hE
   clear hE HF
   obtain ⟨⟨b0,b1,b2,b3,b4,b5,b6,b7⟩,⟨f0,f1,f2,f3,f4,f5,f6,f7⟩⟩:=HP.out.s.rs.cells
   go_wp2_with (go_at_call 99;(with_reducible refine hend.mono ?_);rintro e w10 ⟨rfl,⟨nd,rfl⟩⟩;clear hend)
   refine bodyPost_ret (results_ct rfl _ _ w.heap.size 53 #[.int .i64 0,.int .i64 0,.int .i64 0,.int .i64 0,.int .i64 0,.int .i64 0,.string ⟨#[]⟩,.string ⟨#[]⟩] (0,0) _ rfl (RcAt.set8 (show RcAt (World.drewN _ _) w.heap.size 0 0 0 0 0 0 ⟨#[]⟩ ⟨#[]⟩ from HP.out.s.rs) 0 0 0 0 0 0 ⟨#[]⟩ ⟨#[]⟩) Try.underlying53 rfl (by kernel_rfl)) rfl ?_
   exact ⟨rfl,below_set8 (below_drewN0 HP.out.s.bl _) (Nat.le_refl _)⟩
end Go.Proofs.Ytgjibcfkjaedfaa.Rec
