-- A part of the text WalApp, thinned by a program of this session.
import Derived.Test.YtgjibcfkjaedfaaTSWalA
namespace Go.Proofs.Ytgjibcfkjaedfaa.Wal
open Go.RowKit Go.Proofs.YtgjibcfkjaedfaaW.PrintWords Go.Proofs.YtgjibcfkjaedfaaW.PrintLast Go.Proofs.YtgjibcfkjaedfaaW.PrintMore Go.Proofs.Ytgjibcfkjaedfaa.Wire Go.Proofs.Ytgjibcfkjaedfaa.Pr Go.Proofs.Ytgjibcfkjaedfaa.Rec
set_option linter.unusedVariables false
set_option linter.unusedSimpArgs false
theorem _root_.Go.Proofs.Ytgjibcfkjaedfaa.Rec.RcAt.set0 {w:World} {g:Nat} {a1 a2 a3 a4 a5 a6:Int} {a7 a8:ByteArray} (h:RcAt w g a1 a2 a3 a4 a5 a6 a7 a8) (y:Int):RcAt (w.setCell ⟨g,0,none⟩ (.int .i64 y)) g y a2 a3 a4 a5 a6 a7 a8:=blk_set h 0 _
def withLsn (r:RecS) (n:Int):RecS:=⟨n,r.f1,r.f2,r.f3,r.f4,r.f5,r.f6,r.f7⟩
def appF (l:List RecS) (r:RecS):List RecS×Int×Int :=
 if rightV (toV (withLsn r ((l.length:Int)+1)))=true then
  if r.f1 < lastE l then (l,0,100) else if l.length=65536 then (l,0,5) else (l++[withLsn r ((l.length:Int)+1)],(l.length:Int)+1,0)
 else (l,0,90)
set_option maxHeartbeats 16000000 in
set_option maxRecDepth 100000 in
theorem append_ok {w:World} {ok:Nat→Prop} {g:Nat} {l:List RecS} {fl:Int} (h:LogAt 98 w ok g l fl) (hl:l.length≤65536) (x0 x1 x2 x3 x4 x5:Int) (x6 x7:ByteArray) (hv:x7.size≤140737488351232) :
  Calls Try.prog 33 #[.pointer (some ⟨g,0,none⟩),.agg #[.int .i64 x0,.int .i64 x1,.int .i64 x2,.int .i64 x3,.int .i64 x4,.int .i64 x5,.string x6,.string x7]] w fun e w'=>e=.returned (.tuple #[.int .i64 (appF l ⟨x0,x1,x2,x3,x4,x5,x6,x7⟩).2.1,.int .i64 (appF l ⟨x0,x1,x2,x3,x4,x5,x6,x7⟩).2.2])∧LogAt 98 w' (fun k=>ok k∨w.heap.size≤k) g (appF l ⟨x0,x1,x2,x3,x4,x5,x6,x7⟩).1 fl∧Chg w w' ok:=by
 have hn:=rc_new w x0 x1 x2 x3 x4 x5 x6 x7
 have hlast:=last_okB (h.below (below_alloc (Below.refl w.heap.size w) (.cells #[.int .i64 x0,.int .i64 x1,.int .i64 x2,.int .i64 x3,.int .i64 x4,.int .i64 x5,.string x6,.string x7] 53))) (by omega)
 have HCK:=Aside0.mk (fun W=>reccheck_ok ((l.length:Int)+1) x1 x2 x3 x4 x5 x6 x7 hv W)
 obtain ⟨⟨b0,b1,b2,b3,b4,b5,b6,b7⟩,⟨fb0,fb1,fb2,fb3,fb4,fb5,fb6,fb7⟩⟩:=hn.cells
 have hln:(l.length:Int)≤65536:=by omega
 have hl0:(0:Int)≤(l.length:Int):=by omega
 have hw1:IntKind.i64.wrap ((l.length:Int)+1)=(l.length:Int)+1:=by rw [IntKind.wrap_i64];omega
 have HL:=Aside0.mk h
 have HLL:=Aside0.mk hl
 unfold appF withLsn
 dsimp only
 by_cases hr:rightB ((l.length:Int)+1) x1 x2 x3 x4 x5 x6 x7=true
 ·have hr':rightV (((l.length:Int)+1),x1,x2,x3,x4,x5,x6,x7)=true:=hr
  rw [if_pos hr']
  rw [if_pos hr] at HCK
  by_cases he:x1 < lastE l
  ·rw [if_pos he]
   have de:decide (x1 < lastE l)=true:=decide_eq_true he
   clear hn h hl hv hr hr'
   go_enter Try.func33,Try.ntmps33
   go_wp2_with (first
   | (go_at_call 21;(with_reducible refine hlast.mono ?_);rintro e w2 ⟨rfl,hB⟩;clear b0 b1 b2 b3 b4 b5 b6 b7 fb0 fb1 fb2 fb3 fb4 fb5 fb6 fb7;(have HN:=Aside0.mk ((rc_new w x0 x1 x2 x3 x4 x5 x6 x7).below hB));obtain ⟨⟨b0,b1,b2,b3,b4,b5,b6,b7⟩,⟨fb0,fb1,fb2,fb3,fb4,fb5,fb6,fb7⟩⟩:=HN.out.cells;(have ltn:=HN.out.lt);(have HW:=Aside0.mk ((below_from (below_alloc (Below.refl w.heap.size w) (.cells #[.int .i64 x0,.int .i64 x1,.int .i64 x2,.int .i64 x3,.int .i64 x4,.int .i64 x5,.string x6,.string x7] 53)) (Nat.le_refl _) hB).setCell (p:=⟨w.heap.size,0,none⟩) (Nat.le_refl _) (.int .i64 ((l.length:Int)+1))));clear hB hlast)
   | (go_at_call 55;(with_reducible refine (HCK.out _).mono ?_);rintro e w3 ⟨rfl,hB⟩;clear b0 b1 b2 b3 b4 b5 b6 b7 fb0 fb1 fb2 fb3 fb4 fb5 fb6 fb7 ltn;(replace HN:=Aside0.mk ((HN.out.set0 ((l.length:Int)+1)).below hB));obtain ⟨⟨b0,b1,b2,b3,b4,b5,b6,b7⟩,⟨fb0,fb1,fb2,fb3,fb4,fb5,fb6,fb7⟩⟩:=HN.out.cells;(have ltn:=HN.out.lt);(replace HW:=Aside0.mk (below_from HW.out (Nat.le_refl _) hB));clear hB))
   go_ret2
   exact ⟨rfl,(HL.out.below HW.out).mono (fun k hk=>.inl hk),Chg.of_below HW.out _⟩
  ·rw [if_neg he]
   have de:decide (x1 < lastE l)=false:=decide_eq_false he
   have de2:lastE l≤x1:=by omega
   by_cases hf:l.length=65536
   ·rw [if_pos hf]
    have df:((l.length:Int)==65536)=true:=by rw [hf];rfl
    have HF:=Aside0.mk hf
    clear hn h hl hv hr hr' hf he
    go_enter Try.func33,Try.ntmps33
    go_wp2_with (first
   | (go_at_call 21;(with_reducible refine hlast.mono ?_);rintro e w2 ⟨rfl,hB⟩;clear b0 b1 b2 b3 b4 b5 b6 b7 fb0 fb1 fb2 fb3 fb4 fb5 fb6 fb7;(have HN:=Aside0.mk ((rc_new w x0 x1 x2 x3 x4 x5 x6 x7).below hB));obtain ⟨⟨b0,b1,b2,b3,b4,b5,b6,b7⟩,⟨fb0,fb1,fb2,fb3,fb4,fb5,fb6,fb7⟩⟩:=HN.out.cells;(have ltn:=HN.out.lt);(have HW:=Aside0.mk ((below_from (below_alloc (Below.refl w.heap.size w) (.cells #[.int .i64 x0,.int .i64 x1,.int .i64 x2,.int .i64 x3,.int .i64 x4,.int .i64 x5,.string x6,.string x7] 53)) (Nat.le_refl _) hB).setCell (p:=⟨w.heap.size,0,none⟩) (Nat.le_refl _) (.int .i64 ((l.length:Int)+1))));clear hB hlast)
   | (go_at_call 55;(with_reducible refine (HCK.out _).mono ?_);rintro e w3 ⟨rfl,hB⟩;clear b0 b1 b2 b3 b4 b5 b6 b7 fb0 fb1 fb2 fb3 fb4 fb5 fb6 fb7 ltn;(replace HN:=Aside0.mk ((HN.out.set0 ((l.length:Int)+1)).below hB));obtain ⟨⟨b0,b1,b2,b3,b4,b5,b6,b7⟩,⟨fb0,fb1,fb2,fb3,fb4,fb5,fb6,fb7⟩⟩:=HN.out.cells;(have ltn:=HN.out.lt);(replace HW:=Aside0.mk (below_from HW.out (Nat.le_refl _) hB));clear hB))
    go_ret2
    exact ⟨rfl,(HL.out.below HW.out).mono (fun k hk=>.inl hk),Chg.of_below HW.out _⟩
   ·rw [if_neg hf]
    have df:((l.length:Int)==65536)=false:=by rw [beq_eq_false_iff_ne];omega
    obtain ⟨qs,hqs⟩:∃ qs,l++[(⟨(l.length:Int)+1,x1,x2,x3,x4,x5,x6,x7⟩:RecS)]=qs:=⟨_,rfl⟩
    rw [hqs]
    have HQS:=Aside0.mk hqs
    clear hn h hl hv hr hr' hf he hqs
    go_enter Try.func33,Try.ntmps33
    go_upto_region 9 with (first
   | (go_at_call 21;(with_reducible refine hlast.mono ?_);rintro e w2 ⟨rfl,hB⟩;clear b0 b1 b2 b3 b4 b5 b6 b7 fb0 fb1 fb2 fb3 fb4 fb5 fb6 fb7;(have HN:=Aside0.mk ((rc_new w x0 x1 x2 x3 x4 x5 x6 x7).below hB));obtain ⟨⟨b0,b1,b2,b3,b4,b5,b6,b7⟩,⟨fb0,fb1,fb2,fb3,fb4,fb5,fb6,fb7⟩⟩:=HN.out.cells;(have ltn:=HN.out.lt);(have HW:=Aside0.mk ((below_from (below_alloc (Below.refl w.heap.size w) (.cells #[.int .i64 x0,.int .i64 x1,.int .i64 x2,.int .i64 x3,.int .i64 x4,.int .i64 x5,.string x6,.string x7] 53)) (Nat.le_refl _) hB).setCell (p:=⟨w.heap.size,0,none⟩) (Nat.le_refl _) (.int .i64 ((l.length:Int)+1))));clear hB hlast)
   | (go_at_call 55;(with_reducible refine (HCK.out _).mono ?_);rintro e w3 ⟨rfl,hB⟩;clear b0 b1 b2 b3 b4 b5 b6 b7 fb0 fb1 fb2 fb3 fb4 fb5 fb6 fb7 ltn;(replace HN:=Aside0.mk ((HN.out.set0 ((l.length:Int)+1)).below hB));obtain ⟨⟨b0,b1,b2,b3,b4,b5,b6,b7⟩,⟨fb0,fb1,fb2,fb3,fb4,fb5,fb6,fb7⟩⟩:=HN.out.cells;(have ltn:=HN.out.lt);(replace HW:=Aside0.mk (below_from HW.out (Nat.le_refl _) hB));clear hB))
    obtain ⟨A,c,hb0,hok,hR0⟩:=HL.out
    have hb:w3.heap[g]?=some (.cells #[.slice A l.length c,.int .i64 fl] 98 (0,0)):=(Chg.of_below HW.out (fun _=>False)).blk hb0 (fun h=>h)
    have hR:=Kd.R_below hR0 HW.out
    have HLT:=Aside0.mk (Kd.R_lt hR0)
    have HOWN:Aside0 (∀ k,(Value.slice A l.length c).ownBlock=some k→ok k):=⟨hR0.1⟩
    obtain ⟨h0,h1,f0,f1⟩:w3.cell? ⟨g,0,none⟩=some (.slice A l.length c)∧w3.cell? ⟨g,1,none⟩=some (.int .i64 fl)∧w3.frozen? ⟨g,0,none⟩=false∧w3.frozen? ⟨g,1,none⟩=false:=by simp [World.cell?,World.frozen?,hb]
    have hlc:l.length≤c:=(Kd.R_reads' hR).2.1
    have ltg:=blk_lt hb
    have HBK:=Aside0.mk hb
    have HOK:=Aside0.mk hok
    have HR:Aside0 (Kd.R kRec 53 w3 0 (fun k=>ok k∨w.heap.size≤k) (.slice A l.length c) l):=⟨Kd.R_mono hR (fun k hk=>.inl hk)⟩
    have hne:¬ g=w.heap.size:=by have:=HL.out.lt;omega
    have hne2:¬ w.heap.size=g:=fun e=>hne e.symm
    clear hb hok hR hb0 hR0
    go_region_law (refine Kd.R_append_step kRec (w0:=w3.drew) (W:=w3.drew) 0 (by simp [Region.wanted]) (.tmp 36) (.tmp 38) 22 53 (.agg #[.int .i64 0,.int .i64 0,.int .i64 0,.int .i64 0,.int .i64 0,.int .i64 0,.string ⟨#[]⟩,.string ⟨#[]⟩]) 80 rfl Try.underlying22 infoRec rfl (by decide) (by decide) (.slice A l.length c) l ⟨(l.length:Int)+1,x1,x2,x3,x4,x5,x6,x7⟩ [.int .i64 ((l.length:Int)+1),.int .i64 x1,.int .i64 x2,.int .i64 x3,.int .i64 x4,.int .i64 x5,.string x6,.string x7] (fun k=>ok k∨w.heap.size≤k) (fun _=>False) (by simp [Act.eval,Act.put]) (by first|rfl|(simp [Act.eval,Act.put];rfl)) (k53_mkM _ _ _ _) (fun _ hk=>hk.elim) (fun k hk=>.inr (Nat.le_trans HW.out.size hk)) (Kd.R_below HR.out (below_drew (Below.refl _ _))) (Below.refl _ _) (Nat.zero_le _) (by have:=HLL.out;omega) ?_;intro v1 w5 ho hb5 hg5 hat5;rw [HQS.out] at ho;(have HB5:Aside0 (w5.heap[g]?=some (.cells #[.slice A l.length c,.int .i64 fl] 98 (0,0))):=⟨(Chg.of_grown hg5).blk (show w3.drew.heap[g]?=_ from HBK.out) (fun e=>by obtain ⟨cells,hcs⟩:=Kd.R_typed HR.out _ e.symm;rw [HBK.out] at hcs;injection hcs with hcs;injection hcs with _ hcs;cases hcs)⟩);(have HN5:Aside0 (RcAt w5 w.heap.size ((l.length:Int)+1) x1 x2 x3 x4 x5 x6 x7):=⟨(Chg.of_grown hg5).blk (show w3.drew.heap[w.heap.size]?=_ from HN.out) (fun e=>by have h9:=HLT.out _ e.symm;omega)⟩);obtain ⟨A1,c1,rfl⟩:=Kd.R_slice ho;(have HO:=Aside0.mk ho);(have HG5:Aside0 (Chg w3 w5 (fun k=>some k=(Value.slice A l.length c).ownBlock)):=⟨(show Chg w3 w3.drew (fun k=>some k=(Value.slice A l.length c).ownBlock) from Chg.of_below (below_drew (Below.refl _ _)) _).trans (Chg.of_grown hg5) (fun k hk=>.inl hk)⟩);clear b0 b1 b2 b3 b4 b5 b6 b7 fb0 fb1 fb2 fb3 fb4 fb5 fb6 fb7 ltn h0 h1 f0 f1 ltg;obtain ⟨⟨b0,b1,b2,b3,b4,b5,b6,b7⟩,_⟩:=HN5.out.cells;(have ltn:=HN5.out.lt);(have ltg:=blk_lt HB5.out);obtain ⟨h0,h1,f0,f1⟩:w5.cell? ⟨g,0,none⟩=some (.slice A l.length c)∧w5.cell? ⟨g,1,none⟩=some (.int .i64 fl)∧w5.frozen? ⟨g,0,none⟩=false∧w5.frozen? ⟨g,1,none⟩=false:=(by simp [World.cell?,World.frozen?,HB5.out]);clear ho hb5 hg5 hat5)
    all_goals
     go_wp2
     go_ret2
     exact ⟨rfl,LogAt.put HB5.out (by decide) (.inl HOK.out) HO.out,(Chg.of_below HW.out ok).trans ((HG5.out.mono (fun k hk=>HOWN.out k hk.symm)).trans (Chg.setCell _ _ _) (fun k hk=>.inl (by rw [hk];exact HOK.out))) (fun k hk=>.inl hk)⟩
 ·have hr':¬ rightV (((l.length:Int)+1),x1,x2,x3,x4,x5,x6,x7)=true:=hr
  rw [if_neg hr']
  rw [if_neg hr] at HCK
  clear hn h hl hv hr hr'
  go_enter Try.func33,Try.ntmps33
  go_wp2_with (first
   | (go_at_call 21;(with_reducible refine hlast.mono ?_);rintro e w2 ⟨rfl,hB⟩;clear b0 b1 b2 b3 b4 b5 b6 b7 fb0 fb1 fb2 fb3 fb4 fb5 fb6 fb7;(have HN:=Aside0.mk ((rc_new w x0 x1 x2 x3 x4 x5 x6 x7).below hB));obtain ⟨⟨b0,b1,b2,b3,b4,b5,b6,b7⟩,⟨fb0,fb1,fb2,fb3,fb4,fb5,fb6,fb7⟩⟩:=HN.out.cells;(have ltn:=HN.out.lt);(have HW:=Aside0.mk ((below_from (below_alloc (Below.refl w.heap.size w) (.cells #[.int .i64 x0,.int .i64 x1,.int .i64 x2,.int .i64 x3,.int .i64 x4,.int .i64 x5,.string x6,.string x7] 53)) (Nat.le_refl _) hB).setCell (p:=⟨w.heap.size,0,none⟩) (Nat.le_refl _) (.int .i64 ((l.length:Int)+1))));clear hB hlast)
   | (go_at_call 55;(with_reducible refine (HCK.out _).mono ?_);rintro e w3 ⟨rfl,hB⟩;clear b0 b1 b2 b3 b4 b5 b6 b7 fb0 fb1 fb2 fb3 fb4 fb5 fb6 fb7 ltn;(replace HN:=Aside0.mk ((HN.out.set0 ((l.length:Int)+1)).below hB));obtain ⟨⟨b0,b1,b2,b3,b4,b5,b6,b7⟩,⟨fb0,fb1,fb2,fb3,fb4,fb5,fb6,fb7⟩⟩:=HN.out.cells;(have ltn:=HN.out.lt);(replace HW:=Aside0.mk (below_from HW.out (Nat.le_refl _) hB));clear hB))
  go_ret2
  exact ⟨rfl,(HL.out.below HW.out).mono (fun k hk=>.inl hk),Chg.of_below HW.out _⟩
end Go.Proofs.Ytgjibcfkjaedfaa.Wal
