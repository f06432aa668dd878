-- A part of the text PageNode, thinned by a program of this session.
import Derived.Test.YtgjibcfkjaedfaaTHPageRd
import Derived.Deep.RegionHeld3
namespace Go.Proofs.Ytgjibcfkjaedfaa.Page
open Go.RowKit Go.Proofs.YtgjibcfkjaedfaaW.PrintWords Go.Proofs.YtgjibcfkjaedfaaW.PrintLast Go.Proofs.YtgjibcfkjaedfaaW.PrintMore Go.Proofs.Ytgjibcfkjaedfaa.Wire Go.Proofs.Ytgjibcfkjaedfaa.Crc Go.Proofs.Ytgjibcfkjaedfaa.Pr
open Go.Proofs.Ytgjibcfkjaedfaa.Back (AllB numB numB_small)
open Go.Proofs.Ytgjibcfkjaedfaa.Pure
set_option linter.unusedVariables false
set_option linter.unusedSimpArgs false
structure Beg (w W0:World) (g:Nat) (F:Nat→Prop):Prop where
 ch:Chg w W0 (At g)
 low:∀ k,F k→k < w.heap.size
 bx:W0.heap[w.heap.size]?=some (.cells #[.pointer (some ⟨g,0,none⟩)] 159 (0,0))
 rs:NdAt W0 (w.heap.size+1) 0 0 0 ⟨#[]⟩ (.slice none 0 0) (.slice none 0 0) (.slice none 0 0)
 sz:w.heap.size+2≤W0.heap.size
theorem Beg.cell {w W0 wr:World} {g:Nat} {F:Nat→Prop} (h:Beg w W0 g F) (hc:Chg W0 wr (At g)) (hg:g < w.heap.size):wr.cell? ⟨w.heap.size,0,none⟩=some (.pointer (some ⟨g,0,none⟩)) :=
 cell_of_one (hc.blk h.bx (fun e=>by have e:w.heap.size=g:=e;omega))
theorem set7_chg (w3:World) (p:Nat) (a b c d e f h:Value):Chg w3 (((((((w3.setCell ⟨p,0,none⟩ a).setCell ⟨p,1,none⟩ b).setCell ⟨p,2,none⟩ c).setCell ⟨p,3,none⟩ d).setCell ⟨p,4,none⟩ e).setCell ⟨p,5,none⟩ f).setCell ⟨p,6,none⟩ h) (fun k=>k=p) :=
 ((((((Chg.setCell _ ⟨p,0,none⟩ a).trans (Chg.setCell _ ⟨p,1,none⟩ b) (fun k hk=>.inl hk)).trans (Chg.setCell _ ⟨p,2,none⟩ c) (fun k hk=>.inl hk)).trans (Chg.setCell _ ⟨p,3,none⟩ d) (fun k hk=>.inl hk)).trans (Chg.setCell _ ⟨p,4,none⟩ e) (fun k hk=>.inl hk)).trans (Chg.setCell _ ⟨p,5,none⟩ f) (fun k hk=>.inl hk)).trans (Chg.setCell _ ⟨p,6,none⟩ h) (fun k hk=>.inl hk)
theorem Beg.cell7 {w W0 wr:World} {g p:Nat} {F:Nat→Prop} {a b c d e f i:Value} (h:Beg w W0 g F) (hc:Chg W0 wr (At g)) (hg:g < w.heap.size) (hp:w.heap.size+2≤p):(((((((wr.setCell ⟨p,0,none⟩ a).setCell ⟨p,1,none⟩ b).setCell ⟨p,2,none⟩ c).setCell ⟨p,3,none⟩ d).setCell ⟨p,4,none⟩ e).setCell ⟨p,5,none⟩ f).setCell ⟨p,6,none⟩ i).cell? ⟨w.heap.size,0,none⟩=some (.pointer (some ⟨g,0,none⟩)) :=
 cell_of_one ((set7_chg wr p a b c d e f i).blk (hc.blk h.bx (fun e=>by have e:w.heap.size=g:=e;omega)) (fun e=>by have e:w.heap.size=p:=e;omega))
theorem results_c {P:Program} {fn:Func} {p:Tmp} {ty:TypeId} (h:fn.results=#[.cell p ty]) (tmps:Array Value) (w:World) (g:Nat) (t:TypeId) (cs:Array Value) (fr:Nat×Nat) (d:TypeDesc)
  (hp:tmps.getD p undef=.pointer (some ⟨g,0,none⟩)) (hg:w.heap[g]?=some (.cells cs t fr))
  (hu:P.underlying ty=some d) (hd:(match d with|.struct _|.array _ _=>true|_=>false)=true) (hi:(P.info? ty).map (·.size)=some cs.size) :
  (results fn tmps).run P w=.ok (.agg cs) w:=by
 have hp':tmps[p]?.getD undef=.pointer (some ⟨g,0,none⟩):=by simpa using hp
 simp [results,h,hp',asAddr,run_loadVar_row w g t ty cs fr d hg hu hd hi]
theorem nd_new_drew (W:World) (a b c:Int) (d:ByteArray) (e f h:Value):NdAt ((W.alloc (.cells #[.int .i64 a,.int .i64 b,.int .i64 c,.string d,e,f,h] 113)).drew) W.heap.size a b c d e f h:=blk_newN W _
theorem max_succ {M:Int} {i:Nat} (h:(i:Int) < M):((i+1:Nat):Int)≤max M 0:=by omega
theorem cast_succ (i:Nat):Value.int .i64 ((i:Int)+1)=Value.int .i64 ((i+1:Nat):Int):=by rw [Int.natCast_add];rfl
theorem lt_succ {M x:Int} {i:Nat} (h:(i:Int) < M) (hx:x=(i:Int)+1):M.toNat - (intOf (.int .i64 x)).toNat < M.toNat - (intOf (.int .i64 (i:Int))).toNat:=by
 subst hx
 show M.toNat - ((i:Int)+1).toNat < M.toNat - ((i:Int)).toNat
 omega
theorem iter_succ (lv:Int) (s:NS) (i:Nat):iterN lv s (i+1)=stepN lv (iterN lv s i):=rfl
theorem C_of_R {α:Type} {d:Kd α} {e base n c:Nat} {ok:Nat→Prop} {W:World} {A:Option Addr} {xs:List α} (h:d.R e W base ok (.slice A n c) xs):xs.length≤c∧d.C W A xs.length xs:=by
 obtain ⟨A',c',e,h1,h2⟩:=Kd.R_reads h
 injection e with e1 e2 e3
 subst e1;subst e3
 exact ⟨h1,h2⟩
theorem Ok.step {lv:Int} {s:NS} (h:Ok s.xs):Ok (stepN lv s).xs:=by
 unfold stepN
 split
 ·exact (h.text s.wg 252).num _ 4
 ·exact (h.text s.wg 252).text _ 252
theorem St.start {w W0 w3:World} {g p:Nat} {F:Nat→Prop} {xs:List Int} {wg:Int} (hb:Beg w W0 g F) (hc:Chg W0 w3 (At g)) (hr:RdAt w3 g xs wg F) (hn:NdAt w3 p 0 0 0 ⟨#[]⟩ (.slice none 0 0) (.slice none 0 0) (.slice none 0 0)) (hp:w.heap.size+2≤p) (lv lsn rt:Int) (high:ByteArray) :
  St w (((((((w3.setCell ⟨p,0,none⟩ (.int .i64 lv)).setCell ⟨p,1,none⟩ (.int .i64 lsn)).setCell ⟨p,2,none⟩ (.int .i64 rt)).setCell ⟨p,3,none⟩ (.string high)).setCell ⟨p,4,none⟩ (.slice none 0 0)).setCell ⟨p,5,none⟩ (.slice none 0 0)).setCell ⟨p,6,none⟩ (.slice none 0 0)) g p F lv lsn rt high (.slice none 0 0) (.slice none 0 0) (.slice none 0 0) ⟨[],[],[],xs,wg⟩:=by
 have hg:g < w.heap.size:=hb.low g hr.mine
 have key:∀ (a b c d e f h:Value),Chg w3 (((((((w3.setCell ⟨p,0,none⟩ a).setCell ⟨p,1,none⟩ b).setCell ⟨p,2,none⟩ c).setCell ⟨p,3,none⟩ d).setCell ⟨p,4,none⟩ e).setCell ⟨p,5,none⟩ f).setCell ⟨p,6,none⟩ h) (fun k=>k=p):=fun a b c d e f h =>
  ((((((Chg.setCell _ ⟨p,0,none⟩ a).trans (Chg.setCell _ ⟨p,1,none⟩ b) (fun k hk=>.inl hk)).trans (Chg.setCell _ ⟨p,2,none⟩ c) (fun k hk=>.inl hk)).trans (Chg.setCell _ ⟨p,3,none⟩ d) (fun k hk=>.inl hk)).trans (Chg.setCell _ ⟨p,4,none⟩ e) (fun k hk=>.inl hk)).trans (Chg.setCell _ ⟨p,5,none⟩ f) (fun k hk=>.inl hk)).trans (Chg.setCell _ ⟨p,6,none⟩ h) (fun k hk=>.inl hk)
 have c7:=key (.int .i64 lv) (.int .i64 lsn) (.int .i64 rt) (.string high) (.slice none 0 0) (.slice none 0 0) (.slice none 0 0)
 have no:∀ k,Value.ownBlock (.slice none 0 0)=some k→False:=fun k hk=>by simp [Value.ownBlock] at hk
 refine ⟨hr.chg c7 (fun k hk e=>by have e:k=p:=e;have:=hb.low k hk;omega),(hb.ch.trans hc (fun k hk=>.inl hk)).trans c7 (fun k e=>.inr (by have e:k=p:=e;omega)),hb.low,c7.blk (hc.blk hb.bx (fun e=>by have e:w.heap.size=g:=e;omega)) (fun e=>by have e:w.heap.size=p:=e;omega),(hb.rs.chg hc (fun e=>by have e:w.heap.size+1=g:=e;omega)).chg c7 (fun e=>by have e:w.heap.size+1=p:=e;omega),hn.set7 lv lsn rt high _ _ _,hp,Kd.R_nil _ _ _ _ _,Kd.R_nil _ _ _ _ _,Kd.R_nil _ _ _ _ _,fun k hk=>(no k hk).elim,fun k hk=>(no k hk).elim,fun k hk=>(no k hk).elim⟩
theorem St.start2 {w W0 w3:World} {g p:Nat} {F:Nat→Prop} {xs:List Int} {wg lv lsn rt:Int} {high:ByteArray} (hb:Beg w W0 g F) (hc:Chg W0 w3 (At g)) (hr:RdAt w3 g xs wg F) (hn:NdAt w3 p lv lsn rt high (.slice none 0 0) (.slice none 0 0) (.slice none 0 0)) (hp:w.heap.size+2≤p) :
  St w w3 g p F lv lsn rt high (.slice none 0 0) (.slice none 0 0) (.slice none 0 0) ⟨[],[],[],xs,wg⟩:=by
 have hg:g < w.heap.size:=hb.low g hr.mine
 have no:∀ k,Value.ownBlock (.slice none 0 0)=some k→False:=fun k hk=>by simp [Value.ownBlock] at hk
 exact ⟨hr,hb.ch.trans hc (fun k hk=>.inl hk),hb.low,hc.blk hb.bx (fun e=>by have e:w.heap.size=g:=e;omega),hb.rs.chg hc (fun e=>by have e:w.heap.size+1=g:=e;omega),hn,hp,Kd.R_nil _ _ _ _ _,Kd.R_nil _ _ _ _ _,Kd.R_nil _ _ _ _ _,fun k hk=>(no k hk).elim,fun k hk=>(no k hk).elim,fun k hk=>(no k hk).elim⟩
section
variable {w wr w1:World} {g p3:Nat} {F:Nat→Prop} {lv lsn rt:Int} {high:ByteArray} {V4 V5 V6:Value} {s:NS}
theorem St.setHi (h:St w wr g p3 F lv lsn rt high V4 V5 V6 s) (y:ByteArray):St w (wr.setCell ⟨p3,3,none⟩ (.string y)) g p3 F lv lsn rt y V4 V5 V6 s:=by
 have hg:=h.gw
 have hp:=h.pp
 have c2:=Chg.setCell wr ⟨p3,3,none⟩ (.string y)
 have n2:∀ k,k < w.heap.size+2→¬ k=p3:=fun k hk e=>by omega
 have hs:=h.ch.size
 have hnd:=h.nd
 unfold NdAt at hnd
 exact ⟨h.rd.chg c2 (fun k hk=>n2 k (by have:=h.low k hk;omega)),h.ch.trans c2 (fun k e=>.inr (by have e:k=p3:=e;omega)),h.low,c2.blk h.bx (n2 _ (by omega)),h.rs.chg c2 (n2 _ (by omega)),blk_put (cs':=#[.int .i64 lv,.int .i64 lsn,.int .i64 rt,.string y,V4,V5,V6]) hnd 3 _ rfl,h.pp,row_keep rfl h.r4 c2 (fun k hk e=>(h.o4 k hk).2.1 e),row_keep rfl h.r5 c2 (fun k hk e=>(h.o5 k hk).2.1 e),row_keep rfl h.r6 c2 (fun k hk e=>(h.o6 k hk).2 e),h.o4,h.o5,h.o6⟩
theorem St.kid (h:St w wr g p3 F lv lsn rt high V4 V5 V6 s) (x:Int):St w ((wr.alloc (.cells #[.int .i64 x] 3)).setCell ⟨p3,6,none⟩ (.slice (some ⟨wr.heap.size,0,none⟩) 1 1)) g p3 F lv lsn rt high V4 V5 (.slice (some ⟨wr.heap.size,0,none⟩) 1 1) ⟨s.ks,s.vs,[x],s.xs,s.wg⟩:=by
 have hB:Below wr.heap.size wr (wr.alloc (.cells #[.int .i64 x] 3)):=below_alloc (Below.refl _ _) _
 have hs:=h.ch.size
 have hpl:p3 < wr.heap.size:=h.nd.lt
 have hpp:=h.pp
 have hR:Kd.R (Kd.int .i64) 3 (wr.alloc (.cells #[.int .i64 x] 3)) (w.heap.size+2) (fun _=>True) (.slice (some ⟨wr.heap.size,0,none⟩) 1 1) [x] :=
  Kd.R_of_own ⟨rfl,.inr ⟨wr.heap.size,1,#[.int .i64 x],rfl,by omega,blk_newN _ _,Nat.le_refl _,by decide,rfl,rfl⟩⟩ (fun _ _=>trivial)
 have h1:=h.below hB
 have c2:=Chg.setCell (wr.alloc (.cells #[.int .i64 x] 3)) ⟨p3,6,none⟩ (.slice (some ⟨wr.heap.size,0,none⟩) 1 1)
 have n2:∀ k,k < w.heap.size+2→¬ k=p3:=fun k hk e=>by omega
 have own:∀ k,Value.ownBlock (.slice (some ⟨wr.heap.size,0,none⟩) 1 1)=some k→k=wr.heap.size:=fun k hk=>by simpa [Value.ownBlock] using hk.symm
 refine ⟨h1.rd.chg c2 (fun k hk=>n2 k (by have:=h.low k hk;omega)),h1.ch.trans c2 (fun k e=>.inr (by have e:k=p3:=e;omega)),h.low,c2.blk h1.bx (n2 _ (by omega)),h1.rs.chg c2 (n2 _ (by omega)),(nd_put h1.nd _).2.2,h.pp,row_keep rfl h1.r4 c2 (fun k hk e=>(h.o4 k hk).2.1 e),row_keep rfl h1.r5 c2 (fun k hk e=>(h.o5 k hk).2.1 e),row_keep rfl hR c2 (fun k hk e=>by have e:k=p3:=e;have:=own k hk;omega),fun k hk=>⟨(h.o4 k hk).1,(h.o4 k hk).2.1,(h.o4 k hk).2.2.1,fun e=>?_⟩,fun k hk=>⟨(h.o5 k hk).1,(h.o5 k hk).2.1,fun e=>?_⟩,fun k hk=>?_⟩
 ·have:=own k e;have:=(own_lt h.r4 hk).2;omega
 ·have:=own k e;have:=(own_lt h.r5 hk).2;omega
 ·have:=own k hk;omega
end
set_option maxHeartbeats 8000000 in
set_option maxRecDepth 100000 in
theorem node_ok {g:Nat} {xs:List Int} {F:Nat→Prop} {w:World} (hr:RdAt w g xs 0 F) (hx:Ok xs) :
  Calls Try.prog 103 #[.agg #[.pointer (some ⟨g,0,none⟩)]] w fun e w'=>∃ A4 c4 A5 c5 A6 c6,e=.returned (.agg #[.int .i64 (lvR xs).1.1,.int .i64 (lsnR xs).1.1,.int .i64 (rtR xs).1.1,.string (strOfNums (highR xs).1.1),.slice A4 (endN xs).ks.length c4,.slice A5 (endN xs).vs.length c5,.slice A6 (endN xs).ds.length c6])∧Kd.R Kd.string 9 w' (w.heap.size+2) (fun _=>True) (.slice A4 (endN xs).ks.length c4) (endN xs).ks∧Kd.R Kd.string 9 w' (w.heap.size+2) (fun _=>True) (.slice A5 (endN xs).vs.length c5) (endN xs).vs∧Kd.R (Kd.int .i64) 3 w' (w.heap.size+2) (fun _=>True) (.slice A6 (endN xs).ds.length c6) (endN xs).ds∧Chg w w' (At g):=by
 obtain ⟨W0,hW0⟩:∃ W0,W0=(w.alloc (.cells #[.pointer (some ⟨g,0,none⟩)] 159)).alloc (.cells #[.int .i64 0,.int .i64 0,.int .i64 0,.string ⟨#[]⟩,.slice none 0 0,.slice none 0 0,.slice none 0 0] 113):=⟨_,rfl⟩
 have hlow:∀ k,F k→k < w.heap.size:=by obtain ⟨_,_,_,_,_,_,_,h6⟩:=hr;exact h6
 have hg:g < w.heap.size:=hlow g hr.mine
 have hsz:W0.heap.size=w.heap.size+2:=by rw [hW0];simp
 have hbl:Below w.heap.size w W0:=by rw [hW0];exact (below_alloc (Below.refl _ _) _).alloc (by simp) _
 have hbeg:Beg w W0 g F:=⟨Chg.of_below hbl _,hlow,by rw [hW0];exact (below_alloc (Below.refl _ _) _).block _ (by simp) |>.trans (blk_newN _ _),by
  rw [hW0]
  have:=blk_newN (w.alloc (.cells #[.pointer (some ⟨g,0,none⟩)] 159)) (.cells #[.int .i64 0,.int .i64 0,.int .i64 0,.string ⟨#[]⟩,.slice none 0 0,.slice none 0 0,.slice none 0 0] 113)
  have e:(w.alloc (.cells #[.pointer (some ⟨g,0,none⟩)] 159)).heap.size=w.heap.size+1:=by simp
  rw [e] at this
  exact this,by omega⟩
 have HG:=Aside0.mk hg
 have HZ:=Aside0.mk hsz
 have HBG:=Aside0.mk hbeg
 have HX:=Aside0.mk hx
 have HR0:=Aside0.mk (RdT.below (hr.below hbl) (below_drew (Below.refl W0.heap.size W0)))
 have HC0:=Aside0.mk (Chg.refl W0 (At g))
 have HRW:=Aside0.mk (hr.below hbl)
 have HW0:=Aside0.mk hW0
 clear hr hx hlow hsz hbl hbeg
 clear hW0
 go_enter Try.func103,Try.ntmps103
 go_upto_region 1 with (fail)
 rw [← HW0.out]
 have hz:=HZ.out
 clear hg
 clear HW0
 have HK1:Aside0 (∀ W,RdAt W g xs 0 F→Calls Try.prog 110 #[.agg #[.pointer (some ⟨g,0,none⟩)],.int .i64 1] W fun e w'=>e=.returned (.int .i64 (lvR xs).1.1)∧RdAt w' g (lvR xs).2.1 (lvR xs).2.2 F∧Chg W w' (At g)):=⟨fun W h=>num_ok 1 h HX.out.2⟩
 have HK2:Aside0 (∀ W,RdAt W g (lvR xs).2.1 (lvR xs).2.2 F→Calls Try.prog 110 #[.agg #[.pointer (some ⟨g,0,none⟩)],.int .i64 8] W fun e w'=>e=.returned (.int .i64 (lsnR xs).1.1)∧RdAt w' g (lsnR xs).2.1 (lsnR xs).2.2 F∧Chg W w' (At g)):=⟨fun W h=>num_ok 8 h (HX.out.num _ _).2⟩
 have HK3:Aside0 (∀ W,RdAt W g (lsnR xs).2.1 (lsnR xs).2.2 F→Calls Try.prog 110 #[.agg #[.pointer (some ⟨g,0,none⟩)],.int .i64 4] W fun e w'=>e=.returned (.int .i64 (rtR xs).1.1)∧RdAt w' g (rtR xs).2.1 (rtR xs).2.2 F∧Chg W w' (At g)):=⟨fun W h=>num_ok 4 h ((HX.out.num _ _).num _ _).2⟩
 go_cut [3] (fun v3 wx=>∃ p3,v3=.pointer (some ⟨p3,0,none⟩)∧Aside0 (St w wx g p3 F (lvR xs).1.1 (lsnR xs).1.1 (rtR xs).1.1 ⟨#[]⟩ (.slice none 0 0) (.slice none 0 0) (.slice none 0 0) ⟨[],[],[],(rtR xs).2.1,(rtR xs).2.2⟩))
 case first =>
  clear hz
  go_region_held3 (fun w'=>w'.cell? ⟨w.heap.size,0,none⟩=some (.pointer (some ⟨g,0,none⟩)))
   (first|with_reducible exact HBG.out.cell7 HC3.out HG.out (by first|(have:=HZ.out;omega)|(have:=HZ.out;have:=HC1.out.size;omega)|(have:=HZ.out;have:=HC2.out.size;omega))|with_reducible exact HBG.out.cell HC3.out HG.out|with_reducible exact HBG.out.cell (HC3.out.alloc _) HG.out|with_reducible exact HBG.out.cell HC2.out HG.out|with_reducible exact HBG.out.cell (HC2.out.alloc _) HG.out|with_reducible exact HBG.out.cell HC1.out HG.out|with_reducible exact HBG.out.cell (HC1.out.alloc _) HG.out|with_reducible exact HBG.out.cell (HC0.out.alloc _).drew HG.out|with_reducible exact HBG.out.cell HC0.out.drew HG.out)
   (first
    | (go_at_call 110;(with_reducible refine (HK1.out _ (by first|exact HR0.out|exact RdT.below HRW.out (below_drew (below_alloc (Below.refl _ _) _)))).mono ?_);rintro e w1 ⟨rfl,hr1,hc1⟩;(have HR1:=Aside0.mk hr1);(first
      | (have HC1:=Aside0.mk (HC0.out.drew.trans hc1 (fun k hk=>.inl hk)))
      | ((have HC1:=Aside0.mk ((HC0.out.alloc _).drew.trans hc1 (fun k hk=>.inl hk)));(have HN:=Aside0.mk (NdAt.chg (nd_new_drew W0 0 0 0 ⟨#[]⟩ (.slice none 0 0) (.slice none 0 0) (.slice none 0 0)) hc1 (fun e=>by have e:W0.heap.size=g:=e;have:=HG.out;have:=HZ.out;omega)));obtain ⟨⟨n0,n1,n2,n3,n4,n5,n6⟩,⟨m0,m1,m2,m3,m4,m5,m6⟩⟩:=HN.out.cells));clear hr1 hc1)
    | (go_at_call 110;(with_reducible refine (HK2.out _ (by first|exact HR1.out|exact RdT.below HR1.out (below_alloc (Below.refl _ _) _))).mono ?_);rintro e w2 ⟨rfl,hr2,hc2⟩;(have HR2:=Aside0.mk hr2);(first
      | ((have HC2:=Aside0.mk (HC1.out.trans hc2 (fun k hk=>.inl hk)));(first|((have HN2:=Aside0.mk (HN.out.chg hc2 (fun e=>by have e:W0.heap.size=g:=e;have:=HG.out;have:=HZ.out;omega)));clear n0 n1 n2 n3 n4 n5 n6 m0 m1 m2 m3 m4 m5 m6;obtain ⟨⟨n0,n1,n2,n3,n4,n5,n6⟩,⟨m0,m1,m2,m3,m4,m5,m6⟩⟩:=HN2.out.cells)|skip))
      | ((have HC2:=Aside0.mk ((HC1.out.alloc _).trans hc2 (fun k hk=>.inl hk)));(have HN2:=Aside0.mk (NdAt.chg (g:=w1.heap.size) (x0:=0) (x1:=0) (x2:=0) (x3:=⟨#[]⟩) (x4:=.slice none 0 0) (x5:=.slice none 0 0) (x6:=.slice none 0 0) (blk_newN w1 _) hc2 (fun e=>by have e:w1.heap.size=g:=e;have:=HC1.out.size;have:=HG.out;have:=HZ.out;omega)));obtain ⟨⟨n0,n1,n2,n3,n4,n5,n6⟩,⟨m0,m1,m2,m3,m4,m5,m6⟩⟩:=HN2.out.cells));clear hr2 hc2)
    | (go_at_call 110;(with_reducible refine (HK3.out _ (by first|exact HR2.out|exact RdT.below HR2.out (below_alloc (Below.refl _ _) _))).mono ?_);rintro e w3 ⟨rfl,hr3,hc3⟩;(have HR3:=Aside0.mk hr3);(first
      | ((have HC3:=Aside0.mk (HC2.out.trans hc3 (fun k hk=>.inl hk)));(first|((have HN3:=Aside0.mk (HN2.out.chg hc3 (fun e=>by first|(have e:W0.heap.size=g:=e;have:=HG.out;have:=HZ.out;omega)|(have e:w1.heap.size=g:=e;have:=HC1.out.size;have:=HG.out;have:=HZ.out;omega))));clear n0 n1 n2 n3 n4 n5 n6 m0 m1 m2 m3 m4 m5 m6;obtain ⟨⟨n0,n1,n2,n3,n4,n5,n6⟩,⟨m0,m1,m2,m3,m4,m5,m6⟩⟩:=HN3.out.cells)|skip))
      | ((have HC3:=Aside0.mk ((HC2.out.alloc _).trans hc3 (fun k hk=>.inl hk)));(have HN3:=Aside0.mk (NdAt.chg (g:=w2.heap.size) (x0:=0) (x1:=0) (x2:=0) (x3:=⟨#[]⟩) (x4:=.slice none 0 0) (x5:=.slice none 0 0) (x6:=.slice none 0 0) (blk_newN w2 _) hc3 (fun e=>by have e:w2.heap.size=g:=e;have:=HC2.out.size;have:=HG.out;have:=HZ.out;omega)));obtain ⟨⟨n0,n1,n2,n3,n4,n5,n6⟩,⟨m0,m1,m2,m3,m4,m5,m6⟩⟩:=HN3.out.cells));clear hr3 hc3))
  all_goals
   go_wp2_with (fail)
   go_meet
  case rel=>exact ⟨_,rfl,⟨St.start2 HBG.out (HC3.out.alloc _) (RdT.below HR3.out (below_alloc (Below.refl _ _) _)) (blk_newN _ _) (by have:=HZ.out;have:=HC3.out.size;omega)⟩⟩
  case rel=>exact ⟨_,rfl,⟨St.start HBG.out HC3.out HR3.out HN3.out (by have:=HZ.out;have:=HC2.out.size;omega) _ _ _ _⟩⟩
  case rel=>exact ⟨_,rfl,⟨St.start HBG.out HC3.out HR3.out HN3.out (by have:=HZ.out;have:=HC1.out.size;omega) _ _ _ _⟩⟩
  case rel=>exact ⟨_,rfl,⟨St.start HBG.out HC3.out HR3.out HN3.out (by have:=HZ.out;omega) _ _ _ _⟩⟩
 case rest =>
  obtain ⟨p3,rfl,HS⟩:=hcut
  clear HR0 HC0 HRW HK1 HK2 HK3 HBG
  have HO4:=Aside0.mk ((((HX.out.num 0 1).num (lvR xs).2.2 8).num (lsnR xs).2.2 4))
  have HO5:=Aside0.mk (HO4.out.num (rtR xs).2.2 2)
  have HO6:=Aside0.mk (HO5.out.text (manyR xs).2.2 252)
  have hbx:=cell_of_one HS.out.bx
  have hn:Calls Try.prog 110 #[.agg #[.pointer (some ⟨g,0,none⟩)],.int .i64 2] wc fun e w'=>e=.returned (.int .i64 (manyR xs).1.1)∧RdAt w' g (manyR xs).2.1 (manyR xs).2.2 F∧Chg wc w' (At g):=num_ok 2 HS.out.rd HO4.out.2
  go_upto_region 4 with (first
   | (go_at_call 110;(with_reducible refine hn.mono ?_);rintro e w1 ⟨rfl,hr1,hc1⟩;clear hbx;(have HS1:=Aside0.mk (HS.out.read hc1 hr1));(have hbx:=cell_of_one HS1.out.bx);(have ht:Calls Try.prog 111 #[.agg #[.pointer (some ⟨g,0,none⟩)]] w1 fun e w'=>e=.returned (.string (strOfNums (highR xs).1.1))∧RdAt w' g (highR xs).2.1 (highR xs).2.2 F∧Chg w1 w' (At g):=text_ok HS1.out.rd HO5.out);clear hr1 hc1 hn)
   | (go_at_call 111;(with_reducible refine ht.mono ?_);rintro e w2 ⟨rfl,hr2,hc2⟩;clear hbx;(have HS2:=Aside0.mk (HS1.out.read hc2 hr2));obtain ⟨⟨n0,n1,n2,n3,n4,n5,n6⟩,⟨m0,m1,m2,m3,m4,m5,m6⟩⟩:=HS2.out.nd.cells;clear hr2 hc2 ht))
  have HS3:=Aside0.mk (HS2.out.setHi (strOfNums (highR xs).1.1))
  clear n0 n1 n2 n3 n4 n5 n6 m0 m1 m2 m3 m4 m5 m6
  generalize w2.setCell ⟨p3,3,none⟩ (.string (strOfNums (highR xs).1.1))=w3 at HS3 ⊢
  clear HS HS1 HS2
  obtain ⟨⟨n0,n1,n2,n3,n4,n5,n6⟩,⟨m0,m1,m2,m3,m4,m5,m6⟩⟩:=HS3.out.nd.cells
  have hbx:=cell_of_one HS3.out.bx
  go_upto_if 19 with (fail)
  go_cut [] (fun wx=>∃ V6,Aside0 (St w wx g p3 F (lvR xs).1.1 (lsnR xs).1.1 (rtR xs).1.1 (strOfNums (highR xs).1.1) (.slice none 0 0) (.slice none 0 0) V6 (startN xs)))
  case first =>
   have hn:Calls Try.prog 110 #[.agg #[.pointer (some ⟨g,0,none⟩)],.int .i64 4] w3 fun e w'=>e=.returned (.int .i64 (rdNum (highR xs).2.1 (highR xs).2.2 4).1.1)∧RdAt w' g (rdNum (highR xs).2.1 (highR xs).2.2 4).2.1 (rdNum (highR xs).2.1 (highR xs).2.2 4).2.2 F∧Chg w3 w' (At g):=num_ok 4 HS3.out.rd HO6.out.2
   go_wp2_with (first
    | (go_at_call 110;(with_reducible refine hn.mono ?_);rintro e w4 ⟨rfl,hr1,hc1⟩;clear n0 n1 n2 n3 n4 n5 n6 m0 m1 m2 m3 m4 m5 m6 hbx;(have HS4:=Aside0.mk (HS3.out.read hc1 hr1));obtain ⟨⟨n0,n1,n2,n3,n4,n5,n6⟩,⟨m0,m1,m2,m3,m4,m5,m6⟩⟩:=HS4.out.nd.cells;(have hnl:=HS4.out.nd.lt);clear hr1 hc1 hn))
   ·go_meet
    case rel =>
     refine ⟨(.slice (some ⟨w4.heap.size,0,none⟩) 1 1),⟨?_⟩⟩
     have hlv:0 < (lvR xs).1.1:=by assumption
     unfold startN
     rw [if_pos hlv]
     exact (World.setCell_alloc_past _ _ _ _ (HS4.out.nd.lt)) ▸ HS4.out.kid _
   ·go_meet
    case rel =>
     have hlv:¬ 0 < (lvR xs).1.1:=Int.not_lt.2 (by assumption)
     refine ⟨(.slice none 0 0),⟨?_⟩⟩
     unfold startN
     rw [if_neg hlv]
     exact HS3.out
  case rest =>
   obtain ⟨V6,HS⟩:=hcut
   go_upto_region 6 with (fail)
   go_cut [25,26] (fun v25 v26 wx=>v25=.int .i64 (min (manyR xs).1.1 252)∧v26=.int .i64 0∧Aside0 (St w wx g p3 F (lvR xs).1.1 (lsnR xs).1.1 (rtR xs).1.1 (strOfNums (highR xs).1.1) (.slice none 0 0) (.slice none 0 0) V6 (startN xs)))
   case first =>
    go_wp2
    ·go_meet
     case rel =>
      refine ⟨?_,rfl,HS⟩
      congr 1
      omega
    ·go_meet
     case rel =>
      refine ⟨?_,rfl,HS⟩
      congr 1
      omega
   case rest =>
    clear HS
    obtain ⟨rfl,rfl,HS⟩:=hcut
    have HE:Aside0 (endN xs=iterN (lvR xs).1.1 (startN xs) (min (manyR xs).1.1 252).toNat):=⟨rfl⟩
    have hM2:min (manyR xs).1.1 252≤252:=Int.min_le_right _ _
    generalize min (manyR xs).1.1 252=M at *
    have HM:=Aside0.mk hM2
    have hO0:Ok (startN xs).xs:=by
     unfold startN
     split
     ·exact HO6.out.num _ 4
     ·exact HO6.out
    have HO:=Aside0.mk hO0
    have hLS:(startN xs).ks.length=0∧(startN xs).vs.length=0∧(startN xs).ds.length≤1:=by
     unfold startN
     split <;> simp [stepD]
    have HLS:=Aside0.mk hLS
    clear hM2 hO0 hLS HO4 HO5 HO6
    go_wp2
    go_loopw [26] (fun v26 wr=>∃ (i:Nat) (V4 V5 V6:Value),Aside0 ((i:Int)≤max M 0)∧v26=.int .i64 (i:Int)∧Aside0 (Ok (iterN (lvR xs).1.1 (startN xs) i).xs)∧Aside0 (St w wr g p3 F (lvR xs).1.1 (lsnR xs).1.1 (rtR xs).1.1 (strOfNums (highR xs).1.1) V4 V5 V6 (iterN (lvR xs).1.1 (startN xs) i))) (fun v26 _=>M.toNat - (intOf v26).toNat)
    case atStart=>exact ⟨0,_,_,_,⟨by omega⟩,rfl,HO,HS⟩
    case round =>
     clear HS HO
     obtain ⟨i,V4,V5,V6,HI,rfl,HO,HS⟩:=hrel
     have hll:=lens (lvR xs).1.1 (startN xs) i
     have HLL:=Aside0.mk hll
     clear hll
     generalize hs0:iterN (lvR xs).1.1 (startN xs) i=s at HO HS HLL
     have HS0:=Aside0.mk hs0
     clear hs0
     obtain ⟨⟨n0,n1,n2,n3,n4,n5,n6⟩,⟨m0,m1,m2,m3,m4,m5,m6⟩⟩:=HS.out.nd.cells
     have hbx:=cell_of_one HS.out.bx
     by_cases hlt:(i:Int) < M
     ·have d1:decide ((i:Int) < M)=true:=decide_eq_true hlt
      have HLT:=Aside0.mk hlt
      have e1:=eq_true hlt
      clear hlt
      have HOS:=HO
      go_upto_block 1 with (fail)
      go_cut [] (fun wx=>∃ U4 U5 U6,Aside0 (St w wx g p3 F (lvR xs).1.1 (lsnR xs).1.1 (rtR xs).1.1 (strOfNums (highR xs).1.1) U4 U5 U6 (stepN (lvR xs).1.1 s)))
      case first =>
       go_upto_region 8 with (fail)
       go_cut [] (fun wx=>∃ W4,Aside0 (St w wx g p3 F (lvR xs).1.1 (lsnR xs).1.1 (rtR xs).1.1 (strOfNums (highR xs).1.1) W4 V5 V6 (stepK s)))
       case first=>as_aux_lemma =>
        have HT:Aside0 (∀ W,RdAt W g s.xs s.wg F→Calls Try.prog 111 #[.agg #[.pointer (some ⟨g,0,none⟩)]] W fun e w'=>e=.returned (.string (strOfNums (rdText s.xs s.wg 252).1.1))∧RdAt w' g (rdText s.xs s.wg 252).2.1 (rdText s.xs s.wg 252).2.2 F∧Chg W w' (At g)):=⟨fun W h=>text_ok h HO.out⟩
        have HSD:=Aside0.mk (HS.out.below (below_drew (Below.refl _ _)))
        have HCT:Aside0 (s.ks.length≤300):=⟨by
         have h1:=HLL.out.1
         have h2:=HLS.out
         have h3:=HLT.out
         have h4:=HM.out
         show s.ks.length≤300
         omega⟩
        clear HO
        go_region_law (first
          | (refine Kd.R_append_step Kd.string (w0:=w4) (w.heap.size+2) (by simp [Region.wanted]) (.tmp 29) (.tmp 32) 111 9 (.string ⟨#[]⟩) 16 rfl Try.underlying111 infoStr rfl (by decide) (by decide) V4 s.ks (strOfNums (rdText s.xs s.wg 252).1.1) [.string (strOfNums (rdText s.xs s.wg 252).1.1)] (fun _=>True) (fun _=>False) (by simp [Act.eval,Act.put]) (by simp [Act.eval,Act.put]) rfl (fun _ hk=>hk.elim) (fun _ _=>trivial) HS4.out.r4 (Below.refl _ _) (by have:=HS4.out.pp;have:=HS4.out.nd.lt;omega) (by have h1:=HCT.out;omega) ?_;intro v1 w5 ho hb5 hg5 hat5;(have HB5:=Aside0.mk ((Chg.of_grown hg5).blk HS4.out.bx (fun e=>by have h4:=(HS4.out.o4 _ e.symm).1;omega)));(have hcs:=(HS4.out.nd.chg (Chg.of_grown hg5) (fun e=>(HS4.out.o4 p3 e.symm).2.1 rfl)).cells);obtain ⟨A1,q1,rfl⟩:=Kd.R_slice ho;(have hs5:=HS4.out.app4 ho hg5 hat5);(rw [List.length_append,List.length_singleton] at hs5);(have HS5:=Aside0.mk hs5);clear n0 n1 n2 n3 n4 n5 n6 m0 m1 m2 m3 m4 m5 m6;obtain ⟨⟨n0,n1,n2,n3,n4,n5,n6⟩,⟨m0,m1,m2,m3,m4,m5,m6⟩⟩:=hcs;clear ho hb5 hg5 hat5 hs5)
          | (rw [if_pos (by simp [Region.wanted])];go_simp;go_wp2_with (go_at_call 111;(with_reducible refine (HT.out _ HSD.out.rd).mono ?_);rintro e w4 ⟨rfl,hr4,hc4⟩;(have HS4:=Aside0.mk (HSD.out.read hc4 hr4));clear n0 n1 n2 n3 n4 n5 n6 m0 m1 m2 m3 m4 m5 m6;obtain ⟨⟨n0,n1,n2,n3,n4,n5,n6⟩,⟨m0,m1,m2,m3,m4,m5,m6⟩⟩:=HS4.out.nd.cells;(have hnl:=HS4.out.nd.lt);clear hr4 hc4)))
        all_goals
         go_wp2_with (fail)
         go_meet
        all_goals exact ⟨_,HS5⟩
       case rest =>
        clear HS
        obtain ⟨W4,HS⟩:=hcut
        clear n0 n1 n2 n3 n4 n5 n6 m0 m1 m2 m3 m4 m5 m6 hbx
        obtain ⟨⟨n0,n1,n2,n3,n4,n5,n6⟩,⟨m0,m1,m2,m3,m4,m5,m6⟩⟩:=HS.out.nd.cells
        have hbx:=cell_of_one HS.out.bx
        replace HO:=Aside0.mk (HO.out.text s.wg 252)
        have hO2:Ok (stepK s).xs:=HO.out
        replace HO:=Aside0.mk hO2
        clear hO2
        by_cases hlv:(lvR xs).1.1 > 0
        ·as_aux_lemma =>
         have dlv:decide ((lvR xs).1.1 > 0)=true:=decide_eq_true hlv
         have dlw:decide (0 < (lvR xs).1.1)=true:=decide_eq_true hlv
         have HLV:=Aside0.mk hlv
         have elv:=eq_true hlv
         clear hlv
         go_upto_region 10 with (fail)
         have HT:Aside0 (∀ W,RdAt W g (stepK s).xs (stepK s).wg F→Calls Try.prog 110 #[.agg #[.pointer (some ⟨g,0,none⟩)],.int .i64 4] W fun e w'=>e=.returned (.int .i64 (rdNum (stepK s).xs (stepK s).wg 4).1.1)∧RdAt w' g (rdNum (stepK s).xs (stepK s).wg 4).2.1 (rdNum (stepK s).xs (stepK s).wg 4).2.2 F∧Chg W w' (At g)):=⟨fun W h=>num_ok 4 h HO.out.2⟩
         have HSD:=Aside0.mk (HS.out.below (below_drew (Below.refl _ _)))
         have HCT:Aside0 ((stepK s).ds.length≤300):=⟨by
          have h1:=HLL.out.2.2
          have h2:=HLS.out
          have h3:=HLT.out
          have h4:=HM.out
          show s.ds.length≤300
          omega⟩
         clear HO
         go_region_law (first
           | (refine Kd.R_append_step (Kd.int .i64) (w0:=w4) (w.heap.size+2) (by simp [Region.wanted]) (.tmp 39) (.tmp 42) 68 3 (.int .i64 0) 8 rfl Try.underlying68 infoInt rfl (by decide) (by decide) V6 (stepK s).ds (rdNum (stepK s).xs (stepK s).wg 4).1.1 [.int .i64 (rdNum (stepK s).xs (stepK s).wg 4).1.1] (fun _=>True) (fun _=>False) (by simp [Act.eval,Act.put]) (by simp [Act.eval,Act.put]) rfl (fun _ hk=>hk.elim) (fun _ _=>trivial) HS4.out.r6 (Below.refl _ _) (by have:=HS4.out.pp;have:=HS4.out.nd.lt;omega) (by have h1:=HCT.out;omega) ?_;intro v1 w5 ho hb5 hg5 hat5;(have HB5:=Aside0.mk ((Chg.of_grown hg5).blk HS4.out.bx (fun e=>by have h4:=(HS4.out.o6 _ e.symm).1;omega)));(have hcs:=(HS4.out.nd.chg (Chg.of_grown hg5) (fun e=>(HS4.out.o6 p3 e.symm).2 rfl)).cells);obtain ⟨A1,q1,rfl⟩:=Kd.R_slice ho;(have hs5:=HS4.out.app6 ho hg5 hat5);(rw [List.length_append,List.length_singleton] at hs5);(have HS5:=Aside0.mk hs5);clear n0 n1 n2 n3 n4 n5 n6 m0 m1 m2 m3 m4 m5 m6;obtain ⟨⟨n0,n1,n2,n3,n4,n5,n6⟩,⟨m0,m1,m2,m3,m4,m5,m6⟩⟩:=hcs;clear ho hb5 hg5 hat5 hs5)
           | (rw [if_pos (by simp [Region.wanted])];go_simp;go_wp2_with (go_at_call 110;(with_reducible refine (HT.out _ HSD.out.rd).mono ?_);rintro e w4 ⟨rfl,hr4,hc4⟩;(have HS4:=Aside0.mk (HSD.out.read hc4 hr4));clear n0 n1 n2 n3 n4 n5 n6 m0 m1 m2 m3 m4 m5 m6;obtain ⟨⟨n0,n1,n2,n3,n4,n5,n6⟩,⟨m0,m1,m2,m3,m4,m5,m6⟩⟩:=HS4.out.nd.cells;(have hnl:=HS4.out.nd.lt);clear hr4 hc4)))
         all_goals
          go_wp2_with (fail)
          go_meet
         all_goals exact ⟨_,_,_,⟨by unfold stepN;rw [if_pos HLV.out];exact HS5.out⟩⟩
        ·as_aux_lemma =>
         have dlv:decide ((lvR xs).1.1 > 0)=false:=decide_eq_false hlv
         have dlw:decide (0 < (lvR xs).1.1)=false:=decide_eq_false hlv
         have HLV:=Aside0.mk (Int.not_lt.1 hlv)
         have elv:=eq_false hlv
         clear hlv
         go_upto_region 11 with (fail)
         have HT:Aside0 (∀ W,RdAt W g (stepK s).xs (stepK s).wg F→Calls Try.prog 111 #[.agg #[.pointer (some ⟨g,0,none⟩)]] W fun e w'=>e=.returned (.string (strOfNums (rdText (stepK s).xs (stepK s).wg 252).1.1))∧RdAt w' g (rdText (stepK s).xs (stepK s).wg 252).2.1 (rdText (stepK s).xs (stepK s).wg 252).2.2 F∧Chg W w' (At g)):=⟨fun W h=>text_ok h HO.out⟩
         have HSD:=Aside0.mk (HS.out.below (below_drew (Below.refl _ _)))
         have HCT:Aside0 ((stepK s).vs.length≤300):=⟨by
          have h1:=HLL.out.2.1
          have h2:=HLS.out
          have h3:=HLT.out
          have h4:=HM.out
          show s.vs.length≤300
          omega⟩
         clear HO
         go_region_law (first
           | (refine Kd.R_append_step Kd.string (w0:=w4) (w.heap.size+2) (by simp [Region.wanted]) (.tmp 46) (.tmp 49) 111 9 (.string ⟨#[]⟩) 16 rfl Try.underlying111 infoStr rfl (by decide) (by decide) V5 (stepK s).vs (strOfNums (rdText (stepK s).xs (stepK s).wg 252).1.1) [.string (strOfNums (rdText (stepK s).xs (stepK s).wg 252).1.1)] (fun _=>True) (fun _=>False) (by simp [Act.eval,Act.put]) (by simp [Act.eval,Act.put]) rfl (fun _ hk=>hk.elim) (fun _ _=>trivial) HS4.out.r5 (Below.refl _ _) (by have:=HS4.out.pp;have:=HS4.out.nd.lt;omega) (by have h1:=HCT.out;omega) ?_;intro v1 w5 ho hb5 hg5 hat5;(have HB5:=Aside0.mk ((Chg.of_grown hg5).blk HS4.out.bx (fun e=>by have h4:=(HS4.out.o5 _ e.symm).1;omega)));(have hcs:=(HS4.out.nd.chg (Chg.of_grown hg5) (fun e=>(HS4.out.o5 p3 e.symm).2.1 rfl)).cells);obtain ⟨A1,q1,rfl⟩:=Kd.R_slice ho;(have hs5:=HS4.out.app5 ho hg5 hat5);(rw [List.length_append,List.length_singleton] at hs5);(have HS5:=Aside0.mk hs5);clear n0 n1 n2 n3 n4 n5 n6 m0 m1 m2 m3 m4 m5 m6;obtain ⟨⟨n0,n1,n2,n3,n4,n5,n6⟩,⟨m0,m1,m2,m3,m4,m5,m6⟩⟩:=hcs;clear ho hb5 hg5 hat5 hs5)
           | (rw [if_pos (by simp [Region.wanted])];go_simp;go_wp2_with (go_at_call 111;(with_reducible refine (HT.out _ HSD.out.rd).mono ?_);rintro e w4 ⟨rfl,hr4,hc4⟩;(have HS4:=Aside0.mk (HSD.out.read hc4 hr4));clear n0 n1 n2 n3 n4 n5 n6 m0 m1 m2 m3 m4 m5 m6;obtain ⟨⟨n0,n1,n2,n3,n4,n5,n6⟩,⟨m0,m1,m2,m3,m4,m5,m6⟩⟩:=HS4.out.nd.cells;(have hnl:=HS4.out.nd.lt);clear hr4 hc4)))
         all_goals
          go_wp2_with (fail)
          go_meet
         all_goals exact ⟨_,_,_,⟨by unfold stepN;rw [if_neg (Int.not_lt.2 HLV.out)];exact HS5.out⟩⟩
      case rest =>
       clear HS n0 n1 n2 n3 n4 n5 n6 m0 m1 m2 m3 m4 m5 m6 hbx
       obtain ⟨U4,U5,U6,HS⟩:=hcut
       have hw1:wrap64 ((i:Int)+1)=(i:Int)+1:=by
        have h1:=HLT.out
        have h2:=HM.out
        unfold wrap64
        omega
       have HW1:=Aside0.mk hw1
       have HO9:Aside0 (Ok (iterN (lvR xs).1.1 (startN xs) (i+1)).xs):=⟨by
        rw [iterN,HS0.out]
        exact HOS.out.step⟩
       go_wp2_with (fail)
       exact ⟨⟨i+1,U4,U5,U6,⟨max_succ HLT.out⟩,(congrArg (Value.int .i64) HW1.out).trans (cast_succ i),HO9,⟨by rw [iter_succ,HS0.out];exact HS.out⟩⟩,lt_succ HLT.out HW1.out⟩
     ·have d1:decide ((i:Int) < M)=false:=decide_eq_false hlt
      have HLT:=Aside0.mk hlt
      have e1:=eq_false hlt
      clear hlt
      obtain ⟨⟨q0,q1,q2,q3,q4,q5,q6⟩,⟨t0,t1,t2,t3,t4,t5,t6⟩⟩:=HS.out.rs.cells
      obtain ⟨A4,c4,rfl,hc4,hC4⟩:=Kd.R_reads HS.out.r4
      obtain ⟨A5,c5,rfl,hc5,hC5⟩:=Kd.R_reads HS.out.r5
      obtain ⟨A6,c6,rfl,hc6,hC6⟩:=Kd.R_reads HS.out.r6
      have HR7:=Aside0.mk (HS.out.rs.set7 (lvR xs).1.1 (lsnR xs).1.1 (rtR xs).1.1 (strOfNums (highR xs).1.1) (.slice A4 s.ks.length c4) (.slice A5 s.vs.length c5) (.slice A6 s.ds.length c6))
      have hl4:s.ks.length≤9223372036854775807:=hC4.2.1
      have hl5:s.vs.length≤9223372036854775807:=hC5.2.1
      have hl6:s.ds.length≤9223372036854775807:=hC6.2.1
      clear hC4 hC5 hC6
      have he:endN xs=s:=by
       have h1:=HI.out
       have h2:=HLT.out
       rw [HE.out,show M.toNat=i by omega]
       exact HS0.out
      have HEQ:=Aside0.mk he
      clear he
      go_wp2
      refine bodyPost_ret (results_c rfl _ _ (w.heap.size+1) 113 #[.int .i64 (lvR xs).1.1,.int .i64 (lsnR xs).1.1,.int .i64 (rtR xs).1.1,.string (strOfNums (highR xs).1.1),.slice A4 s.ks.length c4,.slice A5 s.vs.length c5,.slice A6 s.ds.length c6] (0,0) _ rfl HR7.out Try.underlying113 rfl (by kernel_rfl)) rfl ?_
      have c7:=set7_chg wr (w.heap.size+1) (.int .i64 (lvR xs).1.1) (.int .i64 (lsnR xs).1.1) (.int .i64 (rtR xs).1.1) (.string (strOfNums (highR xs).1.1)) (.slice A4 s.ks.length c4) (.slice A5 s.vs.length c5) (.slice A6 s.ds.length c6)
      have k4:=(row_keep rfl HS.out.r4 c7 (fun k hk e=>by have e:k=w.heap.size+1:=e;have:=(HS.out.o4 k hk).1;omega))
      have k5:=(row_keep rfl HS.out.r5 c7 (fun k hk e=>by have e:k=w.heap.size+1:=e;have:=(HS.out.o5 k hk).1;omega))
      have k6:=(row_keep rfl HS.out.r6 c7 (fun k hk e=>by have e:k=w.heap.size+1:=e;have:=(HS.out.o6 k hk).1;omega))
      rw [HEQ.out]
      exact ⟨A4,c4,A5,c5,A6,c6,rfl,k4,k5,k6,HS.out.ch.trans c7 (fun k e=>.inr (by have e:k=w.heap.size+1:=e;omega))⟩
end Go.Proofs.Ytgjibcfkjaedfaa.Page
