-- A part of the text NodePut, thinned by a program of this session.
import Derived.Test.YtcocmpblmkdmjaaTNodeBackIns
import Derived.Test.YtcocmpblmkdmjaaTNodeBackNodeLeft
import Derived.Test.YtcocmpblmkdmjaaTNodeBackPrx10
import Derived.Test.YtcocmpblmkdmjaaTNodeBackPrx9
import Derived.Test.YtcocmpblmkdmjaaTNodeBackPrx20
namespace Go.Proofs.Ytcocmpblmkdmjaa.Pr
open Go.RowKit Go.Proofs.YtcocmpblmkdmjaaW.PrintWords Go.Proofs.YtcocmpblmkdmjaaW.PrintLast Go.Proofs.YtcocmpblmkdmjaaW.PrintMore
set_option linter.unusedVariables false
set_option linter.unusedSimpArgs false
theorem RN_set7 {α:Type} {d:Kd α} {e b g:Nat} {w:World} {ok:Nat→Prop} {v:Value} {xs:List α} (h:d.R e w b ok v xs) {x0 x1 x2:Int} {x3:ByteArray} {x4 x5 x6:Value} (hn:NdAt w g x0 x1 x2 x3 x4 x5 x6) (ht:∀ q,q ∈ e::d.E→q≠25) (y0 y1 y2:Int) (y3:ByteArray) (y4 y5 y6:Value):d.R e (((((((w.setCell ⟨g,0,none⟩ (.int .i64 y0)).setCell ⟨g,1,none⟩ (.int .i64 y1)).setCell ⟨g,2,none⟩ (.int .i64 y2)).setCell ⟨g,3,none⟩ (.string y3)).setCell ⟨g,4,none⟩ y4).setCell ⟨g,5,none⟩ y5).setCell ⟨g,6,none⟩ y6) b ok v xs:=by
 have hk:=Kd.R_types h hn ht
 exact Kd.R_mono (Kd.R_far (Kd.R_far (Kd.R_far (Kd.R_far (Kd.R_far (Kd.R_far (Kd.R_far hk (p:=⟨g,0,none⟩) (fun _ hk=>hk.2) _) (p:=⟨g,1,none⟩) (fun _ hk=>hk.2) _) (p:=⟨g,2,none⟩) (fun _ hk=>hk.2) _) (p:=⟨g,3,none⟩) (fun _ hk=>hk.2) _) (p:=⟨g,4,none⟩) (fun _ hk=>hk.2) _) (p:=⟨g,5,none⟩) (fun _ hk=>hk.2) _) (p:=⟨g,6,none⟩) (fun _ hk=>hk.2) _) (fun _ hk=>hk.1)
theorem str_ne:∀ q,q ∈ 9::Kd.string.E→q≠25:=by decide
theorem int_ne:∀ q,q ∈ 3::(Kd.int .i64).E→q≠25:=by decide
def Rows3 (w:World) (base:Nat) (v4:Value) (l4:List ByteArray) (v5:Value) (l5:List ByteArray) (v6:Value) (l6:List Int):Prop :=
 Kd.R Kd.string 9 w base (fun k=>some k≠v5.ownBlock) v4 l4∧Kd.R Kd.string 9 w base (fun k=>some k≠v4.ownBlock) v5 l5∧Kd.R (Kd.int .i64) 3 w base (fun _=>True) v6 l6
section
variable {w w1 w0 W:World} {base:Nat} {v4 v5 v6 v1:Value} {l4 l5 ys:List ByteArray} {l6 zs:List Int}
theorem Rows3.move (h:Rows3 w base v4 l4 v5 l5 v6 l6) (hm:∀ k,k < w.heap.size→(∃ q cells,q≠25∧w.heap[k]?=some (.cells cells q (0,0)))→w1.heap[k]?=w.heap[k]?):Rows3 w1 base v4 l4 v5 l5 v6 l6:=by
 obtain ⟨h4,h5,h6⟩:=h
 refine ⟨Kd.R_mono (Kd.R_move (Kd.R_bound h4) (fun k hk=>?_)) (fun _ hk=>hk.1),Kd.R_mono (Kd.R_move (Kd.R_bound h5) (fun k hk=>?_)) (fun _ hk=>hk.1),Kd.R_mono (Kd.R_move (Kd.R_bound h6) (fun k hk=>?_)) (fun _ hk=>hk.1)⟩
 ·obtain ⟨_,_,hl,q,hq,cells,hc⟩:=hk
  exact hm k hl ⟨q,cells,str_ne q hq,hc⟩
 ·obtain ⟨_,_,hl,q,hq,cells,hc⟩:=hk
  exact hm k hl ⟨q,cells,str_ne q hq,hc⟩
 ·obtain ⟨_,_,hl,q,hq,cells,hc⟩:=hk
  exact hm k hl ⟨q,cells,int_ne q hq,hc⟩
theorem Rows3.below (h:Rows3 w base v4 l4 v5 l5 v6 l6) (hb:Below w.heap.size w w1):Rows3 w1 base v4 l4 v5 l5 v6 l6:=h.move (fun k hk _=>hb.block k hk)
theorem Rows3.lower {b2:Nat} (h:Rows3 w base v4 l4 v5 l5 v6 l6) (hb:b2≤base):Rows3 w b2 v4 l4 v5 l5 v6 l6:=⟨Kd.R_lower h.1 hb,Kd.R_lower h.2.1 hb,Kd.R_lower h.2.2 hb⟩
theorem nd_set {g:Nat} {x0 x1 x2:Int} {x3:ByteArray} {x4 x5 x6:Value} (hn:NdAt w g x0 x1 x2 x3 x4 x5 x6) {k j:Nat} {u:Value} (h:∃ q cells,q≠25∧w.heap[k]?=some (.cells cells q (0,0))):(w.setCell ⟨g,j,none⟩ u).heap[k]?=w.heap[k]?:=by
 obtain ⟨q,cells,hq,hc⟩:=h
 refine Below.heap_setCell w ⟨g,j,none⟩ u k ?_
 rintro rfl
 unfold NdAt at hn
 rw [hc] at hn
 injection hn with hn
 injection hn with _ hn
 exact hq hn
theorem Rows3.set {g:Nat} {x0 x1 x2:Int} {x3:ByteArray} {x4 x5 x6:Value} (h:Rows3 w base v4 l4 v5 l5 v6 l6) (hn:NdAt w g x0 x1 x2 x3 x4 x5 x6) (j:Nat) (u:Value):Rows3 (w.setCell ⟨g,j,none⟩ u) base v4 l4 v5 l5 v6 l6 :=
 h.move (fun k _ hk=>nd_set hn hk)
theorem NdAt.turned {α:Type} {d:Kd α} {e b g:Nat} {ok:Nat→Prop} {v:Value} {xs:List α} {x0 x1 x2:Int} {x3:ByteArray} {x4 x5 x6:Value} (hn:NdAt W g x0 x1 x2 x3 x4 x5 x6) (h:Kd.R d e W b ok v xs) (he:e≠25) (hg:W.grownBy w1 v.ownBlock):NdAt w1 g x0 x1 x2 x3 x4 x5 x6 :=
 (hg.block g hn.lt (Kd.R_ne h hn he)).trans hn
theorem Rows3.turn4 (h:Rows3 W base v4 l4 v5 l5 v6 l6) (t:Turned Kd.string 9 base (fun _=>True) w0 W v4 ys v1 w1):Rows3 w1 base v1 ys v5 l5 v6 l6:=by
 obtain ⟨h4,h5,h6⟩:=h
 obtain ⟨t1,_,tg,ta⟩:=t
 have hne:∀ k,v1.ownBlock=some k→some k≠v5.ownBlock:=by
  intro k hk e
  rcases ta with ta|⟨b,hb,hl⟩
  ·exact h4.1 k (by rw [← ta];exact hk) e
  ·rw [hb] at hk
   injection hk with hk
   subst hk
   have:=Kd.R_lt h5 _ e.symm
   omega
 refine ⟨Kd.R_reok rfl t1 hne,?_,Kd.R_over h6 h4 (by decide) tg⟩
 exact Kd.R_reok rfl (Kd.R_grown2 h5 rfl tg (fun k hk=>h4.1 k hk)) (fun k hk e=>hne k e.symm hk.symm)
theorem Rows3.turn5 (h:Rows3 W base v4 l4 v5 l5 v6 l6) (t:Turned Kd.string 9 base (fun _=>True) w0 W v5 ys v1 w1):Rows3 w1 base v4 l4 v1 ys v6 l6:=by
 obtain ⟨h4,h5,h6⟩:=h
 obtain ⟨t1,_,tg,ta⟩:=t
 have hne:∀ k,v1.ownBlock=some k→some k≠v4.ownBlock:=by
  intro k hk e
  rcases ta with ta|⟨b,hb,hl⟩
  ·exact h5.1 k (by rw [← ta];exact hk) e
  ·rw [hb] at hk
   injection hk with hk
   subst hk
   have:=Kd.R_lt h4 _ e.symm
   omega
 refine ⟨?_,Kd.R_reok rfl t1 hne,Kd.R_over h6 h5 (by decide) tg⟩
 exact Kd.R_reok rfl (Kd.R_grown2 h4 rfl tg (fun k hk=>h5.1 k hk)) (fun k hk e=>hne k e.symm hk.symm)
theorem Rows3.put5 {g n cap:Nat} (h:Rows3 w base v4 l4 (.slice (some ⟨g,0,none⟩) n cap) l5 v6 l6) (i:Nat) (hi:i < l5.length) (x:ByteArray):(∃ y,w.cell? ⟨g,i,none⟩=some (.string y))∧w.frozen? ⟨g,i,none⟩=false∧Rows3 (w.setCell ⟨g,i,none⟩ (.string x)) base v4 l4 (.slice (some ⟨g,0,none⟩) n cap) (l5.set i x) v6 l6∧(∀ g2 x0 x1 x2 x3 x4 x5 x6,NdAt w g2 x0 x1 x2 x3 x4 x5 x6→g≠g2∧NdAt (w.setCell ⟨g,i,none⟩ (.string x)) g2 x0 x1 x2 x3 x4 x5 x6):=by
 obtain ⟨h4,h5,h6⟩:=h
 have hown:w.ownsRow base 9 1 (.slice (some ⟨g,0,none⟩) n cap) l5.length (encs (Value.string) l5):=Kd.own_of_R h5
 obtain ⟨hcl,ho⟩:=hown
 rcases ho with ⟨hv,_⟩|⟨g1,c1,cur,hv,hg,hh,hnc,hcm,hcs,htk⟩
 ·cases hv
 ·injection hv with ha hn hc
  injection ha with ha
  injection ha with ha
  subst ha hn hc
  rw [Nat.mul_one] at htk hcs
  have hci:cur[i]?=some (.string l5[i]):=by
   have h1:(encs Value.string l5)[i]?=some (.string l5[i]):=by simp [encs,hi]
   rw [← htk,List.getElem?_take,if_pos hi,Array.getElem?_toList] at h1
   exact h1
  refine ⟨⟨l5[i],by simp [World.cell?,hh,hci]⟩,frozen_of hh i,⟨?_,?_,?_⟩,?_⟩
  ·exact Kd.R_far h4 (p:=⟨g,i,none⟩) (fun k hk e=>hk (by rw [e];rfl)) _
  ·refine Kd.R_of_own ?_ (fun k hk=>h5.1 k hk)
   have he:encs Value.string (l5.set i x)=(encs Value.string l5).set i (.string x):=by simp [encs,List.map_set]
   rw [he,List.length_set]
   refine ⟨by rw [List.length_set];exact hcl,.inr ⟨g,cap,_,rfl,hg,setCell_heap hh,hnc,hcm,by rw [Array.size_setIfInBounds,Nat.mul_one,hcs],?_⟩⟩
   rw [Nat.mul_one,← htk,Array.toList_setIfInBounds,List.take_set]
  ·exact Kd.R_set h6 hh (by decide) i _
  ·intro g2 x0 x1 x2 x3 x4 x5 x6 hn
   have hne:g≠g2:=by
    rintro rfl
    unfold NdAt at hn
    rw [hh] at hn
    injection hn with hn
    injection hn with _ hn
    exact absurd hn (by decide)
   exact ⟨hne,(Below.heap_setCell w ⟨g,i,none⟩ _ g2 (fun e=>hne e.symm)).trans hn⟩
end
theorem right_rows (k:Nat) (a0_0 a0_1 a0_2:Int) (a0_3:ByteArray) (v4:Value) (l4:List ByteArray) (v5:Value) (l5:List ByteArray) (v6:Value) (l6:List Int) (r1 r2 r3:Int) (r4:ByteArray) (r5 r6:List ByteArray) (r7:List Int) (r8:Int) (w0 w:World) (hB:Below w0.heap.size w0 w) (h3:Rows3 w w0.heap.size v4 l4 v5 l5 v6 l6) (h:node_right.f k a0_0 a0_1 a0_2 a0_3 l4 l5 l6=some (r1,r2,r3,r4,r5,r6,r7,r8)) :
  Calls Try.prog 51 #[.agg #[.int .i64 a0_0,.int .i64 a0_1,.int .i64 a0_2,.string a0_3,v4,v5,v6]] w fun e w'=>∃ v4_ v5_ v6_:Value,e=.returned (.tuple #[.agg #[.int .i64 r1,.int .i64 r2,.int .i64 r3,.string r4,v4_,v5_,v6_],.int .i64 r8])∧Rows3 w' w0.heap.size v4_ r5 v5_ r6 v6_ r7∧Below w0.heap.size w0 w'∧∀ g x0 x1 x2 x3 x4 x5 x6,NdAt w g x0 x1 x2 x3 x4 x5 x6→NdAt w' g x0 x1 x2 x3 x4 x5 x6:=by
 refine (node_right.calls k a0_0 a0_1 a0_2 a0_3 (fun k=>some k=v4.ownBlock) v4 l4 (fun k=>some k=v5.ownBlock) v5 l5 (fun k=>some k=v6.ownBlock) v6 l6 r1 r2 r3 r4 r5 r6 r7 r8 w0 w hB (Kd.R_tight rfl h3.1) (fun k e1 e2=>h3.1.1 k e1.symm e2) (Kd.R_tight rfl h3.2.1) (fun k e1 e2=>h3.2.1.1 k e1.symm e2) (Kd.R_tight rfl h3.2.2) h).mono ?_
 rintro e w' ⟨v4_,v5_,v6_,rfl,h4,h5,h6,hB',hK⟩
 refine ⟨v4_,v5_,v6_,rfl,⟨Kd.R_mono h4 (fun _ hk=>hk.2),Kd.R_mono h5 (fun _ hk=>hk.2),Kd.R_mono h6 (fun _ _=>trivial)⟩,hB',?_⟩
 intro g x0 x1 x2 x3 x4 x5 x6 hn
 refine (hK.2 g hn.lt ?_).trans hn
 rintro (e1|e1|e1)
 ·exact Kd.R_ne h3.1 hn (by decide) e1
 ·exact Kd.R_ne h3.2.1 hn (by decide) e1
 ·exact Kd.R_ne h3.2.2 hn (by decide) e1
def putG (k:Nat) (a0_0:Int) (a0_1:Int) (a0_2:Int) (a0_3:ByteArray) (l0_4:List ByteArray) (l0_5:List ByteArray) (l0_6:List Int) (a1 a2:ByteArray):Option (Int×Int×Int×ByteArray×List ByteArray×List ByteArray×List Int×Int) :=
 (node_asked.f k a0_0 a0_1 a0_2 a0_3 l0_4 l0_5 l0_6 a1 a2 1 0).bind fun e=>if e=0 then
  if l0_4.length≤8796093022000∧l0_5.length≤8796093022000∧l0_6.length≤8796093022000 then
   (key_Place.f l0_4 a1).bind fun p =>
    if p.2=true then
     if 0≤p.1∧p.1 < (l0_5.length:Int) then node_right.f k a0_0 a0_1 a0_2 a0_3 l0_4 (l0_5.set p.1.toNat a2) l0_6 else none
    else if 0≤p.1∧p.1≤(l0_4.length:Int)∧p.1≤(l0_5.length:Int) then node_right.f k a0_0 a0_1 a0_2 a0_3 (l0_4.take p.1.toNat++a1::l0_4.drop p.1.toNat) (l0_5.take p.1.toNat++a2::l0_5.drop p.1.toNat) l0_6 else none
  else none
 else leftZ e
set_option maxHeartbeats 8000000 in
set_option maxRecDepth 100000 in
theorem put_calls (k:Nat) (a0_0:Int) (a0_1:Int) (a0_2:Int) (a0_3:ByteArray) (A0_4:Option Addr) (c0_4:Nat) (l0_4:List ByteArray) (A0_5:Option Addr) (c0_5:Nat) (l0_5:List ByteArray) (A0_6:Option Addr) (c0_6:Nat) (l0_6:List Int) (a1 a2:ByteArray) (r1 r2 r3:Int) (r4:ByteArray) (r5 r6:List ByteArray) (r7:List Int) (r8:Int) (w:World) (hr0_4:Kd.C Kd.string w A0_4 l0_4.length l0_4) (hc0_4:l0_4.length≤c0_4) (hr0_5:Kd.C Kd.string w A0_5 l0_5.length l0_5) (hc0_5:l0_5.length≤c0_5) (hr0_6:Kd.C (Kd.int .i64) w A0_6 l0_6.length l0_6) (hc0_6:l0_6.length≤c0_6) (h:putG k a0_0 a0_1 a0_2 a0_3 l0_4 l0_5 l0_6 a1 a2=some (r1,r2,r3,r4,r5,r6,r7,r8)) :
  Calls Try.prog 28 #[.agg #[.int .i64 a0_0,.int .i64 a0_1,.int .i64 a0_2,.string a0_3,.slice A0_4 l0_4.length c0_4,.slice A0_5 l0_5.length c0_5,.slice A0_6 l0_6.length c0_6],.string a1,.string a2] w fun e w'=>∃ v4_ v5_ v6_:Value,e=.returned (.tuple #[.agg #[.int .i64 r1,.int .i64 r2,.int .i64 r3,.string r4,v4_,v5_,v6_],.int .i64 r8])∧Kd.R Kd.string 9 w' w.heap.size (fun k_=>some k_≠(v5_:Value).ownBlock) v4_ r5∧Kd.R Kd.string 9 w' w.heap.size (fun k_=>some k_≠(v4_:Value).ownBlock) v5_ r6∧Kd.R (Kd.int .i64) 3 w' w.heap.size (fun _=>True) v6_ r7∧Below w.heap.size w w':=by
 unfold putG at h
 obtain ⟨e,hp,h⟩:=Option.bind_eq_some_iff.1 h
 have hsz:(w.alloc (.cells #[.int .i64 a0_0,.int .i64 a0_1,.int .i64 a0_2,.string a0_3,.slice A0_4 l0_4.length c0_4,.slice A0_5 l0_5.length c0_5,.slice A0_6 l0_6.length c0_6] 25)).heap.size=w.heap.size+1:=by
  show (w.heap.push _).size=_
  simp
 have HX:Aside0 (NdAt ((w.alloc (.cells #[.int .i64 a0_0,.int .i64 a0_1,.int .i64 a0_2,.string a0_3,.slice A0_4 l0_4.length c0_4,.slice A0_5 l0_5.length c0_5,.slice A0_6 l0_6.length c0_6] 25)).alloc (.cells #[.int .i64 0,.int .i64 0,.int .i64 0,.string ⟨#[]⟩,.slice none 0 0,.slice none 0 0,.slice none 0 0] 25)) w.heap.size a0_0 a0_1 a0_2 a0_3 (.slice A0_4 l0_4.length c0_4) (.slice A0_5 l0_5.length c0_5) (.slice A0_6 l0_6.length c0_6)):=⟨NdAt.below (blk_newN _ _) (below_alloc (Below.refl _ _) _)⟩
 have HQ:Aside0 (NdAt ((w.alloc (.cells #[.int .i64 a0_0,.int .i64 a0_1,.int .i64 a0_2,.string a0_3,.slice A0_4 l0_4.length c0_4,.slice A0_5 l0_5.length c0_5,.slice A0_6 l0_6.length c0_6] 25)).alloc (.cells #[.int .i64 0,.int .i64 0,.int .i64 0,.string ⟨#[]⟩,.slice none 0 0,.slice none 0 0,.slice none 0 0] 25)) (w.heap.size+1) 0 0 0 ⟨#[]⟩ (.slice none 0 0) (.slice none 0 0) (.slice none 0 0)):=⟨by rw [← hsz];exact blk_newN _ _⟩
 have hB0:Below w.heap.size w ((w.alloc (.cells #[.int .i64 a0_0,.int .i64 a0_1,.int .i64 a0_2,.string a0_3,.slice A0_4 l0_4.length c0_4,.slice A0_5 l0_5.length c0_5,.slice A0_6 l0_6.length c0_6] 25)).alloc (.cells #[.int .i64 0,.int .i64 0,.int .i64 0,.string ⟨#[]⟩,.slice none 0 0,.slice none 0 0,.slice none 0 0] 25)):=below_alloc (below_alloc (Below.refl _ _) _) _
 have HB0:=Aside0.mk hB0
 have hask:=node_asked.calls k a0_0 a0_1 a0_2 a0_3 A0_4 c0_4 l0_4 A0_5 c0_5 l0_5 A0_6 c0_6 l0_6 a1 a2 1 0 e _ (Kd.C_below hr0_4 hB0) hc0_4 (Kd.C_below hr0_5 hB0) hc0_5 (Kd.C_below hr0_6 hB0) hc0_6 hp
 by_cases he:e=0
 case neg =>
  rw [if_neg he] at h
  have d0:(e != 0)=true:=by simp [he]
  unfold leftZ at h
  simp only [Option.some.injEq,Prod.mk.injEq] at h
  obtain ⟨rfl,rfl,rfl,rfl,rfl,rfl,rfl,rfl⟩:=h
  clear he hp hB0 hsz hr0_4 hr0_5 hr0_6 hc0_4 hc0_5 hc0_6
  go_enter Try.func28,Try.ntmps28
  go_wp2_with (go_at_call 44;refine hask.mono ?_;rintro r w2 ⟨rfl,hB2⟩;(have hq:=HQ.out.below hB2);obtain ⟨⟨_,_,_,_,_,_,_⟩,f0,f1,f2,f3,f4,f5,f6⟩:=hq.cells;(have HQ2:=Aside0.mk hq);(have l2:=hq.lt);(have HB2:=Aside0.mk (below_from2 HB0.out (Nat.le_refl _) hB2));clear hB2 hask hq)
  refine bodyPost_ret (results_ct rfl _ _ (w.heap.size+1) 25 #[.int .i64 0,.int .i64 0,.int .i64 0,.string ⟨#[]⟩,.slice none 0 0,.slice none 0 0,.slice none 0 0] (0,0) _ rfl (HQ2.out.set7 0 0 0 ⟨#[]⟩ (.slice none 0 0) (.slice none 0 0) (.slice none 0 0)) Try.underlying25 rfl (by kernel_rfl)) rfl ?_
  exact ⟨_,_,_,rfl,Kd.R_nil _ _ _ _ _,Kd.R_nil _ _ _ _ _,Kd.R_nil _ _ _ _ _,below_set7 HB2.out (by omega)⟩
 rw [if_pos he] at h
 by_cases hb:l0_4.length≤8796093022000∧l0_5.length≤8796093022000∧l0_6.length≤8796093022000
 case neg=>rw [if_neg hb] at h;cases h
 rw [if_pos hb] at h
 obtain ⟨hn4,hn5,hn6⟩:=hb
 obtain ⟨⟨i,there⟩,hpl,h⟩:=Option.bind_eq_some_iff.1 h
 dsimp only at h
 have d0:(e != 0)=false:=by simp [he]
 have how:node_own.f a0_0 a0_1 a0_2 a0_3 l0_4 l0_5 l0_6=some (a0_0,a0_1,a0_2,a0_3,l0_4,l0_5,l0_6):=by
  unfold node_own.f slices_Clone_string_string.f slices_Clone_int_int.f
  rw [if_pos (by omega),if_pos (by omega),if_pos (by omega)]
  rfl
 have HOWN:=Aside0.mk (fun W (hB:Below w.heap.size w W)=>node_own.calls a0_0 a0_1 a0_2 a0_3 A0_4 c0_4 l0_4 A0_5 c0_5 l0_5 A0_6 c0_6 l0_6 a0_0 a0_1 a0_2 a0_3 l0_4 l0_5 l0_6 W (Kd.C_below hr0_4 hB) hc0_4 (Kd.C_below hr0_5 hB) hc0_5 (Kd.C_below hr0_6 hB) hc0_6 how)
 have HPL:=Aside0.mk (fun W (hB:Below w.heap.size w W)=>key_Place.calls A0_4 c0_4 l0_4 a1 i there W (Kd.C_below hr0_4 hB) hc0_4 hpl)
 have HN:=Aside0.mk (And.intro hn4 (And.intro hn5 hn6))
 have hz4:l0_4.length≤9223372036854775807:=by omega
 have hz5:l0_5.length≤9223372036854775807:=by omega
 have hz6:l0_6.length≤9223372036854775807:=by omega
 clear hp hB0 hsz hc0_4 hc0_5 hc0_6 how hpl hr0_4 hr0_5 hr0_6 hn4 hn5 hn6 he
 cases there with
 | true =>
  rw [if_pos rfl] at h
  by_cases hb:0≤i∧i < (l0_5.length:Int)
  case neg=>rw [if_neg hb] at h;cases h
  rw [if_pos hb] at h
  obtain ⟨hi0,hi5⟩:=hb
  obtain ⟨n,rfl⟩:=Int.eq_ofNat_of_zero_le hi0
  rw [Int.toNat_natCast] at h
  have hn5:n < l0_5.length:=by omega
  have HP5:Aside0 (0 < l0_5.length):=⟨by omega⟩
  have HN5:=Aside0.mk hn5
  have HH:=Aside0.mk h
  clear h
  go_enter Try.func28,Try.ntmps28
  go_wp2_with (first
   | (go_at_call 44;(with_reducible refine hask.mono ?_);rintro r w2 ⟨rfl,hB2⟩;(have hx2:=HX.out.below hB2);obtain ⟨⟨b0,b1,b2,b3,b4,b5,b6⟩,_⟩:=hx2.cells;(have HX2:=Aside0.mk hx2);(have HQ2:=Aside0.mk (HQ.out.below hB2));(have HB2:=Aside0.mk (below_from2 HB0.out (Nat.le_refl _) hB2));(have how:=HOWN.out w2 HB2.out);clear hB2 hask hx2)
   | (go_at_call 38;(with_reducible refine how.mono ?_);rintro r w3 ⟨v4,v5,v6,rfl,hR4,hR5,hR6,hB3⟩;(have hR3:Rows3 w3 w2.heap.size v4 l0_4 v5 l0_5 v6 l0_6:=⟨hR4,hR5,hR6⟩);obtain ⟨B4,d4,rfl,_,_⟩:=Kd.R_reads hR4;obtain ⟨g5,d5,rfl,hg5,_⟩:=Kd.R_form hR5 HP5.out;(have HG5:=Aside0.mk (Nat.le_trans HB2.out.size hg5));clear hg5;obtain ⟨B6,d6,rfl,_,_⟩:=Kd.R_reads hR6;(have hx3:=HX2.out.below hB3);clear b0 b1 b2 b3 b4 b5 b6;obtain ⟨⟨b0,b1,b2,b3,b4,b5,b6⟩,_⟩:=hx3.cells;(have l3:=hx3.lt);(have HX3:=Aside0.mk hx3);(have HQ3:=Aside0.mk (HQ2.out.below hB3));(have HB3:=Aside0.mk (below_from2 HB2.out (Nat.le_refl _) hB3));(have HR3:=Aside0.mk ((hR3.lower HB2.out.size).below (below_alloc (Below.refl _ _) (.cells #[.int .i64 a0_0,.int .i64 a0_1,.int .i64 a0_2,.string a0_3,.slice B4 l0_4.length d4,.slice (some ⟨g5,0,none⟩) l0_5.length d5,.slice B6 l0_6.length d6] 25))));(have HO3:Aside0 (NdAt (w3.alloc (.cells #[.int .i64 a0_0,.int .i64 a0_1,.int .i64 a0_2,.string a0_3,.slice B4 l0_4.length d4,.slice (some ⟨g5,0,none⟩) l0_5.length d5,.slice B6 l0_6.length d6] 25)) w3.heap.size a0_0 a0_1 a0_2 a0_3 (.slice B4 l0_4.length d4) (.slice (some ⟨g5,0,none⟩) l0_5.length d5) (.slice B6 l0_6.length d6)):=⟨blk_newN _ _⟩);clear hR3 hR4 hR5 hR6 hB3 how hx3)
   | (go_at_call 45;(with_reducible refine (HPL.out _ (below_alloc HB3.out (.cells #[.int .i64 a0_0,.int .i64 a0_1,.int .i64 a0_2,.string a0_3,.slice B4 l0_4.length d4,.slice (some ⟨g5,0,none⟩) l0_5.length d5,.slice B6 l0_6.length d6] 25))).mono ?_);rintro r w5 ⟨rfl,hB5⟩;clear b0 b1 b2 b3 b4 b5 b6 l3;(have ho5:=HO3.out.below hB5);obtain ⟨⟨b0,b1,b2,b3,b4,b5,b6⟩,_⟩:=ho5.cells;(have l5:=ho5.lt);(have HO5:=Aside0.mk ho5);(have HQ5:=Aside0.mk ((HQ3.out.below (below_alloc (Below.refl _ _) (.cells #[.int .i64 a0_0,.int .i64 a0_1,.int .i64 a0_2,.string a0_3,.slice B4 l0_4.length d4,.slice (some ⟨g5,0,none⟩) l0_5.length d5,.slice B6 l0_6.length d6] 25))).below hB5));(have HB5:=Aside0.mk (below_from2 (below_alloc HB3.out (.cells #[.int .i64 a0_0,.int .i64 a0_1,.int .i64 a0_2,.string a0_3,.slice B4 l0_4.length d4,.slice (some ⟨g5,0,none⟩) l0_5.length d5,.slice B6 l0_6.length d6] 25)) (Nat.le_refl _) hB5));(have HR5:=Aside0.mk (HR3.out.below hB5));clear hB5 ho5;obtain ⟨⟨y5,hy5⟩,hfz5,hR6,hN6⟩:=HR5.out.put5 n HN5.out a2;(have hne5:=(hN6 _ _ _ _ _ _ _ _ HO5.out).1);(have hne5':=fun e=>hne5 (Eq.symm e));(have HN6:=Aside0.mk hN6);(have hrt:=right_rows k a0_0 a0_1 a0_2 a0_3 _ _ _ _ _ _ r1 r2 r3 r4 r5 r6 r7 r8 w _ (below_setN HB5.out HG5.out) hR6 HH.out);clear hN6 hR6)
   | (go_at_call 51;(with_reducible refine hrt.mono ?_);rintro r w9 ⟨v4_,v5_,v6_,rfl,hR9,hB9,hK9⟩;obtain ⟨C7,e7,rfl,_,_⟩:=Kd.R_reads hR9.1;obtain ⟨C8,e8,rfl,_,_⟩:=Kd.R_reads hR9.2.1;obtain ⟨C9,e9,rfl,_,_⟩:=Kd.R_reads hR9.2.2;(have hq9:=hK9 _ _ _ _ _ _ _ _ (HN6.out _ _ _ _ _ _ _ _ HQ5.out).2);obtain ⟨_,f0,f1,f2,f3,f4,f5,f6⟩:=hq9.cells;(have lq:=hq9.lt);(have HQ9:=Aside0.mk hq9);(have HR9:=Aside0.mk hR9);(have HB9:=Aside0.mk hB9);clear hR9 hB9 hK9 hq9 hrt))
  refine bodyPost_ret (results_ct rfl _ _ (w.heap.size+1) 25 #[.int .i64 r1,.int .i64 r2,.int .i64 r3,.string r4,.slice C7 r5.length e7,.slice C8 r6.length e8,.slice C9 r7.length e9] (0,0) _ rfl (HQ9.out.set7 r1 r2 r3 r4 (.slice C7 r5.length e7) (.slice C8 r6.length e8) (.slice C9 r7.length e9)) Try.underlying25 rfl (by kernel_rfl)) rfl ?_
  exact ⟨_,_,_,rfl,RN_set7 HR9.out.1 HQ9.out str_ne _ _ _ _ _ _ _,RN_set7 HR9.out.2.1 HQ9.out str_ne _ _ _ _ _ _ _,RN_set7 HR9.out.2.2 HQ9.out int_ne _ _ _ _ _ _ _,below_set7 HB9.out (by omega)⟩
 | false =>
  rw [if_neg (by decide)] at h
  by_cases hb:0≤i∧i≤(l0_4.length:Int)∧i≤(l0_5.length:Int)
  case neg=>rw [if_neg hb] at h;cases h
  rw [if_pos hb] at h
  obtain ⟨hi0,hi4,hi5⟩:=hb
  obtain ⟨n,rfl⟩:=Int.eq_ofNat_of_zero_le hi0
  rw [Int.toNat_natCast] at h
  obtain ⟨ys,hys⟩:∃ ys,ys=l0_4.take n++a1::l0_4.drop n:=⟨_,rfl⟩
  obtain ⟨zs,hzs⟩:∃ zs,zs=l0_5.take n++a2::l0_5.drop n:=⟨_,rfl⟩
  rw [← hys,← hzs] at h
  have HI:Aside0 (n≤l0_4.length∧n≤l0_5.length):=⟨by omega,by omega⟩
  have HYS:=Aside0.mk hys
  have HZS:=Aside0.mk hzs
  have HH:=Aside0.mk h
  clear h hys hzs hi4 hi5
  go_enter Try.func28,Try.ntmps28
  go_wp2_with (first
   | (go_at_call 44;(with_reducible refine hask.mono ?_);rintro r w2 ⟨rfl,hB2⟩;(have hx2:=HX.out.below hB2);obtain ⟨⟨b0,b1,b2,b3,b4,b5,b6⟩,_⟩:=hx2.cells;(have HX2:=Aside0.mk hx2);(have HQ2:=Aside0.mk (HQ.out.below hB2));(have HB2:=Aside0.mk (below_from2 HB0.out (Nat.le_refl _) hB2));(have how:=HOWN.out w2 HB2.out);clear hB2 hask hx2)
   | (go_at_call 38;(with_reducible refine how.mono ?_);rintro r w3 ⟨v4,v5,v6,rfl,hR4,hR5,hR6,hB3⟩;(have hR3:Rows3 w3 w2.heap.size v4 l0_4 v5 l0_5 v6 l0_6:=⟨hR4,hR5,hR6⟩);obtain ⟨B4,d4,rfl,_,_⟩:=Kd.R_reads hR4;obtain ⟨B5,d5,rfl,_,_⟩:=Kd.R_reads hR5;obtain ⟨B6,d6,rfl,_,_⟩:=Kd.R_reads hR6;(have hx3:=HX2.out.below hB3);clear b0 b1 b2 b3 b4 b5 b6;obtain ⟨⟨b0,b1,b2,b3,b4,b5,b6⟩,_⟩:=hx3.cells;(have l3:=hx3.lt);(have HX3:=Aside0.mk hx3);(have HQ3:=Aside0.mk (HQ2.out.below hB3));(have HB3:=Aside0.mk (below_from2 HB2.out (Nat.le_refl _) hB3));(have HR3:=Aside0.mk ((hR3.lower HB2.out.size).below (below_alloc (Below.refl _ _) (.cells #[.int .i64 a0_0,.int .i64 a0_1,.int .i64 a0_2,.string a0_3,.slice B4 l0_4.length d4,.slice B5 l0_5.length d5,.slice B6 l0_6.length d6] 25))));(have HO3:Aside0 (NdAt (w3.alloc (.cells #[.int .i64 a0_0,.int .i64 a0_1,.int .i64 a0_2,.string a0_3,.slice B4 l0_4.length d4,.slice B5 l0_5.length d5,.slice B6 l0_6.length d6] 25)) w3.heap.size a0_0 a0_1 a0_2 a0_3 (.slice B4 l0_4.length d4) (.slice B5 l0_5.length d5) (.slice B6 l0_6.length d6)):=⟨blk_newN _ _⟩);clear hR3 hR4 hR5 hR6 hB3 how hx3)
   | (go_at_call 45;(with_reducible refine (HPL.out _ (below_alloc HB3.out (.cells #[.int .i64 a0_0,.int .i64 a0_1,.int .i64 a0_2,.string a0_3,.slice B4 l0_4.length d4,.slice B5 l0_5.length d5,.slice B6 l0_6.length d6] 25))).mono ?_);rintro r w5 ⟨rfl,hB5⟩;clear b0 b1 b2 b3 b4 b5 b6 l3;(have ho5:=HO3.out.below hB5);obtain ⟨⟨b0,b1,b2,b3,b4,b5,b6⟩,_⟩:=ho5.cells;(have l5:=ho5.lt);(have HO5:=Aside0.mk ho5);(have HQ5:=Aside0.mk ((HQ3.out.below (below_alloc (Below.refl _ _) (.cells #[.int .i64 a0_0,.int .i64 a0_1,.int .i64 a0_2,.string a0_3,.slice B4 l0_4.length d4,.slice B5 l0_5.length d5,.slice B6 l0_6.length d6] 25))).below hB5));(have HB5:=Aside0.mk (below_from2 (below_alloc HB3.out (.cells #[.int .i64 a0_0,.int .i64 a0_1,.int .i64 a0_2,.string a0_3,.slice B4 l0_4.length d4,.slice B5 l0_5.length d5,.slice B6 l0_6.length d6] 25)) (Nat.le_refl _) hB5));(have HR5:=Aside0.mk (HR3.out.below hB5));clear hB5 ho5;(have HO5a:Aside0 (NdAt (w5.alloc (.cells #[.string a1] 9)) _ _ _ _ _ _ _ _):=⟨HO5.out.below (below_alloc (Below.refl _ _) _)⟩);(have HQ5a:Aside0 (NdAt (w5.alloc (.cells #[.string a1] 9)) _ _ _ _ _ _ _ _):=⟨HQ5.out.below (below_alloc (Below.refl _ _) _)⟩);(have HR5a:Aside0 (Rows3 (w5.alloc (.cells #[.string a1] 9)) _ _ _ _ _ _ _):=⟨HR5.out.below (below_alloc (Below.refl _ _) _)⟩);(have hins:=insS_calls w (w5.alloc (.cells #[.string a1] 9)) w.heap.size (.slice B4 l0_4.length d4) l0_4 n a1 w5.heap.size (fun _=>True) 9 HI.out.1 (fun _ _=>trivial) (Kd.R_reok rfl HR5a.out.1 (fun _ _=>trivial)) (blk_newN _ _) (fun e=>Nat.lt_irrefl _ (Kd.R_lt HR5.out.1 _ e.symm)) (below_alloc HB5.out _) (below_alloc HB5.out _).size (by have:=HN.out;omega));rw [← HYS.out] at hins)
   | (go_at_call 49;(with_reducible refine hins.mono ?_);rintro r w6 ⟨v1,rfl,ht⟩;(have hR6:=HR5a.out.turn4 ht);(have ho6:=NdAt.turned HO5a.out HR5a.out.1 (by decide) ht.2.2.1);(have hq6:=NdAt.turned HQ5a.out HR5a.out.1 (by decide) ht.2.2.1);obtain ⟨C4,e4,rfl,_,_⟩:=Kd.R_reads hR6.1;clear b0 b1 b2 b3 b4 b5 b6 l5 hins;obtain ⟨⟨b0,b1,b2,b3,b4,b5,b6⟩,f0,f1,f2,f3,f4,f5,f6⟩:=ho6.cells;(have l6:=ho6.lt);(have hB6:Below w.heap.size w w6:=ht.2.1);(have hge:w.heap.size≤w3.heap.size:=HB3.out.size);(have ho6s:NdAt (w6.setCell ⟨w3.heap.size,4,none⟩ (.slice C4 ys.length e4)) w3.heap.size a0_0 a0_1 a0_2 a0_3 (.slice C4 ys.length e4) (.slice B5 l0_5.length d5) (.slice B6 l0_6.length d6):=blk_put ho6 4 (.slice C4 ys.length e4) rfl);(have hR6s:Rows3 (w6.setCell ⟨w3.heap.size,4,none⟩ (.slice C4 ys.length e4)) _ _ _ _ _ _ _:=hR6.set ho6 4 (.slice C4 ys.length e4));(have hq6s:NdAt (w6.setCell ⟨w3.heap.size,4,none⟩ (.slice C4 ys.length e4)) _ _ _ _ _ _ _ _:=(Below.heap_setCell w6 ⟨w3.heap.size,4,none⟩ _ _ (by have:=HQ3.out.lt;exact Nat.ne_of_lt this)).trans hq6);(have HQ6:Aside0 (NdAt ((w6.setCell ⟨w3.heap.size,4,none⟩ (.slice C4 ys.length e4)).alloc (.cells #[.string a2] 9)) _ _ _ _ _ _ _ _):=⟨hq6s.below (below_alloc (Below.refl _ _) _)⟩);(have HO6:Aside0 (NdAt ((w6.setCell ⟨w3.heap.size,4,none⟩ (.slice C4 ys.length e4)).alloc (.cells #[.string a2] 9)) _ _ _ _ _ _ _ _):=⟨ho6s.below (below_alloc (Below.refl _ _) _)⟩);(have HR6:Aside0 (Rows3 ((w6.setCell ⟨w3.heap.size,4,none⟩ (.slice C4 ys.length e4)).alloc (.cells #[.string a2] 9)) _ _ _ _ _ _ _):=⟨hR6s.below (below_alloc (Below.refl _ _) _)⟩);(have hB6s:Below w.heap.size w (w6.setCell ⟨w3.heap.size,4,none⟩ (.slice C4 ys.length e4)):=below_setN hB6 hge);(have hsz:(w6.setCell ⟨w3.heap.size,4,none⟩ (.slice C4 ys.length e4)).heap.size=w6.heap.size:=by simp [World.setCell]);(have hins2:=insS_calls w ((w6.setCell ⟨w3.heap.size,4,none⟩ (.slice C4 ys.length e4)).alloc (.cells #[.string a2] 9)) w.heap.size (.slice B5 l0_5.length d5) l0_5 n a2 w6.heap.size (fun _=>True) 9 HI.out.2 (fun _ _=>trivial) (Kd.R_reok rfl HR6.out.2.1 (fun _ _=>trivial)) (by rw [← hsz];exact blk_newN _ _) (fun e=>Nat.lt_irrefl _ (Kd.R_lt hR6.2.1 _ e.symm)) (below_alloc hB6s _) (below_alloc hB6s _).size (by have:=HN.out;omega));rw [← HZS.out] at hins2;clear hB6 hge ho6s hR6s hq6s hB6s hsz ho6 hq6 hR6 ht)
   | (go_at_call 49;(with_reducible refine hins2.mono ?_);rintro r w7 ⟨v1,rfl,ht⟩;(have hR7:=HR6.out.turn5 ht);(have ho7:=NdAt.turned HO6.out HR6.out.2.1 (by decide) ht.2.2.1);(have hq7:=NdAt.turned HQ6.out HR6.out.2.1 (by decide) ht.2.2.1);obtain ⟨C5,e5,rfl,_,_⟩:=Kd.R_reads hR7.2.1;clear b0 b1 b2 b3 b4 b5 b6 f0 f1 f2 f3 f4 f5 f6 l6 hins2;obtain ⟨⟨b0,b1,b2,b3,b4,b5,b6⟩,f0,f1,f2,f3,f4,f5,f6⟩:=ho7.cells;(have l7:=ho7.lt);(have hB7:Below w.heap.size w w7:=ht.2.1);(have hge:w.heap.size≤w3.heap.size:=HB3.out.size);(have hR7s:Rows3 (w7.setCell ⟨w3.heap.size,5,none⟩ (.slice C5 zs.length e5)) _ _ _ _ _ _ _:=hR7.set ho7 5 (.slice C5 zs.length e5));(have hq7s:NdAt (w7.setCell ⟨w3.heap.size,5,none⟩ (.slice C5 zs.length e5)) _ _ _ _ _ _ _ _:=(Below.heap_setCell w7 ⟨w3.heap.size,5,none⟩ _ _ (by have:=HQ3.out.lt;exact Nat.ne_of_lt this)).trans hq7);(have hrt:=right_rows k a0_0 a0_1 a0_2 a0_3 _ _ _ _ _ _ r1 r2 r3 r4 r5 r6 r7 r8 w (w7.setCell ⟨w3.heap.size,5,none⟩ (.slice C5 zs.length e5)) (below_setN hB7 hge) hR7s HH.out);(have HQ7:=Aside0.mk hq7s);clear hB7 hge hR7s hq7s ho7 hq7 hR7 ht)
   | (go_at_call 51;(with_reducible refine hrt.mono ?_);rintro r w9 ⟨v4_,v5_,v6_,rfl,hR9,hB9,hK9⟩;obtain ⟨C7,e7,rfl,_,_⟩:=Kd.R_reads hR9.1;obtain ⟨C8,e8,rfl,_,_⟩:=Kd.R_reads hR9.2.1;obtain ⟨C9,e9,rfl,_,_⟩:=Kd.R_reads hR9.2.2;(have hq9:=hK9 _ _ _ _ _ _ _ _ HQ7.out);obtain ⟨_,f0,f1,f2,f3,f4,f5,f6⟩:=hq9.cells;(have lq:=hq9.lt);(have HQ9:=Aside0.mk hq9);(have HR9:=Aside0.mk hR9);(have HB9:=Aside0.mk hB9);clear hR9 hB9 hK9 hq9 hrt))
  refine bodyPost_ret (results_ct rfl _ _ (w.heap.size+1) 25 #[.int .i64 r1,.int .i64 r2,.int .i64 r3,.string r4,.slice C7 r5.length e7,.slice C8 r6.length e8,.slice C9 r7.length e9] (0,0) _ rfl (HQ9.out.set7 r1 r2 r3 r4 (.slice C7 r5.length e7) (.slice C8 r6.length e8) (.slice C9 r7.length e9)) Try.underlying25 rfl (by kernel_rfl)) rfl ?_
  exact ⟨_,_,_,rfl,RN_set7 HR9.out.1 HQ9.out str_ne _ _ _ _ _ _ _,RN_set7 HR9.out.2.1 HQ9.out str_ne _ _ _ _ _ _ _,RN_set7 HR9.out.2.2 HQ9.out int_ne _ _ _ _ _ _ _,below_set7 HB9.out (by omega)⟩
end Go.Proofs.Ytcocmpblmkdmjaa.Pr
