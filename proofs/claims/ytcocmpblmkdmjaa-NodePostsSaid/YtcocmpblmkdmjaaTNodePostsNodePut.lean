-- A part of the text NodePut, thinned by a program of this session.
import Derived.Test.YtcocmpblmkdmjaaTNodePostsIns
import Derived.Test.YtcocmpblmkdmjaaTNodePostsNodeLeft
import Derived.Test.YtcocmpblmkdmjaaTNodePostsPrx10
import Derived.Test.YtcocmpblmkdmjaaTNodePostsPrx9
import Derived.Test.YtcocmpblmkdmjaaTNodePostsPrx20
namespace Go.Proofs.Ytcocmpblmkdmjaa.Pr
open Go.RowKit Go.Proofs.YtcocmpblmkdmjaaW.PrintWords Go.Proofs.YtcocmpblmkdmjaaW.PrintLast Go.Proofs.YtcocmpblmkdmjaaW.PrintMore
set_option linter.unusedVariables false
set_option linter.unusedSimpArgs false
theorem RN_set7 {α:Type} {d:Kd α} {e b g:Nat} {w:World} {ok:Nat→Prop} {v:Value} {xs:List α} (h:d.R e w b ok v xs) {x0 x1 x2:Int} {x3:ByteArray} {x4 x5 x6:Value} (hn:NdAt w g x0 x1 x2 x3 x4 x5 x6) (ht:∀ q,q ∈ e::d.E→q≠25) (y0 y1 y2:Int) (y3:ByteArray) (y4 y5 y6:Value):d.R e (((((((w.setCell ⟨g,0,none⟩ (.int .i64 y0)).setCell ⟨g,1,none⟩ (.int .i64 y1)).setCell ⟨g,2,none⟩ (.int .i64 y2)).setCell ⟨g,3,none⟩ (.string y3)).setCell ⟨g,4,none⟩ y4).setCell ⟨g,5,none⟩ y5).setCell ⟨g,6,none⟩ y6) b ok v xs:=by
 have hk:=Kd.R_types h hn ht
 exact Kd.R_mono (Kd.R_far (Kd.R_far (Kd.R_far (Kd.R_far (Kd.R_far (Kd.R_far (Kd.R_far hk (p:=⟨g,0,none⟩) (fun _ hk=>hk.2) _) (p:=⟨g,1,none⟩) (fun _ hk=>hk.2) _) (p:=⟨g,2,none⟩) (fun _ hk=>hk.2) _) (p:=⟨g,3,none⟩) (fun _ hk=>hk.2) _) (p:=⟨g,4,none⟩) (fun _ hk=>hk.2) _) (p:=⟨g,5,none⟩) (fun _ hk=>hk.2) _) (p:=⟨g,6,none⟩) (fun _ hk=>hk.2) _) (fun _ hk=>hk.1)
theorem str_ne:∀ q,q ∈ 9::Kd.string.E→q≠25:=by decide
theorem int_ne:∀ q,q ∈ 3::(Kd.int .i64).E→q≠25:=by decide
def Rows3 (w:World) (base:Nat) (v4:Value) (l4:List ByteArray) (v5:Value) (l5:List ByteArray) (v6:Value) (l6:List Int):Prop :=
 Kd.R Kd.string 9 w base (fun k=>some k≠v5.ownBlock) v4 l4∧Kd.R Kd.string 9 w base (fun k=>some k≠v4.ownBlock) v5 l5∧Kd.R (Kd.int .i64) 3 w base (fun _=>True) v6 l6
section
variable {w w1 w0 W:World} {base:Nat} {v4 v5 v6 v1:Value} {l4 l5 ys:List ByteArray} {l6 zs:List Int}
theorem Rows3.move (h:Rows3 w base v4 l4 v5 l5 v6 l6) (hm:∀ k,k < w.heap.size→(∃ q cells,q≠25∧w.heap[k]?=some (.cells cells q (0,0)))→w1.heap[k]?=w.heap[k]?):Rows3 w1 base v4 l4 v5 l5 v6 l6:=by
 obtain ⟨h4,h5,h6⟩:=h
 refine ⟨Kd.R_mono (Kd.R_move (Kd.R_bound h4) (fun k hk=>?_)) (fun _ hk=>hk.1),Kd.R_mono (Kd.R_move (Kd.R_bound h5) (fun k hk=>?_)) (fun _ hk=>hk.1),Kd.R_mono (Kd.R_move (Kd.R_bound h6) (fun k hk=>?_)) (fun _ hk=>hk.1)⟩
 ·obtain ⟨_,_,hl,q,hq,cells,hc⟩:=hk
  exact hm k hl ⟨q,cells,str_ne q hq,hc⟩
 ·obtain ⟨_,_,hl,q,hq,cells,hc⟩:=hk
  exact hm k hl ⟨q,cells,str_ne q hq,hc⟩
 ·obtain ⟨_,_,hl,q,hq,cells,hc⟩:=hk
  exact hm k hl ⟨q,cells,int_ne q hq,hc⟩
theorem Rows3.below (h:Rows3 w base v4 l4 v5 l5 v6 l6) (hb:Below w.heap.size w w1):Rows3 w1 base v4 l4 v5 l5 v6 l6:=h.move (fun k hk _=>hb.block k hk)
theorem Rows3.lower {b2:Nat} (h:Rows3 w base v4 l4 v5 l5 v6 l6) (hb:b2≤base):Rows3 w b2 v4 l4 v5 l5 v6 l6:=⟨Kd.R_lower h.1 hb,Kd.R_lower h.2.1 hb,Kd.R_lower h.2.2 hb⟩
theorem nd_set {g:Nat} {x0 x1 x2:Int} {x3:ByteArray} {x4 x5 x6:Value} (hn:NdAt w g x0 x1 x2 x3 x4 x5 x6) {k j:Nat} {u:Value} (h:∃ q cells,q≠25∧w.heap[k]?=some (.cells cells q (0,0))):(w.setCell ⟨g,j,none⟩ u).heap[k]?=w.heap[k]?:=by
 obtain ⟨q,cells,hq,hc⟩:=h
 refine Below.heap_setCell w ⟨g,j,none⟩ u k ?_
 rintro rfl
 unfold NdAt at hn
 rw [hc] at hn
 injection hn with hn
 injection hn with _ hn
 exact hq hn
theorem Rows3.set {g:Nat} {x0 x1 x2:Int} {x3:ByteArray} {x4 x5 x6:Value} (h:Rows3 w base v4 l4 v5 l5 v6 l6) (hn:NdAt w g x0 x1 x2 x3 x4 x5 x6) (j:Nat) (u:Value):Rows3 (w.setCell ⟨g,j,none⟩ u) base v4 l4 v5 l5 v6 l6 :=
 h.move (fun k _ hk=>nd_set hn hk)
theorem NdAt.turned {α:Type} {d:Kd α} {e b g:Nat} {ok:Nat→Prop} {v:Value} {xs:List α} {x0 x1 x2:Int} {x3:ByteArray} {x4 x5 x6:Value} (hn:NdAt W g x0 x1 x2 x3 x4 x5 x6) (h:Kd.R d e W b ok v xs) (he:e≠25) (hg:W.grownBy w1 v.ownBlock):NdAt w1 g x0 x1 x2 x3 x4 x5 x6 :=
 (hg.block g hn.lt (Kd.R_ne h hn he)).trans hn
theorem Rows3.turn4 (h:Rows3 W base v4 l4 v5 l5 v6 l6) (t:Turned Kd.string 9 base (fun _=>True) w0 W v4 ys v1 w1):Rows3 w1 base v1 ys v5 l5 v6 l6:=by
 obtain ⟨h4,h5,h6⟩:=h
 obtain ⟨t1,_,tg,ta⟩:=t
 have hne:∀ k,v1.ownBlock=some k→some k≠v5.ownBlock:=by
  intro k hk e
  rcases ta with ta|⟨b,hb,hl⟩
  ·exact h4.1 k (by rw [← ta];exact hk) e
  ·rw [hb] at hk
   injection hk with hk
   subst hk
   have:=Kd.R_lt h5 _ e.symm
   omega
 refine ⟨Kd.R_reok rfl t1 hne,?_,Kd.R_over h6 h4 (by decide) tg⟩
 exact Kd.R_reok rfl (Kd.R_grown2 h5 rfl tg (fun k hk=>h4.1 k hk)) (fun k hk e=>hne k e.symm hk.symm)
theorem Rows3.turn6 (h:Rows3 W base v4 l4 v5 l5 v6 l6) (t:Turned (Kd.int .i64) 3 base (fun _=>True) w0 W v6 zs v1 w1):Rows3 w1 base v4 l4 v5 l5 v1 zs:=by
 obtain ⟨h4,h5,h6⟩:=h
 obtain ⟨t1,_,tg,ta⟩:=t
 exact ⟨Kd.R_over h4 h6 (by decide) tg,Kd.R_over h5 h6 (by decide) tg,t1⟩
end
theorem right_rows (k:Nat) (a0_0 a0_1 a0_2:Int) (a0_3:ByteArray) (v4:Value) (l4:List ByteArray) (v5:Value) (l5:List ByteArray) (v6:Value) (l6:List Int) (r1 r2 r3:Int) (r4:ByteArray) (r5 r6:List ByteArray) (r7:List Int) (r8:Int) (w0 w:World) (hB:Below w0.heap.size w0 w) (h3:Rows3 w w0.heap.size v4 l4 v5 l5 v6 l6) (h:node_right.f k a0_0 a0_1 a0_2 a0_3 l4 l5 l6=some (r1,r2,r3,r4,r5,r6,r7,r8)) :
  Calls Try.prog 51 #[.agg #[.int .i64 a0_0,.int .i64 a0_1,.int .i64 a0_2,.string a0_3,v4,v5,v6]] w fun e w'=>∃ v4_ v5_ v6_:Value,e=.returned (.tuple #[.agg #[.int .i64 r1,.int .i64 r2,.int .i64 r3,.string r4,v4_,v5_,v6_],.int .i64 r8])∧Rows3 w' w0.heap.size v4_ r5 v5_ r6 v6_ r7∧Below w0.heap.size w0 w'∧∀ g x0 x1 x2 x3 x4 x5 x6,NdAt w g x0 x1 x2 x3 x4 x5 x6→NdAt w' g x0 x1 x2 x3 x4 x5 x6:=by
 refine (node_right.calls k a0_0 a0_1 a0_2 a0_3 (fun k=>some k=v4.ownBlock) v4 l4 (fun k=>some k=v5.ownBlock) v5 l5 (fun k=>some k=v6.ownBlock) v6 l6 r1 r2 r3 r4 r5 r6 r7 r8 w0 w hB (Kd.R_tight rfl h3.1) (fun k e1 e2=>h3.1.1 k e1.symm e2) (Kd.R_tight rfl h3.2.1) (fun k e1 e2=>h3.2.1.1 k e1.symm e2) (Kd.R_tight rfl h3.2.2) h).mono ?_
 rintro e w' ⟨v4_,v5_,v6_,rfl,h4,h5,h6,hB',hK⟩
 refine ⟨v4_,v5_,v6_,rfl,⟨Kd.R_mono h4 (fun _ hk=>hk.2),Kd.R_mono h5 (fun _ hk=>hk.2),Kd.R_mono h6 (fun _ _=>trivial)⟩,hB',?_⟩
 intro g x0 x1 x2 x3 x4 x5 x6 hn
 refine (hK.2 g hn.lt ?_).trans hn
 rintro (e1|e1|e1)
 ·exact Kd.R_ne h3.1 hn (by decide) e1
 ·exact Kd.R_ne h3.2.1 hn (by decide) e1
 ·exact Kd.R_ne h3.2.2 hn (by decide) e1
end Go.Proofs.Ytcocmpblmkdmjaa.Pr
