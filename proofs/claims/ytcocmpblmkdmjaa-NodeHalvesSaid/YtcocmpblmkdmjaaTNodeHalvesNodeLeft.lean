-- A part of the text NodeLeft, thinned by a program of this session.
import Derived.Test.YtcocmpblmkdmjaaTNodeHalvesPrx10
import Derived.Test.YtcocmpblmkdmjaaTNodeHalvesPrx9
import Derived.Test.YtcocmpblmkdmjaaTNodeHalvesPrx2
namespace Go.Proofs.Ytcocmpblmkdmjaa.Pr
open Go.RowKit Go.Proofs.YtcocmpblmkdmjaaW.PrintWords Go.Proofs.YtcocmpblmkdmjaaW.PrintLast Go.Proofs.YtcocmpblmkdmjaaW.PrintMore
set_option linter.unusedVariables false
set_option linter.unusedSimpArgs false
theorem below_from2 {w w1 w2:World} {b:Nat} (h:Below b w w1) (hb:b≤w.heap.size) (k:Below w1.heap.size w1 w2):Below b w w2 :=
 h.trans ⟨k.os,k.tape,k.output,k.size,fun i hi=>k.block i (by have:=h.size;omega)⟩
theorem cut_cap {P:Program} (t e:TypeId) (kh km:IntKind) {i:TypeInfo} (ht:P.underlying t=some (.slice e)) (hi:P.info? e=some i) (A:Option Addr) (n c:Nat) (j:Int) (h0:0≤j) (hm:j≤n) (hc:n≤c) :
  ∀ W:World,(Instr.slice t (.slice A n c) none (some (.int kh j)) (some (.int km j))).run P W=.ok (.slice A j.toNat j.toNat) W:=by
 intro W
 have hel:P.elem t=e:=by simp [Program.elem,ht]
 have hu:P.underlying t=some (.slice (P.elem t)):=by rw [hel];exact ht
 have ha:(A.map fun x=>x.add 0)=A:=by cases A <;> simp [Addr.add]
 rw [run_slice_hm W t A n c hu kh km j j h0 (Int.le_refl _) (by omega),hel]
 simp [sizeOf,typeInfo,hi,sliced,Result.andThen,ha]
theorem infoStr:(Try.prog.info? 9).map (fun i=>(i.zero,i.size,i.bytes))=some (some (.string ⟨#[]⟩),1,16):=by kernel_rfl
theorem infoInt:(Try.prog.info? 3).map (fun i=>(i.zero,i.size,i.bytes))=some (some (.int .i64 0),1,8):=by kernel_rfl
def CS {α:Type} (d:Kd α) (w:World) (v:Value) (xs:List α):Prop:=∃ A c,v=.slice A xs.length c∧xs.length≤c∧Kd.C d w A xs.length xs
theorem CS_nil {α:Type} (d:Kd α) (w:World):CS d w (.slice none 0 0) ([]:List α):=⟨none,0,rfl,Nat.le_refl _,Kd.C_nil d w⟩
def leftZ (e:Int):Option (Int×Int×Int×ByteArray×List ByteArray×List ByteArray×List Int×Int):=some (0,0,0,⟨#[]⟩,[],[],[],e)
def leftG (k:Nat) (a0_0:Int) (a0_1:Int) (a0_2:Int) (a0_3:ByteArray) (l0_4:List ByteArray) (l0_5:List ByteArray) (l0_6:List Int) (a1:ByteArray) (a2:Int):Option (Int×Int×Int×ByteArray×List ByteArray×List ByteArray×List Int×Int) :=
 (node_parted.f k a0_0 a0_1 a0_2 a0_3 l0_4 l0_5 l0_6 a1 a2).bind fun p =>
  if p.2=0 then
   if 0≤p.1∧p.1≤(l0_4.length:Int)∧l0_4.length≤8796093022208∧l0_5.length≤8796093022208∧l0_6.length≤8796093022208 then
    if a0_0 > 0 then
     if p.1+1≤(l0_6.length:Int) then (page_Check.f k a0_0 a0_1 a2 a1 (l0_4.take p.1.toNat) l0_5 (l0_6.take (p.1+1).toNat)).bind fun c=>if c=0 then some (a0_0,a0_1,a2,a1,l0_4.take p.1.toNat,l0_5,l0_6.take (p.1+1).toNat,0) else leftZ 5
     else none
    else
     if p.1≤(l0_5.length:Int) then (page_Check.f k a0_0 a0_1 a2 a1 (l0_4.take p.1.toNat) (l0_5.take p.1.toNat) l0_6).bind fun c=>if c=0 then some (a0_0,a0_1,a2,a1,l0_4.take p.1.toNat,l0_5.take p.1.toNat,l0_6,0) else leftZ 5
     else none
   else none
  else leftZ p.2
def NdAt (w:World) (g:Nat) (x0 x1 x2:Int) (x3:ByteArray) (x4 x5 x6:Value):Prop:=w.heap[g]?=some (.cells #[.int .i64 x0,.int .i64 x1,.int .i64 x2,.string x3,x4,x5,x6] 25 (0,0))
theorem NdAt.below {w w1:World} {g:Nat} {x0 x1 x2:Int} {x3:ByteArray} {x4 x5 x6:Value} (h:NdAt w g x0 x1 x2 x3 x4 x5 x6) (hc:Below w.heap.size w w1):NdAt w1 g x0 x1 x2 x3 x4 x5 x6:=(hc.block g (by
 have:=(Array.getElem?_eq_some_iff.1 h).1
 exact this)).trans h
theorem NdAt.lt {w:World} {g:Nat} {x0 x1 x2:Int} {x3:ByteArray} {x4 x5 x6:Value} (h:NdAt w g x0 x1 x2 x3 x4 x5 x6):g < w.heap.size:=(Array.getElem?_eq_some_iff.1 h).1
theorem NdAt.cells {w:World} {g:Nat} {x0 x1 x2:Int} {x3:ByteArray} {x4 x5 x6:Value} (h:NdAt w g x0 x1 x2 x3 x4 x5 x6):(w.cell? ⟨g,0,none⟩=some (.int .i64 x0)∧w.cell? ⟨g,1,none⟩=some (.int .i64 x1)∧w.cell? ⟨g,2,none⟩=some (.int .i64 x2)∧w.cell? ⟨g,3,none⟩=some (.string x3)∧w.cell? ⟨g,4,none⟩=some x4∧w.cell? ⟨g,5,none⟩=some x5∧w.cell? ⟨g,6,none⟩=some x6)∧(w.frozen? ⟨g,0,none⟩=false∧w.frozen? ⟨g,1,none⟩=false∧w.frozen? ⟨g,2,none⟩=false∧w.frozen? ⟨g,3,none⟩=false∧w.frozen? ⟨g,4,none⟩=false∧w.frozen? ⟨g,5,none⟩=false∧w.frozen? ⟨g,6,none⟩=false):=by
 unfold NdAt at h
 simp [World.cell?,World.frozen?,h]
theorem blk_newN (w:World) (o:Obj):(w.alloc o).heap[w.heap.size]?=some o:=by
 show (w.heap.push o)[w.heap.size]?=_
 simp
theorem NdAt.set7 {w:World} {g:Nat} {x0 x1 x2:Int} {x3:ByteArray} {x4 x5 x6:Value} (h:NdAt w g x0 x1 x2 x3 x4 x5 x6) (y0 y1 y2:Int) (y3:ByteArray) (y4 y5 y6:Value):NdAt (((((((w.setCell ⟨g,0,none⟩ (.int .i64 y0)).setCell ⟨g,1,none⟩ (.int .i64 y1)).setCell ⟨g,2,none⟩ (.int .i64 y2)).setCell ⟨g,3,none⟩ (.string y3)).setCell ⟨g,4,none⟩ y4).setCell ⟨g,5,none⟩ y5).setCell ⟨g,6,none⟩ y6) g y0 y1 y2 y3 y4 y5 y6:=by
 unfold NdAt at *
 have h0:=blk_put (cs':=#[.int .i64 y0,.int .i64 x1,.int .i64 x2,.string x3,x4,x5,x6]) h 0 (.int .i64 y0) rfl
 have h1:=blk_put (cs':=#[.int .i64 y0,.int .i64 y1,.int .i64 x2,.string x3,x4,x5,x6]) h0 1 (.int .i64 y1) rfl
 have h2:=blk_put (cs':=#[.int .i64 y0,.int .i64 y1,.int .i64 y2,.string x3,x4,x5,x6]) h1 2 (.int .i64 y2) rfl
 have h3:=blk_put (cs':=#[.int .i64 y0,.int .i64 y1,.int .i64 y2,.string y3,x4,x5,x6]) h2 3 (.string y3) rfl
 have h4:=blk_put (cs':=#[.int .i64 y0,.int .i64 y1,.int .i64 y2,.string y3,y4,x5,x6]) h3 4 (y4) rfl
 have h5:=blk_put (cs':=#[.int .i64 y0,.int .i64 y1,.int .i64 y2,.string y3,y4,y5,x6]) h4 5 (y5) rfl
 have h6:=blk_put (cs':=#[.int .i64 y0,.int .i64 y1,.int .i64 y2,.string y3,y4,y5,y6]) h5 6 (y6) rfl
 exact h6
theorem below_setN {w W:World} {p:Addr} {u:Value} {b:Nat} (h:Below b w W) (hg:b≤p.block):Below b w (W.setCell p u):=⟨h.os,h.tape,h.output,Nat.le_trans h.size (by simp [World.setCell]),fun k hk=>(Below.heap_setCell W p u k (by omega)).trans (h.block k hk)⟩
theorem below_set7 {w W:World} {g b:Nat} {y0 y1 y2 y3 y4 y5 y6:Value} (h:Below b w W) (hg:b≤g):Below b w (((((((W.setCell ⟨g,0,none⟩ y0).setCell ⟨g,1,none⟩ y1).setCell ⟨g,2,none⟩ y2).setCell ⟨g,3,none⟩ y3).setCell ⟨g,4,none⟩ y4).setCell ⟨g,5,none⟩ y5).setCell ⟨g,6,none⟩ y6) :=
 below_setN (below_setN (below_setN (below_setN (below_setN (below_setN (below_setN h hg) hg) hg) hg) hg) hg) hg
theorem RN_far {α:Type} {d:Kd α} {e b:Nat} {w:World} {ok:Nat→Prop} {v:Value} {xs:List α} (h:d.R e w b ok v xs) {p:Addr} (hp:p.block < b) (u:Value):d.R e (w.setCell p u) b ok v xs :=
 Kd.R_mono (Kd.R_far (Kd.R_bound h) (fun k hk=>by have:=hk.2.1;omega) u) (fun _ hk=>hk.1)
theorem RN_far7 {α:Type} {d:Kd α} {e b g:Nat} {w:World} {ok:Nat→Prop} {v:Value} {xs:List α} (h:d.R e w b ok v xs) (hp:g < b) (y0 y1 y2 y3 y4 y5 y6:Value):d.R e (((((((w.setCell ⟨g,0,none⟩ y0).setCell ⟨g,1,none⟩ y1).setCell ⟨g,2,none⟩ y2).setCell ⟨g,3,none⟩ y3).setCell ⟨g,4,none⟩ y4).setCell ⟨g,5,none⟩ y5).setCell ⟨g,6,none⟩ y6) b ok v xs :=
 RN_far (RN_far (RN_far (RN_far (RN_far (RN_far (RN_far h hp y0) hp y1) hp y2) hp y3) hp y4) hp y5) hp y6
set_option maxHeartbeats 8000000 in
set_option maxRecDepth 100000 in
theorem left_calls (k:Nat) (a0_0:Int) (a0_1:Int) (a0_2:Int) (a0_3:ByteArray) (A0_4:Option Addr) (c0_4:Nat) (l0_4:List ByteArray) (A0_5:Option Addr) (c0_5:Nat) (l0_5:List ByteArray) (A0_6:Option Addr) (c0_6:Nat) (l0_6:List Int) (a1:ByteArray) (a2:Int) (r1 r2 r3:Int) (r4:ByteArray) (r5 r6:List ByteArray) (r7:List Int) (r8:Int) (w:World) (hr0_4:Kd.C Kd.string w A0_4 l0_4.length l0_4) (hc0_4:l0_4.length≤c0_4) (hr0_5:Kd.C Kd.string w A0_5 l0_5.length l0_5) (hc0_5:l0_5.length≤c0_5) (hr0_6:Kd.C (Kd.int .i64) w A0_6 l0_6.length l0_6) (hc0_6:l0_6.length≤c0_6) (h:leftG k a0_0 a0_1 a0_2 a0_3 l0_4 l0_5 l0_6 a1 a2=some (r1,r2,r3,r4,r5,r6,r7,r8)) :
  Calls Try.prog 12 #[.agg #[.int .i64 a0_0,.int .i64 a0_1,.int .i64 a0_2,.string a0_3,.slice A0_4 l0_4.length c0_4,.slice A0_5 l0_5.length c0_5,.slice A0_6 l0_6.length c0_6],.string a1,.int .i64 a2] w fun e w'=>∃ v4 v5 v6:Value,e=.returned (.tuple #[.agg #[.int .i64 r1,.int .i64 r2,.int .i64 r3,.string r4,v4,v5,v6],.int .i64 r8])∧CS Kd.string w' v4 r5∧CS Kd.string w' v5 r6∧CS (Kd.int .i64) w' v6 r7∧Below w.heap.size w w':=by
 unfold leftG at h
 obtain ⟨⟨i,e⟩,hp,h⟩:=Option.bind_eq_some_iff.1 h
 dsimp only at h
 have hsz:(w.alloc (.cells #[.int .i64 a0_0,.int .i64 a0_1,.int .i64 a0_2,.string a0_3,.slice A0_4 l0_4.length c0_4,.slice A0_5 l0_5.length c0_5,.slice A0_6 l0_6.length c0_6] 25)).heap.size=w.heap.size+1:=by
  show (w.heap.push _).size=_
  simp
 have HX:Aside0 (NdAt ((w.alloc (.cells #[.int .i64 a0_0,.int .i64 a0_1,.int .i64 a0_2,.string a0_3,.slice A0_4 l0_4.length c0_4,.slice A0_5 l0_5.length c0_5,.slice A0_6 l0_6.length c0_6] 25)).alloc (.cells #[.int .i64 0,.int .i64 0,.int .i64 0,.string ⟨#[]⟩,.slice none 0 0,.slice none 0 0,.slice none 0 0] 25)) w.heap.size a0_0 a0_1 a0_2 a0_3 (.slice A0_4 l0_4.length c0_4) (.slice A0_5 l0_5.length c0_5) (.slice A0_6 l0_6.length c0_6)):=⟨NdAt.below (blk_newN _ _) (below_alloc (Below.refl _ _) _)⟩
 have HQ:Aside0 (NdAt ((w.alloc (.cells #[.int .i64 a0_0,.int .i64 a0_1,.int .i64 a0_2,.string a0_3,.slice A0_4 l0_4.length c0_4,.slice A0_5 l0_5.length c0_5,.slice A0_6 l0_6.length c0_6] 25)).alloc (.cells #[.int .i64 0,.int .i64 0,.int .i64 0,.string ⟨#[]⟩,.slice none 0 0,.slice none 0 0,.slice none 0 0] 25)) (w.heap.size+1) 0 0 0 ⟨#[]⟩ (.slice none 0 0) (.slice none 0 0) (.slice none 0 0)):=⟨by rw [← hsz];exact blk_newN _ _⟩
 have hB0:Below w.heap.size w ((w.alloc (.cells #[.int .i64 a0_0,.int .i64 a0_1,.int .i64 a0_2,.string a0_3,.slice A0_4 l0_4.length c0_4,.slice A0_5 l0_5.length c0_5,.slice A0_6 l0_6.length c0_6] 25)).alloc (.cells #[.int .i64 0,.int .i64 0,.int .i64 0,.string ⟨#[]⟩,.slice none 0 0,.slice none 0 0,.slice none 0 0] 25)):=below_alloc (below_alloc (Below.refl _ _) _) _
 have HB0:=Aside0.mk hB0
 have hpar:=node_parted.calls k a0_0 a0_1 a0_2 a0_3 A0_4 c0_4 l0_4 A0_5 c0_5 l0_5 A0_6 c0_6 l0_6 a1 a2 i e _ (Kd.C_below hr0_4 hB0) hc0_4 (Kd.C_below hr0_5 hB0) hc0_5 (Kd.C_below hr0_6 hB0) hc0_6 hp
 by_cases he:e=0
 ·rw [if_pos he] at h
  have hn:=h
  clear h
  by_cases hb:0≤i∧i≤(l0_4.length:Int)∧l0_4.length≤8796093022208∧l0_5.length≤8796093022208∧l0_6.length≤8796093022208
  ·rw [if_pos hb] at hn
   obtain ⟨hi0,hi4,hn4,hn5,hn6⟩:=hb
   have d0:(e != 0)=false:=by simp [he]
   have how:node_own.f a0_0 a0_1 a0_2 a0_3 l0_4 l0_5 l0_6=some (a0_0,a0_1,a0_2,a0_3,l0_4,l0_5,l0_6):=by
    unfold node_own.f slices_Clone_string_string.f slices_Clone_int_int.f
    rw [if_pos hn4,if_pos hn5,if_pos hn6]
    rfl
   have HOWN:=Aside0.mk (fun W (hB:Below w.heap.size w W)=>node_own.calls a0_0 a0_1 a0_2 a0_3 A0_4 c0_4 l0_4 A0_5 c0_5 l0_5 A0_6 c0_6 l0_6 a0_0 a0_1 a0_2 a0_3 l0_4 l0_5 l0_6 W (Kd.C_below hr0_4 hB) hc0_4 (Kd.C_below hr0_5 hB) hc0_5 (Kd.C_below hr0_6 hB) hc0_6 how)
   have hcut4:∀ (B:Option Addr) (d:Nat),l0_4.length≤d→∀ W:World,(Instr.slice 22 (.slice B l0_4.length d) none (some (.int .i64 i)) (some (.int .i64 i))).run Try.prog W=.ok (.slice B i.toNat i.toNat) W:=fun B d hd W=>cut_cap 22 9 .i64 .i64 Try.underlying22 (info_parts infoStr).choose_spec.1 B l0_4.length d i hi0 hi4 hd W
   have HCUT4:=Aside0.mk hcut4
   have ht4:(l0_4.take i.toNat).length=i.toNat:=by rw [List.length_take];omega
   have HT4:=Aside0.mk ht4
   have HI:=Aside0.mk (And.intro hi0 hi4)
   have HE:=Aside0.mk he
   clear hp hB0 hsz hc0_4 hc0_5 hc0_6 how hcut4 ht4 hr0_4 hr0_5 hr0_6
   have hz4:l0_4.length≤9223372036854775807:=by omega
   have hz5:l0_5.length≤9223372036854775807:=by omega
   have hz6:l0_6.length≤9223372036854775807:=by omega
   clear hn4 hn5 hn6 hi4 he
   by_cases hlv:a0_0 > 0
   ·rw [if_pos hlv] at hn
    by_cases hb6:i+1≤(l0_6.length:Int)
    ·rw [if_pos hb6] at hn
     obtain ⟨cz,hck,hn⟩:=Option.bind_eq_some_iff.1 hn
     have dlv:decide (a0_0 > 0)=true:=decide_eq_true hlv
     have hw1:IntKind.i64.wrap (i+1)=i+1:=by
      rw [IntKind.wrap_i64]
      omega
     have hcut6:∀ (B:Option Addr) (d:Nat),l0_6.length≤d→∀ W:World,(Instr.slice 23 (.slice B l0_6.length d) none (some (.int .i64 (i+1))) (some (.int .i64 (i+1)))).run Try.prog W=.ok (.slice B (i+1).toNat (i+1).toNat) W:=fun B d hd W=>cut_cap 23 3 .i64 .i64 Try.underlying23 (info_parts infoInt).choose_spec.1 B l0_6.length d (i+1) (by omega) hb6 hd W
     have HCUT6:=Aside0.mk hcut6
     have ht6:(l0_6.take (i+1).toNat).length=(i+1).toNat:=by rw [List.length_take];omega
     have HT6:=Aside0.mk ht6
     have HCK:=Aside0.mk hck
     have HI6:=Aside0.mk hb6
     clear hcut6 ht6 hck hb6 hlv hi0
     by_cases hcz:cz=0
     ·rw [if_pos hcz] at hn
      simp only [Option.some.injEq,Prod.mk.injEq] at hn
      obtain ⟨rfl,rfl,rfl,rfl,rfl,rfl,rfl,rfl⟩:=hn
      have dcz:(cz != 0)=false:=by simp [hcz]
      clear hcz
      go_enter Try.func12,Try.ntmps12
      go_wp2_with (first
       | (go_at_call 37;refine hpar.mono ?_;rintro r w2 ⟨rfl,hB2⟩;(have hx2:=HX.out.below hB2);obtain ⟨⟨b0,b1,b2,b3,b4,b5,b6⟩,_⟩:=hx2.cells;(have HX2:=Aside0.mk hx2);(have HQ2:=Aside0.mk (HQ.out.below hB2));(have HB2:=Aside0.mk (below_from2 HB0.out (Nat.le_refl _) hB2));(have how:=HOWN.out w2 HB2.out);clear hB2 hpar hx2)
       | (go_at_call 38;refine how.mono ?_;rintro r w3 ⟨v4,v5,v6,rfl,hR4,hR5,hR6,hB3⟩;obtain ⟨B4,d4,rfl,hd4,hC4⟩:=Kd.R_reads hR4;obtain ⟨B5,d5,rfl,hd5,hC5⟩:=Kd.R_reads hR5;obtain ⟨B6,d6,rfl,hd6,hC6⟩:=Kd.R_reads hR6;(have hx3:=HX2.out.below hB3);clear b0 b1 b2 b3 b4 b5 b6;obtain ⟨⟨b0,b1,b2,b3,b4,b5,b6⟩,_⟩:=hx3.cells;(have HX3:=Aside0.mk hx3);(have l3:=hx3.lt);(have HQ3:=Aside0.mk (HQ2.out.below hB3));(have HB3:=Aside0.mk (below_from2 HB2.out (Nat.le_refl _) hB3));(have hcut4:=HCUT4.out B4 d4 hd4);(have hcut6:=HCUT6.out B6 d6 hd6);(have HR4:=Aside0.mk hR4);(have HR5:=Aside0.mk hR5);(have HR6:=Aside0.mk hR6);(have HC4:=Aside0.mk hC4);(have HC5:=Aside0.mk hC5);(have HC6:=Aside0.mk hC6);(have HD5:=Aside0.mk hd5);(have HD6:=Aside0.mk hd6);(have hck:=page_Check.calls k a0_0 a0_1 a2 a1 B4 i.toNat (l0_4.take i.toNat) B5 d5 (l0_5) B6 (i+1).toNat (l0_6.take (i+1).toNat) cz (w3.alloc (.cells #[.int .i64 a0_0,.int .i64 a0_1,.int .i64 a2,.string a1,.slice B4 i.toNat i.toNat,.slice B5 l0_5.length d5,.slice B6 (i+1).toNat (i+1).toNat] 25)) (Kd.C_below (Kd.C_take HC4.out (show i.toNat≤l0_4.length by have:=HI.out;omega)) (below_alloc (Below.refl _ _) (.cells #[.int .i64 a0_0,.int .i64 a0_1,.int .i64 a2,.string a1,.slice B4 i.toNat i.toNat,.slice B5 l0_5.length d5,.slice B6 (i+1).toNat (i+1).toNat] 25))) (by rw [HT4.out];exact Nat.le_refl _) (Kd.C_below HC5.out (below_alloc (Below.refl _ _) (.cells #[.int .i64 a0_0,.int .i64 a0_1,.int .i64 a2,.string a1,.slice B4 i.toNat i.toNat,.slice B5 l0_5.length d5,.slice B6 (i+1).toNat (i+1).toNat] 25))) HD5.out (Kd.C_below (Kd.C_take HC6.out (show (i+1).toNat≤l0_6.length by have:=HI6.out;omega)) (below_alloc (Below.refl _ _) (.cells #[.int .i64 a0_0,.int .i64 a0_1,.int .i64 a2,.string a1,.slice B4 i.toNat i.toNat,.slice B5 l0_5.length d5,.slice B6 (i+1).toNat (i+1).toNat] 25))) (by rw [HT6.out];exact Nat.le_refl _) HCK.out);rw [HT4.out,HT6.out] at hck;clear hR4 hR5 hR6 hB3 hd4 hd5 hd6 hC4 hC5 hC6 how hx3)
       | (go_at_call 32;refine hck.mono ?_;rintro r w4 ⟨rfl,hB4⟩;(have HB34:=Aside0.mk (below_from2 (below_alloc (Below.refl w3.heap.size w3) (.cells #[.int .i64 a0_0,.int .i64 a0_1,.int .i64 a2,.string a1,.slice B4 i.toNat i.toNat,.slice B5 l0_5.length d5,.slice B6 (i+1).toNat (i+1).toNat] 25)) (Nat.le_refl _) hB4));(have HB4:=Aside0.mk (below_from2 HB3.out (Nat.le_refl _) HB34.out));(have ho4:NdAt w4 w3.heap.size a0_0 a0_1 a2 a1 (.slice B4 i.toNat i.toNat) (.slice B5 l0_5.length d5) (.slice B6 (i+1).toNat (i+1).toNat):=NdAt.below (blk_newN w3 _) hB4);clear b0 b1 b2 b3 b4 b5 b6;obtain ⟨⟨b0,b1,b2,b3,b4,b5,b6⟩,_⟩:=ho4.cells;(have hq4:=HQ3.out.below HB34.out);obtain ⟨_,f0,f1,f2,f3,f4,f5,f6⟩:=hq4.cells;(have lq:=hq4.lt);(have HQ4:=Aside0.mk hq4);clear hB4 hck ho4 hq4 hcut4 hcut6 l3))
      refine bodyPost_ret (results_ct rfl _ _ (w.heap.size+1) 25 #[.int .i64 a0_0,.int .i64 a0_1,.int .i64 a2,.string a1,.slice B4 i.toNat i.toNat,.slice B5 l0_5.length d5,.slice B6 (i+1).toNat (i+1).toNat] (0,0) _ rfl (HQ4.out.set7 a0_0 a0_1 a2 a1 (.slice B4 i.toNat i.toNat) (.slice B5 l0_5.length d5) (.slice B6 (i+1).toNat (i+1).toNat)) Try.underlying25 rfl (by kernel_rfl)) rfl ?_
      have hq2:=HQ2.out.lt
      have g4:=(Kd.R_reads' (RN_far7 (Kd.R_below HR4.out HB34.out) hq2 (.int .i64 a0_0) (.int .i64 a0_1) (.int .i64 a2) (.string a1) (.slice B4 i.toNat i.toNat) (.slice B5 l0_5.length d5) (.slice B6 (i+1).toNat (i+1).toNat))).2.2
      have g5:=(Kd.R_reads' (RN_far7 (Kd.R_below HR5.out HB34.out) hq2 (.int .i64 a0_0) (.int .i64 a0_1) (.int .i64 a2) (.string a1) (.slice B4 i.toNat i.toNat) (.slice B5 l0_5.length d5) (.slice B6 (i+1).toNat (i+1).toNat))).2.2
      have g6:=(Kd.R_reads' (RN_far7 (Kd.R_below HR6.out HB34.out) hq2 (.int .i64 a0_0) (.int .i64 a0_1) (.int .i64 a2) (.string a1) (.slice B4 i.toNat i.toNat) (.slice B5 l0_5.length d5) (.slice B6 (i+1).toNat (i+1).toNat))).2.2
      exact ⟨_,_,_,rfl,⟨B4,i.toNat,by rw [HT4.out],by rw [HT4.out];exact Nat.le_refl _,Kd.C_take g4 (show i.toNat≤l0_4.length by have:=HI.out;omega)⟩,⟨B5,d5,rfl,HD5.out,g5⟩,⟨B6,(i+1).toNat,by rw [HT6.out],by rw [HT6.out];exact Nat.le_refl _,Kd.C_take g6 (show (i+1).toNat≤l0_6.length by have:=HI6.out;omega)⟩,below_set7 HB4.out (by omega)⟩
     ·rw [if_neg hcz] at hn
      unfold leftZ at hn
      simp only [Option.some.injEq,Prod.mk.injEq] at hn
      obtain ⟨rfl,rfl,rfl,rfl,rfl,rfl,rfl,rfl⟩:=hn
      have dcz:(cz != 0)=true:=by simp [hcz]
      clear hcz
      go_enter Try.func12,Try.ntmps12
      go_wp2_with (first
       | (go_at_call 37;refine hpar.mono ?_;rintro r w2 ⟨rfl,hB2⟩;(have hx2:=HX.out.below hB2);obtain ⟨⟨b0,b1,b2,b3,b4,b5,b6⟩,_⟩:=hx2.cells;(have HX2:=Aside0.mk hx2);(have HQ2:=Aside0.mk (HQ.out.below hB2));(have HB2:=Aside0.mk (below_from2 HB0.out (Nat.le_refl _) hB2));(have how:=HOWN.out w2 HB2.out);clear hB2 hpar hx2)
       | (go_at_call 38;refine how.mono ?_;rintro r w3 ⟨v4,v5,v6,rfl,hR4,hR5,hR6,hB3⟩;obtain ⟨B4,d4,rfl,hd4,hC4⟩:=Kd.R_reads hR4;obtain ⟨B5,d5,rfl,hd5,hC5⟩:=Kd.R_reads hR5;obtain ⟨B6,d6,rfl,hd6,hC6⟩:=Kd.R_reads hR6;(have hx3:=HX2.out.below hB3);clear b0 b1 b2 b3 b4 b5 b6;obtain ⟨⟨b0,b1,b2,b3,b4,b5,b6⟩,_⟩:=hx3.cells;(have HX3:=Aside0.mk hx3);(have l3:=hx3.lt);(have HQ3:=Aside0.mk (HQ2.out.below hB3));(have HB3:=Aside0.mk (below_from2 HB2.out (Nat.le_refl _) hB3));(have hcut4:=HCUT4.out B4 d4 hd4);(have hcut6:=HCUT6.out B6 d6 hd6);(have HR4:=Aside0.mk hR4);(have HR5:=Aside0.mk hR5);(have HR6:=Aside0.mk hR6);(have HC4:=Aside0.mk hC4);(have HC5:=Aside0.mk hC5);(have HC6:=Aside0.mk hC6);(have HD5:=Aside0.mk hd5);(have HD6:=Aside0.mk hd6);(have hck:=page_Check.calls k a0_0 a0_1 a2 a1 B4 i.toNat (l0_4.take i.toNat) B5 d5 (l0_5) B6 (i+1).toNat (l0_6.take (i+1).toNat) cz (w3.alloc (.cells #[.int .i64 a0_0,.int .i64 a0_1,.int .i64 a2,.string a1,.slice B4 i.toNat i.toNat,.slice B5 l0_5.length d5,.slice B6 (i+1).toNat (i+1).toNat] 25)) (Kd.C_below (Kd.C_take HC4.out (show i.toNat≤l0_4.length by have:=HI.out;omega)) (below_alloc (Below.refl _ _) (.cells #[.int .i64 a0_0,.int .i64 a0_1,.int .i64 a2,.string a1,.slice B4 i.toNat i.toNat,.slice B5 l0_5.length d5,.slice B6 (i+1).toNat (i+1).toNat] 25))) (by rw [HT4.out];exact Nat.le_refl _) (Kd.C_below HC5.out (below_alloc (Below.refl _ _) (.cells #[.int .i64 a0_0,.int .i64 a0_1,.int .i64 a2,.string a1,.slice B4 i.toNat i.toNat,.slice B5 l0_5.length d5,.slice B6 (i+1).toNat (i+1).toNat] 25))) HD5.out (Kd.C_below (Kd.C_take HC6.out (show (i+1).toNat≤l0_6.length by have:=HI6.out;omega)) (below_alloc (Below.refl _ _) (.cells #[.int .i64 a0_0,.int .i64 a0_1,.int .i64 a2,.string a1,.slice B4 i.toNat i.toNat,.slice B5 l0_5.length d5,.slice B6 (i+1).toNat (i+1).toNat] 25))) (by rw [HT6.out];exact Nat.le_refl _) HCK.out);rw [HT4.out,HT6.out] at hck;clear hR4 hR5 hR6 hB3 hd4 hd5 hd6 hC4 hC5 hC6 how hx3)
       | (go_at_call 32;refine hck.mono ?_;rintro r w4 ⟨rfl,hB4⟩;(have HB34:=Aside0.mk (below_from2 (below_alloc (Below.refl w3.heap.size w3) (.cells #[.int .i64 a0_0,.int .i64 a0_1,.int .i64 a2,.string a1,.slice B4 i.toNat i.toNat,.slice B5 l0_5.length d5,.slice B6 (i+1).toNat (i+1).toNat] 25)) (Nat.le_refl _) hB4));(have HB4:=Aside0.mk (below_from2 HB3.out (Nat.le_refl _) HB34.out));(have ho4:NdAt w4 w3.heap.size a0_0 a0_1 a2 a1 (.slice B4 i.toNat i.toNat) (.slice B5 l0_5.length d5) (.slice B6 (i+1).toNat (i+1).toNat):=NdAt.below (blk_newN w3 _) hB4);clear b0 b1 b2 b3 b4 b5 b6;obtain ⟨⟨b0,b1,b2,b3,b4,b5,b6⟩,_⟩:=ho4.cells;(have hq4:=HQ3.out.below HB34.out);obtain ⟨_,f0,f1,f2,f3,f4,f5,f6⟩:=hq4.cells;(have lq:=hq4.lt);(have HQ4:=Aside0.mk hq4);clear hB4 hck ho4 hq4 hcut4 hcut6 l3))
      refine bodyPost_ret (results_ct rfl _ _ (w.heap.size+1) 25 #[.int .i64 0,.int .i64 0,.int .i64 0,.string ⟨#[]⟩,.slice none 0 0,.slice none 0 0,.slice none 0 0] (0,0) _ rfl (HQ4.out.set7 0 0 0 ⟨#[]⟩ (.slice none 0 0) (.slice none 0 0) (.slice none 0 0)) Try.underlying25 rfl (by kernel_rfl)) rfl ?_
      exact ⟨_,_,_,rfl,CS_nil _ _,CS_nil _ _,CS_nil _ _,below_set7 HB4.out (by omega)⟩
    ·rw [if_neg hb6] at hn
     cases hn
   ·rw [if_neg hlv] at hn
    by_cases hb5:i≤(l0_5.length:Int)
    ·rw [if_pos hb5] at hn
     obtain ⟨cz,hck,hn⟩:=Option.bind_eq_some_iff.1 hn
     have dlv:decide (a0_0 > 0)=false:=decide_eq_false hlv
     have hcut5:∀ (B:Option Addr) (d:Nat),l0_5.length≤d→∀ W:World,(Instr.slice 22 (.slice B l0_5.length d) none (some (.int .i64 i)) (some (.int .i64 i))).run Try.prog W=.ok (.slice B i.toNat i.toNat) W:=fun B d hd W=>cut_cap 22 9 .i64 .i64 Try.underlying22 (info_parts infoStr).choose_spec.1 B l0_5.length d i hi0 hb5 hd W
     have HCUT5:=Aside0.mk hcut5
     have ht5:(l0_5.take i.toNat).length=i.toNat:=by rw [List.length_take];omega
     have HT5:=Aside0.mk ht5
     have HCK:=Aside0.mk hck
     have HI5:=Aside0.mk hb5
     clear hcut5 ht5 hck hb5 hlv hi0
     by_cases hcz:cz=0
     ·rw [if_pos hcz] at hn
      simp only [Option.some.injEq,Prod.mk.injEq] at hn
      obtain ⟨rfl,rfl,rfl,rfl,rfl,rfl,rfl,rfl⟩:=hn
      have dcz:(cz != 0)=false:=by simp [hcz]
      clear hcz
      go_enter Try.func12,Try.ntmps12
      go_wp2_with (first
       | (go_at_call 37;refine hpar.mono ?_;rintro r w2 ⟨rfl,hB2⟩;(have hx2:=HX.out.below hB2);obtain ⟨⟨b0,b1,b2,b3,b4,b5,b6⟩,_⟩:=hx2.cells;(have HX2:=Aside0.mk hx2);(have HQ2:=Aside0.mk (HQ.out.below hB2));(have HB2:=Aside0.mk (below_from2 HB0.out (Nat.le_refl _) hB2));(have how:=HOWN.out w2 HB2.out);clear hB2 hpar hx2)
       | (go_at_call 38;refine how.mono ?_;rintro r w3 ⟨v4,v5,v6,rfl,hR4,hR5,hR6,hB3⟩;obtain ⟨B4,d4,rfl,hd4,hC4⟩:=Kd.R_reads hR4;obtain ⟨B5,d5,rfl,hd5,hC5⟩:=Kd.R_reads hR5;obtain ⟨B6,d6,rfl,hd6,hC6⟩:=Kd.R_reads hR6;(have hx3:=HX2.out.below hB3);clear b0 b1 b2 b3 b4 b5 b6;obtain ⟨⟨b0,b1,b2,b3,b4,b5,b6⟩,_⟩:=hx3.cells;(have HX3:=Aside0.mk hx3);(have l3:=hx3.lt);(have HQ3:=Aside0.mk (HQ2.out.below hB3));(have HB3:=Aside0.mk (below_from2 HB2.out (Nat.le_refl _) hB3));(have hcut4:=HCUT4.out B4 d4 hd4);(have hcut5:=HCUT5.out B5 d5 hd5);(have HR4:=Aside0.mk hR4);(have HR5:=Aside0.mk hR5);(have HR6:=Aside0.mk hR6);(have HC4:=Aside0.mk hC4);(have HC5:=Aside0.mk hC5);(have HC6:=Aside0.mk hC6);(have HD5:=Aside0.mk hd5);(have HD6:=Aside0.mk hd6);(have hck:=page_Check.calls k a0_0 a0_1 a2 a1 B4 i.toNat (l0_4.take i.toNat) B5 i.toNat (l0_5.take i.toNat) B6 d6 (l0_6) cz (w3.alloc (.cells #[.int .i64 a0_0,.int .i64 a0_1,.int .i64 a2,.string a1,.slice B4 i.toNat i.toNat,.slice B5 i.toNat i.toNat,.slice B6 l0_6.length d6] 25)) (Kd.C_below (Kd.C_take HC4.out (show i.toNat≤l0_4.length by have:=HI.out;omega)) (below_alloc (Below.refl _ _) (.cells #[.int .i64 a0_0,.int .i64 a0_1,.int .i64 a2,.string a1,.slice B4 i.toNat i.toNat,.slice B5 i.toNat i.toNat,.slice B6 l0_6.length d6] 25))) (by rw [HT4.out];exact Nat.le_refl _) (Kd.C_below (Kd.C_take HC5.out (show i.toNat≤l0_5.length by have:=HI5.out;omega)) (below_alloc (Below.refl _ _) (.cells #[.int .i64 a0_0,.int .i64 a0_1,.int .i64 a2,.string a1,.slice B4 i.toNat i.toNat,.slice B5 i.toNat i.toNat,.slice B6 l0_6.length d6] 25))) (by rw [HT5.out];exact Nat.le_refl _) (Kd.C_below HC6.out (below_alloc (Below.refl _ _) (.cells #[.int .i64 a0_0,.int .i64 a0_1,.int .i64 a2,.string a1,.slice B4 i.toNat i.toNat,.slice B5 i.toNat i.toNat,.slice B6 l0_6.length d6] 25))) HD6.out HCK.out);rw [HT4.out,HT5.out] at hck;clear hR4 hR5 hR6 hB3 hd4 hd5 hd6 hC4 hC5 hC6 how hx3)
       | (go_at_call 32;refine hck.mono ?_;rintro r w4 ⟨rfl,hB4⟩;(have HB34:=Aside0.mk (below_from2 (below_alloc (Below.refl w3.heap.size w3) (.cells #[.int .i64 a0_0,.int .i64 a0_1,.int .i64 a2,.string a1,.slice B4 i.toNat i.toNat,.slice B5 i.toNat i.toNat,.slice B6 l0_6.length d6] 25)) (Nat.le_refl _) hB4));(have HB4:=Aside0.mk (below_from2 HB3.out (Nat.le_refl _) HB34.out));(have ho4:NdAt w4 w3.heap.size a0_0 a0_1 a2 a1 (.slice B4 i.toNat i.toNat) (.slice B5 i.toNat i.toNat) (.slice B6 l0_6.length d6):=NdAt.below (blk_newN w3 _) hB4);clear b0 b1 b2 b3 b4 b5 b6;obtain ⟨⟨b0,b1,b2,b3,b4,b5,b6⟩,_⟩:=ho4.cells;(have hq4:=HQ3.out.below HB34.out);obtain ⟨_,f0,f1,f2,f3,f4,f5,f6⟩:=hq4.cells;(have lq:=hq4.lt);(have HQ4:=Aside0.mk hq4);clear hB4 hck ho4 hq4 hcut4 hcut5 l3))
      refine bodyPost_ret (results_ct rfl _ _ (w.heap.size+1) 25 #[.int .i64 a0_0,.int .i64 a0_1,.int .i64 a2,.string a1,.slice B4 i.toNat i.toNat,.slice B5 i.toNat i.toNat,.slice B6 l0_6.length d6] (0,0) _ rfl (HQ4.out.set7 a0_0 a0_1 a2 a1 (.slice B4 i.toNat i.toNat) (.slice B5 i.toNat i.toNat) (.slice B6 l0_6.length d6)) Try.underlying25 rfl (by kernel_rfl)) rfl ?_
      have hq2:=HQ2.out.lt
      have g4:=(Kd.R_reads' (RN_far7 (Kd.R_below HR4.out HB34.out) hq2 (.int .i64 a0_0) (.int .i64 a0_1) (.int .i64 a2) (.string a1) (.slice B4 i.toNat i.toNat) (.slice B5 i.toNat i.toNat) (.slice B6 l0_6.length d6))).2.2
      have g5:=(Kd.R_reads' (RN_far7 (Kd.R_below HR5.out HB34.out) hq2 (.int .i64 a0_0) (.int .i64 a0_1) (.int .i64 a2) (.string a1) (.slice B4 i.toNat i.toNat) (.slice B5 i.toNat i.toNat) (.slice B6 l0_6.length d6))).2.2
      have g6:=(Kd.R_reads' (RN_far7 (Kd.R_below HR6.out HB34.out) hq2 (.int .i64 a0_0) (.int .i64 a0_1) (.int .i64 a2) (.string a1) (.slice B4 i.toNat i.toNat) (.slice B5 i.toNat i.toNat) (.slice B6 l0_6.length d6))).2.2
      exact ⟨_,_,_,rfl,⟨B4,i.toNat,by rw [HT4.out],by rw [HT4.out];exact Nat.le_refl _,Kd.C_take g4 (show i.toNat≤l0_4.length by have:=HI.out;omega)⟩,⟨B5,i.toNat,by rw [HT5.out],by rw [HT5.out];exact Nat.le_refl _,Kd.C_take g5 (show i.toNat≤l0_5.length by have:=HI5.out;omega)⟩,⟨B6,d6,rfl,HD6.out,g6⟩,below_set7 HB4.out (by omega)⟩
     ·rw [if_neg hcz] at hn
      unfold leftZ at hn
      simp only [Option.some.injEq,Prod.mk.injEq] at hn
      obtain ⟨rfl,rfl,rfl,rfl,rfl,rfl,rfl,rfl⟩:=hn
      have dcz:(cz != 0)=true:=by simp [hcz]
      clear hcz
      go_enter Try.func12,Try.ntmps12
      go_wp2_with (first
       | (go_at_call 37;refine hpar.mono ?_;rintro r w2 ⟨rfl,hB2⟩;(have hx2:=HX.out.below hB2);obtain ⟨⟨b0,b1,b2,b3,b4,b5,b6⟩,_⟩:=hx2.cells;(have HX2:=Aside0.mk hx2);(have HQ2:=Aside0.mk (HQ.out.below hB2));(have HB2:=Aside0.mk (below_from2 HB0.out (Nat.le_refl _) hB2));(have how:=HOWN.out w2 HB2.out);clear hB2 hpar hx2)
       | (go_at_call 38;refine how.mono ?_;rintro r w3 ⟨v4,v5,v6,rfl,hR4,hR5,hR6,hB3⟩;obtain ⟨B4,d4,rfl,hd4,hC4⟩:=Kd.R_reads hR4;obtain ⟨B5,d5,rfl,hd5,hC5⟩:=Kd.R_reads hR5;obtain ⟨B6,d6,rfl,hd6,hC6⟩:=Kd.R_reads hR6;(have hx3:=HX2.out.below hB3);clear b0 b1 b2 b3 b4 b5 b6;obtain ⟨⟨b0,b1,b2,b3,b4,b5,b6⟩,_⟩:=hx3.cells;(have HX3:=Aside0.mk hx3);(have l3:=hx3.lt);(have HQ3:=Aside0.mk (HQ2.out.below hB3));(have HB3:=Aside0.mk (below_from2 HB2.out (Nat.le_refl _) hB3));(have hcut4:=HCUT4.out B4 d4 hd4);(have hcut5:=HCUT5.out B5 d5 hd5);(have HR4:=Aside0.mk hR4);(have HR5:=Aside0.mk hR5);(have HR6:=Aside0.mk hR6);(have HC4:=Aside0.mk hC4);(have HC5:=Aside0.mk hC5);(have HC6:=Aside0.mk hC6);(have HD5:=Aside0.mk hd5);(have HD6:=Aside0.mk hd6);(have hck:=page_Check.calls k a0_0 a0_1 a2 a1 B4 i.toNat (l0_4.take i.toNat) B5 i.toNat (l0_5.take i.toNat) B6 d6 (l0_6) cz (w3.alloc (.cells #[.int .i64 a0_0,.int .i64 a0_1,.int .i64 a2,.string a1,.slice B4 i.toNat i.toNat,.slice B5 i.toNat i.toNat,.slice B6 l0_6.length d6] 25)) (Kd.C_below (Kd.C_take HC4.out (show i.toNat≤l0_4.length by have:=HI.out;omega)) (below_alloc (Below.refl _ _) (.cells #[.int .i64 a0_0,.int .i64 a0_1,.int .i64 a2,.string a1,.slice B4 i.toNat i.toNat,.slice B5 i.toNat i.toNat,.slice B6 l0_6.length d6] 25))) (by rw [HT4.out];exact Nat.le_refl _) (Kd.C_below (Kd.C_take HC5.out (show i.toNat≤l0_5.length by have:=HI5.out;omega)) (below_alloc (Below.refl _ _) (.cells #[.int .i64 a0_0,.int .i64 a0_1,.int .i64 a2,.string a1,.slice B4 i.toNat i.toNat,.slice B5 i.toNat i.toNat,.slice B6 l0_6.length d6] 25))) (by rw [HT5.out];exact Nat.le_refl _) (Kd.C_below HC6.out (below_alloc (Below.refl _ _) (.cells #[.int .i64 a0_0,.int .i64 a0_1,.int .i64 a2,.string a1,.slice B4 i.toNat i.toNat,.slice B5 i.toNat i.toNat,.slice B6 l0_6.length d6] 25))) HD6.out HCK.out);rw [HT4.out,HT5.out] at hck;clear hR4 hR5 hR6 hB3 hd4 hd5 hd6 hC4 hC5 hC6 how hx3)
       | (go_at_call 32;refine hck.mono ?_;rintro r w4 ⟨rfl,hB4⟩;(have HB34:=Aside0.mk (below_from2 (below_alloc (Below.refl w3.heap.size w3) (.cells #[.int .i64 a0_0,.int .i64 a0_1,.int .i64 a2,.string a1,.slice B4 i.toNat i.toNat,.slice B5 i.toNat i.toNat,.slice B6 l0_6.length d6] 25)) (Nat.le_refl _) hB4));(have HB4:=Aside0.mk (below_from2 HB3.out (Nat.le_refl _) HB34.out));(have ho4:NdAt w4 w3.heap.size a0_0 a0_1 a2 a1 (.slice B4 i.toNat i.toNat) (.slice B5 i.toNat i.toNat) (.slice B6 l0_6.length d6):=NdAt.below (blk_newN w3 _) hB4);clear b0 b1 b2 b3 b4 b5 b6;obtain ⟨⟨b0,b1,b2,b3,b4,b5,b6⟩,_⟩:=ho4.cells;(have hq4:=HQ3.out.below HB34.out);obtain ⟨_,f0,f1,f2,f3,f4,f5,f6⟩:=hq4.cells;(have lq:=hq4.lt);(have HQ4:=Aside0.mk hq4);clear hB4 hck ho4 hq4 hcut4 hcut5 l3))
      refine bodyPost_ret (results_ct rfl _ _ (w.heap.size+1) 25 #[.int .i64 0,.int .i64 0,.int .i64 0,.string ⟨#[]⟩,.slice none 0 0,.slice none 0 0,.slice none 0 0] (0,0) _ rfl (HQ4.out.set7 0 0 0 ⟨#[]⟩ (.slice none 0 0) (.slice none 0 0) (.slice none 0 0)) Try.underlying25 rfl (by kernel_rfl)) rfl ?_
      exact ⟨_,_,_,rfl,CS_nil _ _,CS_nil _ _,CS_nil _ _,below_set7 HB4.out (by omega)⟩
    ·rw [if_neg hb5] at hn
     cases hn
  ·rw [if_neg hb] at hn
   cases hn
 ·rw [if_neg he] at h
  have d0:(e != 0)=true:=by simp [he]
  unfold leftZ at h
  simp only [Option.some.injEq,Prod.mk.injEq] at h
  obtain ⟨rfl,rfl,rfl,rfl,rfl,rfl,rfl,rfl⟩:=h
  clear he hp hB0 hsz hr0_4 hr0_5 hr0_6 hc0_4 hc0_5 hc0_6
  go_enter Try.func12,Try.ntmps12
  go_wp2_with (go_at_call 37;refine hpar.mono ?_;rintro r w2 ⟨rfl,hB2⟩;(have hq:=HQ.out.below hB2);obtain ⟨⟨_,_,_,_,_,_,_⟩,f0,f1,f2,f3,f4,f5,f6⟩:=hq.cells;(have HQ2:=Aside0.mk hq);(have l2:=hq.lt);(have HB2:=Aside0.mk (below_from2 HB0.out (Nat.le_refl _) hB2));clear hB2 hpar hq)
  refine bodyPost_ret (results_ct rfl _ _ (w.heap.size+1) 25 #[.int .i64 0,.int .i64 0,.int .i64 0,.string ⟨#[]⟩,.slice none 0 0,.slice none 0 0,.slice none 0 0] (0,0) _ rfl (HQ2.out.set7 0 0 0 ⟨#[]⟩ (.slice none 0 0) (.slice none 0 0) (.slice none 0 0)) Try.underlying25 rfl (by kernel_rfl)) rfl ?_
  exact ⟨_,_,_,rfl,CS_nil _ _,CS_nil _ _,CS_nil _ _,below_set7 HB2.out (by omega)⟩
end Go.Proofs.Ytcocmpblmkdmjaa.Pr
