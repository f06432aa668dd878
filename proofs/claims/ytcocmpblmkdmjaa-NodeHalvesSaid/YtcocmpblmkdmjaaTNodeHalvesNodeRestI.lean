-- A part of the text NodeRestI, thinned by a program of this session.
import Derived.Test.YtcocmpblmkdmjaaTNodeHalvesNodeRest
namespace Go.Proofs.Ytcocmpblmkdmjaa.Pr
open Go.RowKit Go.Proofs.YtcocmpblmkdmjaaW.PrintWords Go.Proofs.YtcocmpblmkdmjaaW.PrintLast Go.Proofs.YtcocmpblmkdmjaaW.PrintMore
set_option linter.unusedVariables false
set_option linter.unusedSimpArgs false
set_option maxHeartbeats 8000000 in
set_option maxRecDepth 100000 in
theorem rest_inner (k:Nat) (a0_0:Int) (a0_1:Int) (a0_2:Int) (a0_3:ByteArray) (A0_4:Option Addr) (c0_4:Nat) (l0_4:List ByteArray) (A0_5:Option Addr) (c0_5:Nat) (l0_5:List ByteArray) (A0_6:Option Addr) (c0_6:Nat) (l0_6:List Int) (a1:ByteArray) (i:Int) (w:World) (hr0_4:Kd.C Kd.string w A0_4 l0_4.length l0_4) (hc0_4:l0_4.length≤c0_4) (hr0_5:Kd.C Kd.string w A0_5 l0_5.length l0_5) (hc0_5:l0_5.length≤c0_5) (hr0_6:Kd.C (Kd.int .i64) w A0_6 l0_6.length l0_6) (hc0_6:l0_6.length≤c0_6) (hp:node_parted.f k a0_0 a0_1 a0_2 a0_3 l0_4 l0_5 l0_6 a1 1=some (i,0)) (hlv:a0_0 > 0) (hi0:0≤i) (hi4:i+1≤(l0_4.length:Int)) (hi6:i+1≤(l0_6.length:Int)) (hn4:l0_4.length≤8796093022208) (hn5:l0_5.length≤8796093022208) (hn6:l0_6.length≤8796093022208) :
  Calls Try.prog 14 #[.agg #[.int .i64 a0_0,.int .i64 a0_1,.int .i64 a0_2,.string a0_3,.slice A0_4 l0_4.length c0_4,.slice A0_5 l0_5.length c0_5,.slice A0_6 l0_6.length c0_6],.string a1] w fun e w'=>∃ v4 v5 v6:Value,e=.returned (.tuple #[.agg #[.int .i64 a0_0,.int .i64 a0_1,.int .i64 a0_2,.string a0_3,v4,v5,v6],.int .i64 0])∧CS Kd.string w' v4 (l0_4.drop (i+1).toNat)∧CS Kd.string w' v5 l0_5∧CS (Kd.int .i64) w' v6 (l0_6.drop (i+1).toNat)∧Below w.heap.size w w':=by
 have hsz:(w.alloc (.cells #[.int .i64 a0_0,.int .i64 a0_1,.int .i64 a0_2,.string a0_3,.slice A0_4 l0_4.length c0_4,.slice A0_5 l0_5.length c0_5,.slice A0_6 l0_6.length c0_6] 25)).heap.size=w.heap.size+1:=by
  show (w.heap.push _).size=_
  simp
 have HX:Aside0 (NdAt ((w.alloc (.cells #[.int .i64 a0_0,.int .i64 a0_1,.int .i64 a0_2,.string a0_3,.slice A0_4 l0_4.length c0_4,.slice A0_5 l0_5.length c0_5,.slice A0_6 l0_6.length c0_6] 25)).alloc (.cells #[.int .i64 0,.int .i64 0,.int .i64 0,.string ⟨#[]⟩,.slice none 0 0,.slice none 0 0,.slice none 0 0] 25)) w.heap.size a0_0 a0_1 a0_2 a0_3 (.slice A0_4 l0_4.length c0_4) (.slice A0_5 l0_5.length c0_5) (.slice A0_6 l0_6.length c0_6)):=⟨NdAt.below (blk_newN _ _) (below_alloc (Below.refl _ _) _)⟩
 have HQ:Aside0 (NdAt ((w.alloc (.cells #[.int .i64 a0_0,.int .i64 a0_1,.int .i64 a0_2,.string a0_3,.slice A0_4 l0_4.length c0_4,.slice A0_5 l0_5.length c0_5,.slice A0_6 l0_6.length c0_6] 25)).alloc (.cells #[.int .i64 0,.int .i64 0,.int .i64 0,.string ⟨#[]⟩,.slice none 0 0,.slice none 0 0,.slice none 0 0] 25)) (w.heap.size+1) 0 0 0 ⟨#[]⟩ (.slice none 0 0) (.slice none 0 0) (.slice none 0 0)):=⟨by rw [← hsz];exact blk_newN _ _⟩
 have hB0:Below w.heap.size w ((w.alloc (.cells #[.int .i64 a0_0,.int .i64 a0_1,.int .i64 a0_2,.string a0_3,.slice A0_4 l0_4.length c0_4,.slice A0_5 l0_5.length c0_5,.slice A0_6 l0_6.length c0_6] 25)).alloc (.cells #[.int .i64 0,.int .i64 0,.int .i64 0,.string ⟨#[]⟩,.slice none 0 0,.slice none 0 0,.slice none 0 0] 25)):=below_alloc (below_alloc (Below.refl _ _) _) _
 have HB0:=Aside0.mk hB0
 have hpar:=node_parted.calls k a0_0 a0_1 a0_2 a0_3 A0_4 c0_4 l0_4 A0_5 c0_5 l0_5 A0_6 c0_6 l0_6 a1 1 i 0 _ (Kd.C_below hr0_4 hB0) hc0_4 (Kd.C_below hr0_5 hB0) hc0_5 (Kd.C_below hr0_6 hB0) hc0_6 hp
 have how:node_own.f a0_0 a0_1 a0_2 a0_3 l0_4 l0_5 l0_6=some (a0_0,a0_1,a0_2,a0_3,l0_4,l0_5,l0_6):=by
  unfold node_own.f slices_Clone_string_string.f slices_Clone_int_int.f
  rw [if_pos hn4,if_pos hn5,if_pos hn6]
  rfl
 have HOWN:=Aside0.mk (fun W (hB:Below w.heap.size w W)=>node_own.calls a0_0 a0_1 a0_2 a0_3 A0_4 c0_4 l0_4 A0_5 c0_5 l0_5 A0_6 c0_6 l0_6 a0_0 a0_1 a0_2 a0_3 l0_4 l0_5 l0_6 W (Kd.C_below hr0_4 hB) hc0_4 (Kd.C_below hr0_5 hB) hc0_5 (Kd.C_below hr0_6 hB) hc0_6 how)
 have hj0:0≤i+1:=by omega
 have hcutf:∀ (B:Option Addr) (n d:Nat),i+1≤(n:Int)→∀ W:World,(Instr.slice 22 (.slice B n d) (some (.int .i64 (i+1))) none none).run Try.prog W=.ok (.slice (if d=(i+1).toNat then B else B.map (·.add ((i+1).toNat*1))) (n - (i+1).toNat) (d - (i+1).toNat)) W:=fun B n d hd W=>cut_from 22 9 .i64 Try.underlying22 (info_parts infoStr).choose_spec.1 1 (info_parts infoStr).choose_spec.2.2.1 B n d (i+1) hj0 hd W
 have hcutg:∀ (B:Option Addr) (n d:Nat),i+1≤(n:Int)→∀ W:World,(Instr.slice 23 (.slice B n d) (some (.int .i64 (i+1))) none none).run Try.prog W=.ok (.slice (if d=(i+1).toNat then B else B.map (·.add ((i+1).toNat*1))) (n - (i+1).toNat) (d - (i+1).toNat)) W:=fun B n d hd W=>cut_from 23 3 .i64 Try.underlying23 (info_parts infoInt).choose_spec.1 1 (info_parts infoInt).choose_spec.2.2.1 B n d (i+1) hj0 hd W
 have HCUTF:=Aside0.mk hcutf
 have HCUTG:=Aside0.mk hcutg
 have HI:=Aside0.mk (And.intro hj0 hi4)
 have HI6:=Aside0.mk hi6
 have hw1:IntKind.i64.wrap (i+1)=i+1:=by
  rw [IntKind.wrap_i64]
  omega
 have dlv:decide (a0_0 > 0)=true:=decide_eq_true hlv
 have hz4:l0_4.length≤9223372036854775807:=by omega
 have hz5:l0_5.length≤9223372036854775807:=by omega
 have hz6:l0_6.length≤9223372036854775807:=by omega
 clear hn4 hn5 hn6 hi4 hi6 hi0 hj0 hlv hcutf hcutg how hp hB0 hsz hr0_4 hr0_5 hr0_6 hc0_4 hc0_5 hc0_6
 go_enter Try.func14,Try.ntmps14
 go_upto_region 6 with (first
  | (go_at_call 37;refine hpar.mono ?_;rintro r w2 ⟨rfl,hB2⟩;(have hx2:=HX.out.below hB2);obtain ⟨⟨b0,b1,b2,b3,b4,b5,b6⟩,_⟩:=hx2.cells;(have HX2:=Aside0.mk hx2);(have HQ2:=Aside0.mk (HQ.out.below hB2));(have HB2:=Aside0.mk (below_from2 HB0.out (Nat.le_refl _) hB2));(have how:=HOWN.out w2 HB2.out);clear hB2 hpar hx2)
  | (go_at_call 38;refine how.mono ?_;rintro r w3 ⟨v4,v5,v6,rfl,hR4,hR5,hR6,hB3⟩;obtain ⟨B4,d4,rfl,hd4,hC4⟩:=Kd.R_reads hR4;obtain ⟨B5,d5,rfl,hd5,hC5⟩:=Kd.R_reads hR5;obtain ⟨B6,d6,rfl,hd6,hC6⟩:=Kd.R_reads hR6;(have hx3:=HX2.out.below hB3);clear b0 b1 b2 b3 b4 b5 b6;obtain ⟨⟨b0,b1,b2,b3,b4,b5,b6⟩,_⟩:=hx3.cells;(have HX3:=Aside0.mk hx3);(have l3:=hx3.lt);(have HQ3:=Aside0.mk (HQ2.out.below hB3));(have HB3:=Aside0.mk (below_from2 HB2.out (Nat.le_refl _) hB3));(have hcut4:=HCUTF.out B4 l0_4.length d4 HI.out.2);(have hcut6:=HCUTG.out B6 l0_6.length d6 HI6.out);obtain ⟨D4,hD4⟩:∃ D,D=(if d4=(i+1).toNat then B4 else B4.map (·.add ((i+1).toNat*1))):=⟨_,rfl⟩;rw [← hD4] at hcut4;obtain ⟨D6,hD6⟩:∃ D,D=(if d6=(i+1).toNat then B6 else B6.map (·.add ((i+1).toNat*1))):=⟨_,rfl⟩;rw [← hD6] at hcut6;(have HDD4:=Aside0.mk hD4);(have HDD6:=Aside0.mk hD6);clear hD4 hD6;(have HR4:=Aside0.mk hR4);(have HR5:=Aside0.mk hR5);(have HR6:=Aside0.mk hR6);(have HD5:=Aside0.mk hd5);clear hR4 hR5 hR6 hB3 hd4 hd5 hd6 hC4 hC5 hC6 how hx3))
 have hq3:=HQ3.out
 obtain ⟨_,f0,f1,f2,f3,f4,f5,f6⟩:=hq3.cells
 have lq:=hq3.lt
 clear hq3
 go_region
 go_wp2
 refine bodyPost_ret (results_ct rfl _ _ (w.heap.size+1) 25 #[.int .i64 a0_0,.int .i64 a0_1,.int .i64 a0_2,.string a0_3,.slice D4 (l0_4.length - (i+1).toNat) (d4 - (i+1).toNat),.slice B5 l0_5.length d5,.slice D6 (l0_6.length - (i+1).toNat) (d6 - (i+1).toNat)] (0,0) _ rfl (NdAt.below (NdAt.below (HQ3.out.set7 a0_0 a0_1 a0_2 a0_3 (.slice D4 (l0_4.length - (i+1).toNat) (d4 - (i+1).toNat)) (.slice B5 l0_5.length d5) (.slice D6 (l0_6.length - (i+1).toNat) (d6 - (i+1).toNat))) (below_alloc (Below.refl _ _) _)) (below_drew (Below.refl _ _))) Try.underlying25 rfl (by kernel_rfl)) rfl ?_
 have hlt:w.heap.size+1 < w2.heap.size:=HQ2.out.lt
 have far:=fun {α:Type} (d:Kd α) (e:Nat) (ok:Nat→Prop) (v:Value) (xs:List α) (h:d.R e w3 w2.heap.size ok v xs) (y0 y1 y2 y3 y4 y5 y6:Value) (o:Obj)=>Kd.R_drew (Kd.R_below (RN_far7 h hlt y0 y1 y2 y3 y4 y5 y6) (below_alloc (Below.refl _ _) o))
 have q4:=Kd.Q_reads' (Kd.Q_drop (k:=(i+1).toNat) (Kd.Q_of_R (far _ _ _ _ _ HR4.out (.int .i64 a0_0) (.int .i64 a0_1) (.int .i64 a0_2) (.string a0_3) (.slice D4 (l0_4.length - (i+1).toNat) (d4 - (i+1).toNat)) (.slice B5 l0_5.length d5) (.slice D6 (l0_6.length - (i+1).toNat) (d6 - (i+1).toNat)) (.cells #[.int .i64 a0_0,.int .i64 a0_1,.int .i64 a0_2,.string a0_3,.slice D4 (l0_4.length - (i+1).toNat) (d4 - (i+1).toNat),.slice B5 l0_5.length d5,.slice D6 (l0_6.length - (i+1).toNat) (d6 - (i+1).toNat)] 25))) (by have:=HI.out;omega))
 have q6:=Kd.Q_reads' (Kd.Q_drop (k:=(i+1).toNat) (Kd.Q_of_R (far _ _ _ _ _ HR6.out (.int .i64 a0_0) (.int .i64 a0_1) (.int .i64 a0_2) (.string a0_3) (.slice D4 (l0_4.length - (i+1).toNat) (d4 - (i+1).toNat)) (.slice B5 l0_5.length d5) (.slice D6 (l0_6.length - (i+1).toNat) (d6 - (i+1).toNat)) (.cells #[.int .i64 a0_0,.int .i64 a0_1,.int .i64 a0_2,.string a0_3,.slice D4 (l0_4.length - (i+1).toNat) (d4 - (i+1).toNat),.slice B5 l0_5.length d5,.slice D6 (l0_6.length - (i+1).toNat) (d6 - (i+1).toNat)] 25))) (by have:=HI6.out;omega))
 have q5:=Kd.R_reads' (far _ _ _ _ _ HR5.out (.int .i64 a0_0) (.int .i64 a0_1) (.int .i64 a0_2) (.string a0_3) (.slice D4 (l0_4.length - (i+1).toNat) (d4 - (i+1).toNat)) (.slice B5 l0_5.length d5) (.slice D6 (l0_6.length - (i+1).toNat) (d6 - (i+1).toNat)) (.cells #[.int .i64 a0_0,.int .i64 a0_1,.int .i64 a0_2,.string a0_3,.slice D4 (l0_4.length - (i+1).toNat) (d4 - (i+1).toNat),.slice B5 l0_5.length d5,.slice D6 (l0_6.length - (i+1).toNat) (d6 - (i+1).toNat)] 25))
 refine ⟨.slice D4 (l0_4.length - (i+1).toNat) (d4 - (i+1).toNat),.slice B5 l0_5.length d5,.slice D6 (l0_6.length - (i+1).toNat) (d6 - (i+1).toNat),rfl,?_,?_,?_,?_⟩
 ·refine ⟨D4,d4 - (i+1).toNat,by rw [List.length_drop],by rw [List.length_drop];exact q4.2.1,?_⟩
  have h:=q4.2.2
  rw [show (if d4=(i+1).toNat then B4 else Option.map (fun x=>x.add ((i+1).toNat*Kd.string.sz)) B4)=D4 from HDD4.out.symm] at h
  exact h
 ·exact ⟨B5,d5,rfl,HD5.out,q5.2.2⟩
 ·refine ⟨D6,d6 - (i+1).toNat,by rw [List.length_drop],by rw [List.length_drop];exact q6.2.1,?_⟩
  have h:=q6.2.2
  rw [show (if d6=(i+1).toNat then B6 else Option.map (fun x=>x.add ((i+1).toNat*(Kd.int .i64).sz)) B6)=D6 from HDD6.out.symm] at h
  exact h
 ·have hb7:=below_set7 (g:=w.heap.size+1) (y0:=.int .i64 a0_0) (y1:=.int .i64 a0_1) (y2:=.int .i64 a0_2) (y3:=.string a0_3) (y4:=.slice D4 (l0_4.length - (i+1).toNat) (d4 - (i+1).toNat)) (y5:=.slice B5 l0_5.length d5) (y6:=.slice D6 (l0_6.length - (i+1).toNat) (d6 - (i+1).toNat)) HB3.out (by omega)
  exact below_drew (hb7.alloc hb7.size _)
set_option maxHeartbeats 8000000 in
set_option maxRecDepth 100000 in
theorem rest_err (k:Nat) (a0_0:Int) (a0_1:Int) (a0_2:Int) (a0_3:ByteArray) (A0_4:Option Addr) (c0_4:Nat) (l0_4:List ByteArray) (A0_5:Option Addr) (c0_5:Nat) (l0_5:List ByteArray) (A0_6:Option Addr) (c0_6:Nat) (l0_6:List Int) (a1:ByteArray) (i e:Int) (w:World) (hr0_4:Kd.C Kd.string w A0_4 l0_4.length l0_4) (hc0_4:l0_4.length≤c0_4) (hr0_5:Kd.C Kd.string w A0_5 l0_5.length l0_5) (hc0_5:l0_5.length≤c0_5) (hr0_6:Kd.C (Kd.int .i64) w A0_6 l0_6.length l0_6) (hc0_6:l0_6.length≤c0_6) (hp:node_parted.f k a0_0 a0_1 a0_2 a0_3 l0_4 l0_5 l0_6 a1 1=some (i,e)) (he:e≠0) :
  Calls Try.prog 14 #[.agg #[.int .i64 a0_0,.int .i64 a0_1,.int .i64 a0_2,.string a0_3,.slice A0_4 l0_4.length c0_4,.slice A0_5 l0_5.length c0_5,.slice A0_6 l0_6.length c0_6],.string a1] w fun r w'=>∃ v4 v5 v6:Value,r=.returned (.tuple #[.agg #[.int .i64 0,.int .i64 0,.int .i64 0,.string ⟨#[]⟩,v4,v5,v6],.int .i64 e])∧CS Kd.string w' v4 []∧CS Kd.string w' v5 []∧CS (Kd.int .i64) w' v6 []∧Below w.heap.size w w':=by
 have hsz:(w.alloc (.cells #[.int .i64 a0_0,.int .i64 a0_1,.int .i64 a0_2,.string a0_3,.slice A0_4 l0_4.length c0_4,.slice A0_5 l0_5.length c0_5,.slice A0_6 l0_6.length c0_6] 25)).heap.size=w.heap.size+1:=by
  show (w.heap.push _).size=_
  simp
 have HX:Aside0 (NdAt ((w.alloc (.cells #[.int .i64 a0_0,.int .i64 a0_1,.int .i64 a0_2,.string a0_3,.slice A0_4 l0_4.length c0_4,.slice A0_5 l0_5.length c0_5,.slice A0_6 l0_6.length c0_6] 25)).alloc (.cells #[.int .i64 0,.int .i64 0,.int .i64 0,.string ⟨#[]⟩,.slice none 0 0,.slice none 0 0,.slice none 0 0] 25)) w.heap.size a0_0 a0_1 a0_2 a0_3 (.slice A0_4 l0_4.length c0_4) (.slice A0_5 l0_5.length c0_5) (.slice A0_6 l0_6.length c0_6)):=⟨NdAt.below (blk_newN _ _) (below_alloc (Below.refl _ _) _)⟩
 have HQ:Aside0 (NdAt ((w.alloc (.cells #[.int .i64 a0_0,.int .i64 a0_1,.int .i64 a0_2,.string a0_3,.slice A0_4 l0_4.length c0_4,.slice A0_5 l0_5.length c0_5,.slice A0_6 l0_6.length c0_6] 25)).alloc (.cells #[.int .i64 0,.int .i64 0,.int .i64 0,.string ⟨#[]⟩,.slice none 0 0,.slice none 0 0,.slice none 0 0] 25)) (w.heap.size+1) 0 0 0 ⟨#[]⟩ (.slice none 0 0) (.slice none 0 0) (.slice none 0 0)):=⟨by rw [← hsz];exact blk_newN _ _⟩
 have hB0:Below w.heap.size w ((w.alloc (.cells #[.int .i64 a0_0,.int .i64 a0_1,.int .i64 a0_2,.string a0_3,.slice A0_4 l0_4.length c0_4,.slice A0_5 l0_5.length c0_5,.slice A0_6 l0_6.length c0_6] 25)).alloc (.cells #[.int .i64 0,.int .i64 0,.int .i64 0,.string ⟨#[]⟩,.slice none 0 0,.slice none 0 0,.slice none 0 0] 25)):=below_alloc (below_alloc (Below.refl _ _) _) _
 have HB0:=Aside0.mk hB0
 have hpar:=node_parted.calls k a0_0 a0_1 a0_2 a0_3 A0_4 c0_4 l0_4 A0_5 c0_5 l0_5 A0_6 c0_6 l0_6 a1 1 i e _ (Kd.C_below hr0_4 hB0) hc0_4 (Kd.C_below hr0_5 hB0) hc0_5 (Kd.C_below hr0_6 hB0) hc0_6 hp
 have d0:(e != 0)=true:=by simp [he]
 clear hp hB0 hsz hc0_4 hc0_5 hc0_6 hr0_4 hr0_5 hr0_6 he
 go_enter Try.func14,Try.ntmps14
 go_wp2_with (first
  | (go_at_call 37;refine hpar.mono ?_;rintro r w2 ⟨rfl,hB2⟩;(have hx2:=HX.out.below hB2);obtain ⟨⟨b0,b1,b2,b3,b4,b5,b6⟩,_⟩:=hx2.cells;(have HX2:=Aside0.mk hx2);(have hq2:=HQ.out.below hB2);obtain ⟨_,f0,f1,f2,f3,f4,f5,f6⟩:=hq2.cells;(have lq:=hq2.lt);(have HQ2:=Aside0.mk hq2);(have HB2:=Aside0.mk (below_from2 HB0.out (Nat.le_refl _) hB2));clear hB2 hpar hx2 hq2))
 refine bodyPost_ret (results_ct rfl _ _ (w.heap.size+1) 25 #[.int .i64 0,.int .i64 0,.int .i64 0,.string ⟨#[]⟩,.slice none 0 0,.slice none 0 0,.slice none 0 0] (0,0) _ rfl (HQ2.out.set7 0 0 0 ⟨#[]⟩ (.slice none 0 0) (.slice none 0 0) (.slice none 0 0)) Try.underlying25 rfl (by kernel_rfl)) rfl ?_
 exact ⟨_,_,_,rfl,CS_nil _ _,CS_nil _ _,CS_nil _ _,below_set7 HB2.out (by omega)⟩
def restG (k:Nat) (a0_0:Int) (a0_1:Int) (a0_2:Int) (a0_3:ByteArray) (l0_4:List ByteArray) (l0_5:List ByteArray) (l0_6:List Int) (a1:ByteArray):Option (Int×Int×Int×ByteArray×List ByteArray×List ByteArray×List Int×Int) :=
 (node_parted.f k a0_0 a0_1 a0_2 a0_3 l0_4 l0_5 l0_6 a1 1).bind fun p =>
  if p.2=0 then
   if 0≤p.1∧l0_4.length≤8796093022208∧l0_5.length≤8796093022208∧l0_6.length≤8796093022208 then
    if a0_0 > 0 then
     if p.1+1≤(l0_4.length:Int)∧p.1+1≤(l0_6.length:Int) then some (a0_0,a0_1,a0_2,a0_3,l0_4.drop (p.1+1).toNat,l0_5,l0_6.drop (p.1+1).toNat,0)
     else none
    else
     if p.1≤(l0_4.length:Int)∧p.1≤(l0_5.length:Int) then some (a0_0,a0_1,a0_2,a0_3,l0_4.drop p.1.toNat,l0_5.drop p.1.toNat,l0_6,0)
     else none
   else none
  else leftZ p.2
theorem rest_calls (k:Nat) (a0_0:Int) (a0_1:Int) (a0_2:Int) (a0_3:ByteArray) (A0_4:Option Addr) (c0_4:Nat) (l0_4:List ByteArray) (A0_5:Option Addr) (c0_5:Nat) (l0_5:List ByteArray) (A0_6:Option Addr) (c0_6:Nat) (l0_6:List Int) (a1:ByteArray) (r1 r2 r3:Int) (r4:ByteArray) (r5 r6:List ByteArray) (r7:List Int) (r8:Int) (w:World) (hr0_4:Kd.C Kd.string w A0_4 l0_4.length l0_4) (hc0_4:l0_4.length≤c0_4) (hr0_5:Kd.C Kd.string w A0_5 l0_5.length l0_5) (hc0_5:l0_5.length≤c0_5) (hr0_6:Kd.C (Kd.int .i64) w A0_6 l0_6.length l0_6) (hc0_6:l0_6.length≤c0_6) (h:restG k a0_0 a0_1 a0_2 a0_3 l0_4 l0_5 l0_6 a1=some (r1,r2,r3,r4,r5,r6,r7,r8)) :
  Calls Try.prog 14 #[.agg #[.int .i64 a0_0,.int .i64 a0_1,.int .i64 a0_2,.string a0_3,.slice A0_4 l0_4.length c0_4,.slice A0_5 l0_5.length c0_5,.slice A0_6 l0_6.length c0_6],.string a1] w fun e w'=>∃ v4 v5 v6:Value,e=.returned (.tuple #[.agg #[.int .i64 r1,.int .i64 r2,.int .i64 r3,.string r4,v4,v5,v6],.int .i64 r8])∧CS Kd.string w' v4 r5∧CS Kd.string w' v5 r6∧CS (Kd.int .i64) w' v6 r7∧Below w.heap.size w w':=by
 unfold restG at h
 obtain ⟨⟨i,e⟩,hp,h⟩:=Option.bind_eq_some_iff.1 h
 dsimp only at h
 by_cases he:e=0
 ·rw [if_pos he] at h
  subst he
  by_cases hb:0≤i∧l0_4.length≤8796093022208∧l0_5.length≤8796093022208∧l0_6.length≤8796093022208
  ·rw [if_pos hb] at h
   by_cases hlv:a0_0 > 0
   ·rw [if_pos hlv] at h
    by_cases hi:i+1≤(l0_4.length:Int)∧i+1≤(l0_6.length:Int)
    ·rw [if_pos hi] at h
     simp only [Option.some.injEq,Prod.mk.injEq] at h
     obtain ⟨rfl,rfl,rfl,rfl,rfl,rfl,rfl,rfl⟩:=h
     exact rest_inner k a0_0 a0_1 a0_2 a0_3 A0_4 c0_4 l0_4 A0_5 c0_5 l0_5 A0_6 c0_6 l0_6 a1 i w hr0_4 hc0_4 hr0_5 hc0_5 hr0_6 hc0_6 hp hlv hb.1 hi.1 hi.2 hb.2.1 hb.2.2.1 hb.2.2.2
    ·rw [if_neg hi] at h
     cases h
   ·rw [if_neg hlv] at h
    by_cases hi:i≤(l0_4.length:Int)∧i≤(l0_5.length:Int)
    ·rw [if_pos hi] at h
     simp only [Option.some.injEq,Prod.mk.injEq] at h
     obtain ⟨rfl,rfl,rfl,rfl,rfl,rfl,rfl,rfl⟩:=h
     exact rest_leaf k a0_0 a0_1 a0_2 a0_3 A0_4 c0_4 l0_4 A0_5 c0_5 l0_5 A0_6 c0_6 l0_6 a1 i w hr0_4 hc0_4 hr0_5 hc0_5 hr0_6 hc0_6 hp hlv hb.1 hi.1 hi.2 hb.2.1 hb.2.2.1 hb.2.2.2
    ·rw [if_neg hi] at h
     cases h
  ·rw [if_neg hb] at h
   cases h
 ·rw [if_neg he] at h
  unfold leftZ at h
  simp only [Option.some.injEq,Prod.mk.injEq] at h
  obtain ⟨rfl,rfl,rfl,rfl,rfl,rfl,rfl,rfl⟩:=h
  exact rest_err k a0_0 a0_1 a0_2 a0_3 A0_4 c0_4 l0_4 A0_5 c0_5 l0_5 A0_6 c0_6 l0_6 a1 i e w hr0_4 hc0_4 hr0_5 hc0_5 hr0_6 hc0_6 hp he
end Go.Proofs.Ytcocmpblmkdmjaa.Pr
