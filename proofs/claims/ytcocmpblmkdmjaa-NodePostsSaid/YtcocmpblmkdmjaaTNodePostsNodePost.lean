-- A part of the text NodePost, thinned by a program of this session.
import Derived.Test.YtcocmpblmkdmjaaTNodePostsNodePut
namespace Go.Proofs.Ytcocmpblmkdmjaa.Pr
open Go.RowKit Go.Proofs.YtcocmpblmkdmjaaW.PrintWords Go.Proofs.YtcocmpblmkdmjaaW.PrintLast Go.Proofs.YtcocmpblmkdmjaaW.PrintMore
set_option linter.unusedVariables false
set_option linter.unusedSimpArgs false
def postG (k:Nat) (a0_0:Int) (a0_1:Int) (a0_2:Int) (a0_3:ByteArray) (l0_4:List ByteArray) (l0_5:List ByteArray) (l0_6:List Int) (a1:ByteArray) (a2:Int):Option (Int×Int×Int×ByteArray×List ByteArray×List ByteArray×List Int×Int) :=
 (node_asked.f k a0_0 a0_1 a0_2 a0_3 l0_4 l0_5 l0_6 a1 ⟨#[]⟩ a2 1).bind fun e=>if e=0 then
  if l0_4.length≤8796093022000∧l0_5.length≤8796093022000∧l0_6.length≤8796093022000 then
   (key_Place.f l0_4 a1).bind fun p =>
    if p.2=true then
     if 0≤p.1∧p.1+1 < (l0_6.length:Int) then
      if rd l0_6 (p.1+1)=a2 then node_right.f k a0_0 a0_1 a0_2 a0_3 l0_4 l0_5 l0_6 else leftZ 4
     else none
    else if 0≤p.1∧p.1≤(l0_4.length:Int)∧p.1+1≤(l0_6.length:Int) then node_right.f k a0_0 a0_1 a0_2 a0_3 (l0_4.take p.1.toNat++a1::l0_4.drop p.1.toNat) l0_5 (l0_6.take (p.1.toNat+1)++a2::l0_6.drop (p.1.toNat+1)) else none
  else none
 else leftZ e
set_option maxHeartbeats 8000000 in
set_option maxRecDepth 100000 in
theorem post_calls (k:Nat) (a0_0:Int) (a0_1:Int) (a0_2:Int) (a0_3:ByteArray) (A0_4:Option Addr) (c0_4:Nat) (l0_4:List ByteArray) (A0_5:Option Addr) (c0_5:Nat) (l0_5:List ByteArray) (A0_6:Option Addr) (c0_6:Nat) (l0_6:List Int) (a1:ByteArray) (a2:Int) (r1 r2 r3:Int) (r4:ByteArray) (r5 r6:List ByteArray) (r7:List Int) (r8:Int) (w:World) (hr0_4:Kd.C Kd.string w A0_4 l0_4.length l0_4) (hc0_4:l0_4.length≤c0_4) (hr0_5:Kd.C Kd.string w A0_5 l0_5.length l0_5) (hc0_5:l0_5.length≤c0_5) (hr0_6:Kd.C (Kd.int .i64) w A0_6 l0_6.length l0_6) (hc0_6:l0_6.length≤c0_6) (h:postG k a0_0 a0_1 a0_2 a0_3 l0_4 l0_5 l0_6 a1 a2=some (r1,r2,r3,r4,r5,r6,r7,r8)) :
  Calls Try.prog 26 #[.agg #[.int .i64 a0_0,.int .i64 a0_1,.int .i64 a0_2,.string a0_3,.slice A0_4 l0_4.length c0_4,.slice A0_5 l0_5.length c0_5,.slice A0_6 l0_6.length c0_6],.string a1,.int .i64 a2] w fun e w'=>∃ v4_ v5_ v6_:Value,e=.returned (.tuple #[.agg #[.int .i64 r1,.int .i64 r2,.int .i64 r3,.string r4,v4_,v5_,v6_],.int .i64 r8])∧Kd.R Kd.string 9 w' w.heap.size (fun k_=>some k_≠(v5_:Value).ownBlock) v4_ r5∧Kd.R Kd.string 9 w' w.heap.size (fun k_=>some k_≠(v4_:Value).ownBlock) v5_ r6∧Kd.R (Kd.int .i64) 3 w' w.heap.size (fun _=>True) v6_ r7∧Below w.heap.size w w':=by
 have HC6:=Aside0.mk hr0_6
 unfold postG at h
 obtain ⟨e,hp,h⟩:=Option.bind_eq_some_iff.1 h
 have hsz:(w.alloc (.cells #[.int .i64 a0_0,.int .i64 a0_1,.int .i64 a0_2,.string a0_3,.slice A0_4 l0_4.length c0_4,.slice A0_5 l0_5.length c0_5,.slice A0_6 l0_6.length c0_6] 25)).heap.size=w.heap.size+1:=by
  show (w.heap.push _).size=_
  simp
 have HX:Aside0 (NdAt ((w.alloc (.cells #[.int .i64 a0_0,.int .i64 a0_1,.int .i64 a0_2,.string a0_3,.slice A0_4 l0_4.length c0_4,.slice A0_5 l0_5.length c0_5,.slice A0_6 l0_6.length c0_6] 25)).alloc (.cells #[.int .i64 0,.int .i64 0,.int .i64 0,.string ⟨#[]⟩,.slice none 0 0,.slice none 0 0,.slice none 0 0] 25)) w.heap.size a0_0 a0_1 a0_2 a0_3 (.slice A0_4 l0_4.length c0_4) (.slice A0_5 l0_5.length c0_5) (.slice A0_6 l0_6.length c0_6)):=⟨NdAt.below (blk_newN _ _) (below_alloc (Below.refl _ _) _)⟩
 have HQ:Aside0 (NdAt ((w.alloc (.cells #[.int .i64 a0_0,.int .i64 a0_1,.int .i64 a0_2,.string a0_3,.slice A0_4 l0_4.length c0_4,.slice A0_5 l0_5.length c0_5,.slice A0_6 l0_6.length c0_6] 25)).alloc (.cells #[.int .i64 0,.int .i64 0,.int .i64 0,.string ⟨#[]⟩,.slice none 0 0,.slice none 0 0,.slice none 0 0] 25)) (w.heap.size+1) 0 0 0 ⟨#[]⟩ (.slice none 0 0) (.slice none 0 0) (.slice none 0 0)):=⟨by rw [← hsz];exact blk_newN _ _⟩
 have hB0:Below w.heap.size w ((w.alloc (.cells #[.int .i64 a0_0,.int .i64 a0_1,.int .i64 a0_2,.string a0_3,.slice A0_4 l0_4.length c0_4,.slice A0_5 l0_5.length c0_5,.slice A0_6 l0_6.length c0_6] 25)).alloc (.cells #[.int .i64 0,.int .i64 0,.int .i64 0,.string ⟨#[]⟩,.slice none 0 0,.slice none 0 0,.slice none 0 0] 25)):=below_alloc (below_alloc (Below.refl _ _) _) _
 have HB0:=Aside0.mk hB0
 have hask:=node_asked.calls k a0_0 a0_1 a0_2 a0_3 A0_4 c0_4 l0_4 A0_5 c0_5 l0_5 A0_6 c0_6 l0_6 a1 ⟨#[]⟩ a2 1 e _ (Kd.C_below hr0_4 hB0) hc0_4 (Kd.C_below hr0_5 hB0) hc0_5 (Kd.C_below hr0_6 hB0) hc0_6 hp
 by_cases he:e=0
 case neg =>
  rw [if_neg he] at h
  have d0:(e != 0)=true:=by simp [he]
  unfold leftZ at h
  simp only [Option.some.injEq,Prod.mk.injEq] at h
  obtain ⟨rfl,rfl,rfl,rfl,rfl,rfl,rfl,rfl⟩:=h
  clear he hp hB0 hsz hr0_4 hr0_5 hr0_6 hc0_4 hc0_5 hc0_6
  go_enter Try.func26,Try.ntmps26
  go_wp2_with (go_at_call 44;refine hask.mono ?_;rintro r w2 ⟨rfl,hB2⟩;(have hq:=HQ.out.below hB2);obtain ⟨⟨_,_,_,_,_,_,_⟩,f0,f1,f2,f3,f4,f5,f6⟩:=hq.cells;(have HQ2:=Aside0.mk hq);(have l2:=hq.lt);(have HB2:=Aside0.mk (below_from2 HB0.out (Nat.le_refl _) hB2));clear hB2 hask hq)
  refine bodyPost_ret (results_ct rfl _ _ (w.heap.size+1) 25 #[.int .i64 0,.int .i64 0,.int .i64 0,.string ⟨#[]⟩,.slice none 0 0,.slice none 0 0,.slice none 0 0] (0,0) _ rfl (HQ2.out.set7 0 0 0 ⟨#[]⟩ (.slice none 0 0) (.slice none 0 0) (.slice none 0 0)) Try.underlying25 rfl (by kernel_rfl)) rfl ?_
  exact ⟨_,_,_,rfl,Kd.R_nil _ _ _ _ _,Kd.R_nil _ _ _ _ _,Kd.R_nil _ _ _ _ _,below_set7 HB2.out (by omega)⟩
 rw [if_pos he] at h
 by_cases hb:l0_4.length≤8796093022000∧l0_5.length≤8796093022000∧l0_6.length≤8796093022000
 case neg=>rw [if_neg hb] at h;cases h
 rw [if_pos hb] at h
 obtain ⟨hn4,hn5,hn6⟩:=hb
 obtain ⟨⟨i,there⟩,hpl,h⟩:=Option.bind_eq_some_iff.1 h
 dsimp only at h
 have d0:(e != 0)=false:=by simp [he]
 have how:node_own.f a0_0 a0_1 a0_2 a0_3 l0_4 l0_5 l0_6=some (a0_0,a0_1,a0_2,a0_3,l0_4,l0_5,l0_6):=by
  unfold node_own.f slices_Clone_string_string.f slices_Clone_int_int.f
  rw [if_pos (by omega),if_pos (by omega),if_pos (by omega)]
  rfl
 have HOWN:=Aside0.mk (fun W (hB:Below w.heap.size w W)=>node_own.calls a0_0 a0_1 a0_2 a0_3 A0_4 c0_4 l0_4 A0_5 c0_5 l0_5 A0_6 c0_6 l0_6 a0_0 a0_1 a0_2 a0_3 l0_4 l0_5 l0_6 W (Kd.C_below hr0_4 hB) hc0_4 (Kd.C_below hr0_5 hB) hc0_5 (Kd.C_below hr0_6 hB) hc0_6 how)
 have HPL:=Aside0.mk (fun W (hB:Below w.heap.size w W)=>key_Place.calls A0_4 c0_4 l0_4 a1 i there W (Kd.C_below hr0_4 hB) hc0_4 hpl)
 have HN:=Aside0.mk (And.intro hn4 (And.intro hn5 hn6))
 have hz4:l0_4.length≤9223372036854775807:=by omega
 have hz5:l0_5.length≤9223372036854775807:=by omega
 have hz6:l0_6.length≤9223372036854775807:=by omega
 clear hp hB0 hsz hc0_4 hc0_5 hc0_6 how hpl hr0_4 hr0_5 hr0_6 hn4 hn5 hn6 he
 cases there with
 | true =>
  rw [if_pos rfl] at h
  by_cases hb:0≤i∧i+1 < (l0_6.length:Int)
  case neg=>rw [if_neg hb] at h;cases h
  rw [if_pos hb] at h
  obtain ⟨hi0,hi6⟩:=hb
  obtain ⟨n,rfl⟩:=Int.eq_ofNat_of_zero_le hi0
  have HK:Aside0 (0≤(n:Int)+1∧(n:Int)+1 < (l0_6.length:Int)):=⟨by omega,hi6⟩
  have HK2:Aside0 (((n:Int)+1).toNat=n+1):=⟨by omega⟩
  have hk0:0≤(n:Int)+1:=by omega
  obtain ⟨kv,hkv⟩:∃ kv,rd l0_6 ((n:Int)+1)=kv:=⟨_,rfl⟩
  have HKV:=Aside0.mk hkv
  rw [hkv] at h
  obtain ⟨ad6,ea6,_⟩:=Kd.at_int HC6.out ((n:Int)+1) HK.out.1 HK.out.2
  subst ea6
  have hw1:IntKind.i64.wrap ((n:Int)+1)=(n:Int)+1:=by
   have:=HN.out
   rw [IntKind.wrap_i64]
   omega
  have HH:=Aside0.mk h
  clear h hkv hi0
  by_cases hkk:kv=a2
  ·have dk:(kv != a2)=false:=by simp [hkk]
   have HH2:=HH.out
   rw [if_pos hkk] at HH2
   have HH3:=Aside0.mk HH2
   clear HH2 HH hkk
   go_enter Try.func26,Try.ntmps26
   go_wp2_with (first
    | (go_at_call 44;(with_reducible refine hask.mono ?_);rintro r w2 ⟨rfl,hB2⟩;(have hx2:=HX.out.below hB2);obtain ⟨⟨b0,b1,b2,b3,b4,b5,b6⟩,_⟩:=hx2.cells;(have HX2:=Aside0.mk hx2);(have HQ2:=Aside0.mk (HQ.out.below hB2));(have HB2:=Aside0.mk (below_from2 HB0.out (Nat.le_refl _) hB2));(have hpl:=HPL.out w2 HB2.out);clear hB2 hask hx2)
    | (go_at_call 45;(with_reducible refine hpl.mono ?_);rintro r w2p ⟨rfl,hBp⟩;clear b0 b1 b2 b3 b4 b5 b6;(have hxp:=HX2.out.below hBp);obtain ⟨⟨b0,b1,b2,b3,b4,b5,b6⟩,_⟩:=hxp.cells;(have HXp:=Aside0.mk hxp);(have HQp:=Aside0.mk (HQ2.out.below hBp));(have HBp:=Aside0.mk (below_from2 HB2.out (Nat.le_refl _) hBp));(have how:=HOWN.out w2p HBp.out);obtain ⟨ad,ea,hk6⟩:=Kd.at_int (Kd.C_below HC6.out HBp.out) ((n:Int)+1) HK.out.1 HK.out.2;cases ea;rw [HK2.out,HKV.out] at hk6;(replace hk6:w2p.cell? ⟨ad6.block,ad6.off+(n+1),none⟩=some (.int .i64 kv):=hk6);clear hBp hpl hxp)
    | (go_at_call 38;(with_reducible refine how.mono ?_);rintro r w3 ⟨v4,v5,v6,rfl,hR4,hR5,hR6,hB3⟩;(have hR3:Rows3 w3 w2p.heap.size v4 l0_4 v5 l0_5 v6 l0_6:=⟨hR4,hR5,hR6⟩);obtain ⟨B4,d4,rfl,_,_⟩:=Kd.R_reads hR4;obtain ⟨B5,d5,rfl,_,_⟩:=Kd.R_reads hR5;obtain ⟨B6,d6,rfl,_,_⟩:=Kd.R_reads hR6;(have hx3:=HXp.out.below hB3);clear b0 b1 b2 b3 b4 b5 b6;obtain ⟨⟨b0,b1,b2,b3,b4,b5,b6⟩,_⟩:=hx3.cells;(have l3:=hx3.lt);(have HX3:=Aside0.mk hx3);(have HQ3:=Aside0.mk (HQp.out.below hB3));(have HB3:=Aside0.mk (below_from2 HBp.out (Nat.le_refl _) hB3));(have HR3:=Aside0.mk ((hR3.lower HBp.out.size).below (below_alloc (Below.refl _ _) (.cells #[.int .i64 a0_0,.int .i64 a0_1,.int .i64 a0_2,.string a0_3,.slice B4 l0_4.length d4,.slice B5 l0_5.length d5,.slice B6 l0_6.length d6] 25))));(have HO3:Aside0 (NdAt (w3.alloc (.cells #[.int .i64 a0_0,.int .i64 a0_1,.int .i64 a0_2,.string a0_3,.slice B4 l0_4.length d4,.slice B5 l0_5.length d5,.slice B6 l0_6.length d6] 25)) w3.heap.size a0_0 a0_1 a0_2 a0_3 (.slice B4 l0_4.length d4) (.slice B5 l0_5.length d5) (.slice B6 l0_6.length d6)):=⟨blk_newN _ _⟩);(have hrt:=right_rows k a0_0 a0_1 a0_2 a0_3 _ _ _ _ _ _ r1 r2 r3 r4 r5 r6 r7 r8 w _ (below_alloc HB3.out (.cells #[.int .i64 a0_0,.int .i64 a0_1,.int .i64 a0_2,.string a0_3,.slice B4 l0_4.length d4,.slice B5 l0_5.length d5,.slice B6 l0_6.length d6] 25)) HR3.out HH3.out);(have HQ4:=Aside0.mk (HQ3.out.below (below_alloc (Below.refl _ _) (.cells #[.int .i64 a0_0,.int .i64 a0_1,.int .i64 a0_2,.string a0_3,.slice B4 l0_4.length d4,.slice B5 l0_5.length d5,.slice B6 l0_6.length d6] 25))));clear hR3 hR4 hR5 hR6 hB3 how hx3)
    | (go_at_call 51;(with_reducible refine hrt.mono ?_);rintro r w9 ⟨v4_,v5_,v6_,rfl,hR9,hB9,hK9⟩;obtain ⟨C7,e7,rfl,_,_⟩:=Kd.R_reads hR9.1;obtain ⟨C8,e8,rfl,_,_⟩:=Kd.R_reads hR9.2.1;obtain ⟨C9,e9,rfl,_,_⟩:=Kd.R_reads hR9.2.2;(have hq9:=hK9 _ _ _ _ _ _ _ _ HQ4.out);obtain ⟨_,f0,f1,f2,f3,f4,f5,f6⟩:=hq9.cells;(have lq:=hq9.lt);(have HQ9:=Aside0.mk hq9);(have HR9:=Aside0.mk hR9);(have HB9:=Aside0.mk hB9);clear hR9 hB9 hK9 hq9 hrt))
   refine bodyPost_ret (results_ct rfl _ _ (w.heap.size+1) 25 #[.int .i64 r1,.int .i64 r2,.int .i64 r3,.string r4,.slice C7 r5.length e7,.slice C8 r6.length e8,.slice C9 r7.length e9] (0,0) _ rfl (HQ9.out.set7 r1 r2 r3 r4 (.slice C7 r5.length e7) (.slice C8 r6.length e8) (.slice C9 r7.length e9)) Try.underlying25 rfl (by kernel_rfl)) rfl ?_
   exact ⟨_,_,_,rfl,RN_set7 HR9.out.1 HQ9.out str_ne _ _ _ _ _ _ _,RN_set7 HR9.out.2.1 HQ9.out str_ne _ _ _ _ _ _ _,RN_set7 HR9.out.2.2 HQ9.out int_ne _ _ _ _ _ _ _,below_set7 HB9.out (by omega)⟩
  ·have dk:(kv != a2)=true:=by simp [hkk]
   have hz:=HH.out
   rw [if_neg hkk] at hz
   unfold leftZ at hz
   simp only [Option.some.injEq,Prod.mk.injEq] at hz
   obtain ⟨rfl,rfl,rfl,rfl,rfl,rfl,rfl,rfl⟩:=hz
   clear HH hkk
   go_enter Try.func26,Try.ntmps26
   go_wp2_with (first
    | (go_at_call 44;(with_reducible refine hask.mono ?_);rintro r w2 ⟨rfl,hB2⟩;(have hx2:=HX.out.below hB2);obtain ⟨⟨b0,b1,b2,b3,b4,b5,b6⟩,_⟩:=hx2.cells;(have HX2:=Aside0.mk hx2);(have HQ2:=Aside0.mk (HQ.out.below hB2));(have HB2:=Aside0.mk (below_from2 HB0.out (Nat.le_refl _) hB2));(have hpl:=HPL.out w2 HB2.out);clear hB2 hask hx2)
    | (go_at_call 45;(with_reducible refine hpl.mono ?_);rintro r w2p ⟨rfl,hBp⟩;clear b0 b1 b2 b3 b4 b5 b6;(have hxp:=HX2.out.below hBp);obtain ⟨⟨b0,b1,b2,b3,b4,b5,b6⟩,_⟩:=hxp.cells;(have HXp:=Aside0.mk hxp);(have HQp:=Aside0.mk (HQ2.out.below hBp));(have HBp:=Aside0.mk (below_from2 HB2.out (Nat.le_refl _) hBp));(have how:=HOWN.out w2p HBp.out);obtain ⟨ad,ea,hk6⟩:=Kd.at_int (Kd.C_below HC6.out HBp.out) ((n:Int)+1) HK.out.1 HK.out.2;cases ea;rw [HK2.out,HKV.out] at hk6;(replace hk6:w2p.cell? ⟨ad6.block,ad6.off+(n+1),none⟩=some (.int .i64 kv):=hk6);(have hq:=HQp.out);obtain ⟨_,f0,f1,f2,f3,f4,f5,f6⟩:=hq.cells;(have lq:=hq.lt);clear hq;clear hBp hpl hxp))
   refine bodyPost_ret (results_ct rfl _ _ (w.heap.size+1) 25 #[.int .i64 0,.int .i64 0,.int .i64 0,.string ⟨#[]⟩,.slice none 0 0,.slice none 0 0,.slice none 0 0] (0,0) _ rfl (HQp.out.set7 0 0 0 ⟨#[]⟩ (.slice none 0 0) (.slice none 0 0) (.slice none 0 0)) Try.underlying25 rfl (by kernel_rfl)) rfl ?_
   exact ⟨_,_,_,rfl,Kd.R_nil _ _ _ _ _,Kd.R_nil _ _ _ _ _,Kd.R_nil _ _ _ _ _,below_set7 HBp.out (by omega)⟩
 | false =>
  rw [if_neg (by decide)] at h
  by_cases hb:0≤i∧i≤(l0_4.length:Int)∧i+1≤(l0_6.length:Int)
  case neg=>rw [if_neg hb] at h;cases h
  rw [if_pos hb] at h
  obtain ⟨hi0,hi4,hi6⟩:=hb
  obtain ⟨n,rfl⟩:=Int.eq_ofNat_of_zero_le hi0
  rw [Int.toNat_natCast] at h
  obtain ⟨ys,hys⟩:∃ ys,ys=l0_4.take n++a1::l0_4.drop n:=⟨_,rfl⟩
  obtain ⟨zs,hzs⟩:∃ zs,zs=l0_6.take (n+1)++a2::l0_6.drop (n+1):=⟨_,rfl⟩
  rw [← hys,← hzs] at h
  have HI:Aside0 (n≤l0_4.length∧n+1≤l0_6.length):=⟨by omega,by omega⟩
  have HYS:=Aside0.mk hys
  have HZS:=Aside0.mk hzs
  have HH:=Aside0.mk h
  have hw1:IntKind.i64.wrap ((n:Int)+1)=(n:Int)+1:=by
   have:=HN.out
   rw [IntKind.wrap_i64]
   omega
  have E1:Aside0 (((n+1:Nat):Int)=(n:Int)+1):=⟨by omega⟩
  clear h hys hzs hi4 hi6
  go_enter Try.func26,Try.ntmps26
  go_wp2_with (first
   | (go_at_call 44;(with_reducible refine hask.mono ?_);rintro r w2 ⟨rfl,hB2⟩;(have hx2:=HX.out.below hB2);obtain ⟨⟨b0,b1,b2,b3,b4,b5,b6⟩,_⟩:=hx2.cells;(have HX2:=Aside0.mk hx2);(have HQ2:=Aside0.mk (HQ.out.below hB2));(have HB2:=Aside0.mk (below_from2 HB0.out (Nat.le_refl _) hB2));(have hpl:=HPL.out w2 HB2.out);clear hB2 hask hx2)
   | (go_at_call 45;(with_reducible refine hpl.mono ?_);rintro r w2p ⟨rfl,hBp⟩;clear b0 b1 b2 b3 b4 b5 b6;(have hxp:=HX2.out.below hBp);obtain ⟨⟨b0,b1,b2,b3,b4,b5,b6⟩,_⟩:=hxp.cells;(have HXp:=Aside0.mk hxp);(have HQp:=Aside0.mk (HQ2.out.below hBp));(have HBp:=Aside0.mk (below_from2 HB2.out (Nat.le_refl _) hBp));(have how:=HOWN.out w2p HBp.out);skip;clear hBp hpl hxp)
   | (go_at_call 38;(with_reducible refine how.mono ?_);rintro r w3 ⟨v4,v5,v6,rfl,hR4,hR5,hR6,hB3⟩;(have hR3:Rows3 w3 w2p.heap.size v4 l0_4 v5 l0_5 v6 l0_6:=⟨hR4,hR5,hR6⟩);obtain ⟨B4,d4,rfl,_,_⟩:=Kd.R_reads hR4;obtain ⟨B5,d5,rfl,_,_⟩:=Kd.R_reads hR5;obtain ⟨B6,d6,rfl,_,_⟩:=Kd.R_reads hR6;(have hx3:=HXp.out.below hB3);clear b0 b1 b2 b3 b4 b5 b6;obtain ⟨⟨b0,b1,b2,b3,b4,b5,b6⟩,_⟩:=hx3.cells;(have l3:=hx3.lt);(have HX3:=Aside0.mk hx3);(have HQ3:=Aside0.mk (HQp.out.below hB3));(have HB3:=Aside0.mk (below_from2 HBp.out (Nat.le_refl _) hB3));(have HR3:=Aside0.mk ((hR3.lower HBp.out.size).below (below_alloc (Below.refl _ _) (.cells #[.int .i64 a0_0,.int .i64 a0_1,.int .i64 a0_2,.string a0_3,.slice B4 l0_4.length d4,.slice B5 l0_5.length d5,.slice B6 l0_6.length d6] 25))));(have HO3:Aside0 (NdAt (w3.alloc (.cells #[.int .i64 a0_0,.int .i64 a0_1,.int .i64 a0_2,.string a0_3,.slice B4 l0_4.length d4,.slice B5 l0_5.length d5,.slice B6 l0_6.length d6] 25)) w3.heap.size a0_0 a0_1 a0_2 a0_3 (.slice B4 l0_4.length d4) (.slice B5 l0_5.length d5) (.slice B6 l0_6.length d6)):=⟨blk_newN _ _⟩);(have hsz5:(w3.alloc (.cells #[.int .i64 a0_0,.int .i64 a0_1,.int .i64 a0_2,.string a0_3,.slice B4 l0_4.length d4,.slice B5 l0_5.length d5,.slice B6 l0_6.length d6] 25)).heap.size=w3.heap.size+1:=(by show (w3.heap.push _).size=_;simp));(have HB5:Aside0 (Below w.heap.size w (w3.alloc (.cells #[.int .i64 a0_0,.int .i64 a0_1,.int .i64 a0_2,.string a0_3,.slice B4 l0_4.length d4,.slice B5 l0_5.length d5,.slice B6 l0_6.length d6] 25))):=⟨below_alloc HB3.out _⟩);(have HO5a:Aside0 (NdAt ((w3.alloc (.cells #[.int .i64 a0_0,.int .i64 a0_1,.int .i64 a0_2,.string a0_3,.slice B4 l0_4.length d4,.slice B5 l0_5.length d5,.slice B6 l0_6.length d6] 25)).alloc (.cells #[.string a1] 9)) _ _ _ _ _ _ _ _):=⟨HO3.out.below (below_alloc (Below.refl _ _) _)⟩);(have HQ5a:Aside0 (NdAt ((w3.alloc (.cells #[.int .i64 a0_0,.int .i64 a0_1,.int .i64 a0_2,.string a0_3,.slice B4 l0_4.length d4,.slice B5 l0_5.length d5,.slice B6 l0_6.length d6] 25)).alloc (.cells #[.string a1] 9)) _ _ _ _ _ _ _ _):=⟨(HQ3.out.below (below_alloc (Below.refl _ _) (.cells #[.int .i64 a0_0,.int .i64 a0_1,.int .i64 a0_2,.string a0_3,.slice B4 l0_4.length d4,.slice B5 l0_5.length d5,.slice B6 l0_6.length d6] 25))).below (below_alloc (Below.refl _ _) _)⟩);(have HR5a:Aside0 (Rows3 ((w3.alloc (.cells #[.int .i64 a0_0,.int .i64 a0_1,.int .i64 a0_2,.string a0_3,.slice B4 l0_4.length d4,.slice B5 l0_5.length d5,.slice B6 l0_6.length d6] 25)).alloc (.cells #[.string a1] 9)) _ _ _ _ _ _ _):=⟨HR3.out.below (below_alloc (Below.refl _ _) _)⟩);(have hins:=insS_calls w ((w3.alloc (.cells #[.int .i64 a0_0,.int .i64 a0_1,.int .i64 a0_2,.string a0_3,.slice B4 l0_4.length d4,.slice B5 l0_5.length d5,.slice B6 l0_6.length d6] 25)).alloc (.cells #[.string a1] 9)) w.heap.size (.slice B4 l0_4.length d4) l0_4 n a1 (w3.heap.size+1) (fun _=>True) 9 HI.out.1 (fun _ _=>trivial) (Kd.R_reok rfl HR5a.out.1 (fun _ _=>trivial)) (by rw [← hsz5];exact blk_newN _ _) (fun e=>by have:=Kd.R_lt HR3.out.1 _ e.symm;omega) (below_alloc HB5.out _) (below_alloc HB5.out _).size (by have:=HN.out;omega));rw [← HYS.out] at hins;clear hsz5;clear hR3 hR4 hR5 hR6 hB3 how hx3)
   | (go_at_call 49;(with_reducible refine hins.mono ?_);rintro r w6 ⟨v1,rfl,ht⟩;(have hR6:=HR5a.out.turn4 ht);(have ho6:=NdAt.turned HO5a.out HR5a.out.1 (by decide) ht.2.2.1);(have hq6:=NdAt.turned HQ5a.out HR5a.out.1 (by decide) ht.2.2.1);obtain ⟨C4,e4,rfl,_,_⟩:=Kd.R_reads hR6.1;clear b0 b1 b2 b3 b4 b5 b6 l3 hins;obtain ⟨⟨b0,b1,b2,b3,b4,b5,b6⟩,f0,f1,f2,f3,f4,f5,f6⟩:=ho6.cells;(have l6:=ho6.lt);(have hB6:Below w.heap.size w w6:=ht.2.1);(have hge:w.heap.size≤w3.heap.size:=HB3.out.size);(have ho6s:NdAt (w6.setCell ⟨w3.heap.size,4,none⟩ (.slice C4 ys.length e4)) w3.heap.size a0_0 a0_1 a0_2 a0_3 (.slice C4 ys.length e4) (.slice B5 l0_5.length d5) (.slice B6 l0_6.length d6):=blk_put ho6 4 (.slice C4 ys.length e4) rfl);(have hR6s:Rows3 (w6.setCell ⟨w3.heap.size,4,none⟩ (.slice C4 ys.length e4)) _ _ _ _ _ _ _:=hR6.set ho6 4 (.slice C4 ys.length e4));(have hq6s:NdAt (w6.setCell ⟨w3.heap.size,4,none⟩ (.slice C4 ys.length e4)) _ _ _ _ _ _ _ _:=(Below.heap_setCell w6 ⟨w3.heap.size,4,none⟩ _ _ (by have:=HQ3.out.lt;exact Nat.ne_of_lt this)).trans hq6);(have HQ6:Aside0 (NdAt ((w6.setCell ⟨w3.heap.size,4,none⟩ (.slice C4 ys.length e4)).alloc (.cells #[.int .i64 a2] 3)) _ _ _ _ _ _ _ _):=⟨hq6s.below (below_alloc (Below.refl _ _) _)⟩);(have HO6:Aside0 (NdAt ((w6.setCell ⟨w3.heap.size,4,none⟩ (.slice C4 ys.length e4)).alloc (.cells #[.int .i64 a2] 3)) _ _ _ _ _ _ _ _):=⟨ho6s.below (below_alloc (Below.refl _ _) _)⟩);(have HR6:Aside0 (Rows3 ((w6.setCell ⟨w3.heap.size,4,none⟩ (.slice C4 ys.length e4)).alloc (.cells #[.int .i64 a2] 3)) _ _ _ _ _ _ _):=⟨hR6s.below (below_alloc (Below.refl _ _) _)⟩);(have hB6s:Below w.heap.size w (w6.setCell ⟨w3.heap.size,4,none⟩ (.slice C4 ys.length e4)):=below_setN hB6 hge);(have hsz:(w6.setCell ⟨w3.heap.size,4,none⟩ (.slice C4 ys.length e4)).heap.size=w6.heap.size:=by simp [World.setCell]);(have hins2:=insI_calls w ((w6.setCell ⟨w3.heap.size,4,none⟩ (.slice C4 ys.length e4)).alloc (.cells #[.int .i64 a2] 3)) w.heap.size (.slice B6 l0_6.length d6) l0_6 (n+1) a2 w6.heap.size (fun _=>True) 3 HI.out.2 (fun _ _=>trivial) (Kd.R_reok rfl HR6.out.2.2 (fun _ _=>trivial)) (by rw [← hsz];exact blk_newN _ _) (fun e=>Nat.lt_irrefl _ (Kd.R_lt hR6.2.2 _ e.symm)) (below_alloc hB6s _) (below_alloc hB6s _).size (by have:=HN.out;omega));rw [← HZS.out,E1.out] at hins2;clear hB6 hge ho6s hR6s hq6s hB6s hsz ho6 hq6 hR6 ht)
   | (go_at_call 50;(with_reducible refine hins2.mono ?_);rintro r w7 ⟨v1,rfl,ht⟩;(have hR7:=HR6.out.turn6 ht);(have ho7:=NdAt.turned HO6.out HR6.out.2.2 (by decide) ht.2.2.1);(have hq7:=NdAt.turned HQ6.out HR6.out.2.2 (by decide) ht.2.2.1);obtain ⟨C6,e6,rfl,_,_⟩:=Kd.R_reads hR7.2.2;clear b0 b1 b2 b3 b4 b5 b6 f0 f1 f2 f3 f4 f5 f6 l6 hins2;obtain ⟨⟨b0,b1,b2,b3,b4,b5,b6⟩,f0,f1,f2,f3,f4,f5,f6⟩:=ho7.cells;(have l7:=ho7.lt);(have hB7:Below w.heap.size w w7:=ht.2.1);(have hge:w.heap.size≤w3.heap.size:=HB3.out.size);(have hR7s:Rows3 (w7.setCell ⟨w3.heap.size,6,none⟩ (.slice C6 zs.length e6)) _ _ _ _ _ _ _:=hR7.set ho7 6 (.slice C6 zs.length e6));(have hq7s:NdAt (w7.setCell ⟨w3.heap.size,6,none⟩ (.slice C6 zs.length e6)) _ _ _ _ _ _ _ _:=(Below.heap_setCell w7 ⟨w3.heap.size,6,none⟩ _ _ (by have:=HQ3.out.lt;exact Nat.ne_of_lt this)).trans hq7);(have hrt:=right_rows k a0_0 a0_1 a0_2 a0_3 _ _ _ _ _ _ r1 r2 r3 r4 r5 r6 r7 r8 w (w7.setCell ⟨w3.heap.size,6,none⟩ (.slice C6 zs.length e6)) (below_setN hB7 hge) hR7s HH.out);(have HQ7:=Aside0.mk hq7s);clear hB7 hge hR7s hq7s ho7 hq7 hR7 ht)
   | (go_at_call 51;(with_reducible refine hrt.mono ?_);rintro r w9 ⟨v4_,v5_,v6_,rfl,hR9,hB9,hK9⟩;obtain ⟨C7,e7,rfl,_,_⟩:=Kd.R_reads hR9.1;obtain ⟨C8,e8,rfl,_,_⟩:=Kd.R_reads hR9.2.1;obtain ⟨C9,e9,rfl,_,_⟩:=Kd.R_reads hR9.2.2;(have hq9:=hK9 _ _ _ _ _ _ _ _ HQ7.out);obtain ⟨_,f0,f1,f2,f3,f4,f5,f6⟩:=hq9.cells;(have lq:=hq9.lt);(have HQ9:=Aside0.mk hq9);(have HR9:=Aside0.mk hR9);(have HB9:=Aside0.mk hB9);clear hR9 hB9 hK9 hq9 hrt))
  refine bodyPost_ret (results_ct rfl _ _ (w.heap.size+1) 25 #[.int .i64 r1,.int .i64 r2,.int .i64 r3,.string r4,.slice C7 r5.length e7,.slice C8 r6.length e8,.slice C9 r7.length e9] (0,0) _ rfl (HQ9.out.set7 r1 r2 r3 r4 (.slice C7 r5.length e7) (.slice C8 r6.length e8) (.slice C9 r7.length e9)) Try.underlying25 rfl (by kernel_rfl)) rfl ?_
  exact ⟨_,_,_,rfl,RN_set7 HR9.out.1 HQ9.out str_ne _ _ _ _ _ _ _,RN_set7 HR9.out.2.1 HQ9.out str_ne _ _ _ _ _ _ _,RN_set7 HR9.out.2.2 HQ9.out int_ne _ _ _ _ _ _ _,below_set7 HB9.out (by omega)⟩
end Go.Proofs.Ytcocmpblmkdmjaa.Pr
