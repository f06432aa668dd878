-- A part of the text NodeDel, thinned by a program of this session.
import Derived.Test.YtcocmpblmkdmjaaTNodeBackNodePut
namespace Go.Proofs.Ytcocmpblmkdmjaa.Pr
open Go.RowKit Go.Proofs.YtcocmpblmkdmjaaW.PrintWords Go.Proofs.YtcocmpblmkdmjaaW.PrintLast Go.Proofs.YtcocmpblmkdmjaaW.PrintMore
set_option linter.unusedVariables false
set_option linter.unusedSimpArgs false
def delG (k:Nat) (a0_0:Int) (a0_1:Int) (a0_2:Int) (a0_3:ByteArray) (l0_4:List ByteArray) (l0_5:List ByteArray) (l0_6:List Int) (a1:ByteArray):Option (Int×Int×Int×ByteArray×List ByteArray×List ByteArray×List Int×Int) :=
 (node_asked.f k a0_0 a0_1 a0_2 a0_3 l0_4 l0_5 l0_6 a1 ⟨#[]⟩ 1 0).bind fun e=>if e=0 then
  if l0_4.length≤8796093022000∧l0_5.length≤8796093022000∧l0_6.length≤8796093022000 then
   (key_Place.f l0_4 a1).bind fun p =>
    if p.2=true then
     if 0≤p.1∧p.1 < (l0_4.length:Int)∧p.1 < (l0_5.length:Int) then some (a0_0,a0_1,a0_2,a0_3,l0_4.take p.1.toNat++l0_4.drop (p.1.toNat+1),l0_5.take p.1.toNat++l0_5.drop (p.1.toNat+1),l0_6,0) else none
    else some (a0_0,a0_1,a0_2,a0_3,l0_4,l0_5,l0_6,0)
  else none
 else leftZ e
set_option maxHeartbeats 8000000 in
set_option maxRecDepth 100000 in
theorem del_calls (k:Nat) (a0_0:Int) (a0_1:Int) (a0_2:Int) (a0_3:ByteArray) (A0_4:Option Addr) (c0_4:Nat) (l0_4:List ByteArray) (A0_5:Option Addr) (c0_5:Nat) (l0_5:List ByteArray) (A0_6:Option Addr) (c0_6:Nat) (l0_6:List Int) (a1:ByteArray) (r1 r2 r3:Int) (r4:ByteArray) (r5 r6:List ByteArray) (r7:List Int) (r8:Int) (w:World) (hr0_4:Kd.C Kd.string w A0_4 l0_4.length l0_4) (hc0_4:l0_4.length≤c0_4) (hr0_5:Kd.C Kd.string w A0_5 l0_5.length l0_5) (hc0_5:l0_5.length≤c0_5) (hr0_6:Kd.C (Kd.int .i64) w A0_6 l0_6.length l0_6) (hc0_6:l0_6.length≤c0_6) (h:delG k a0_0 a0_1 a0_2 a0_3 l0_4 l0_5 l0_6 a1=some (r1,r2,r3,r4,r5,r6,r7,r8)) :
  Calls Try.prog 30 #[.agg #[.int .i64 a0_0,.int .i64 a0_1,.int .i64 a0_2,.string a0_3,.slice A0_4 l0_4.length c0_4,.slice A0_5 l0_5.length c0_5,.slice A0_6 l0_6.length c0_6],.string a1] w fun e w'=>∃ v4_ v5_ v6_:Value,e=.returned (.tuple #[.agg #[.int .i64 r1,.int .i64 r2,.int .i64 r3,.string r4,v4_,v5_,v6_],.int .i64 r8])∧Kd.R Kd.string 9 w' w.heap.size (fun k_=>some k_≠(v5_:Value).ownBlock) v4_ r5∧Kd.R Kd.string 9 w' w.heap.size (fun k_=>some k_≠(v4_:Value).ownBlock) v5_ r6∧Kd.R (Kd.int .i64) 3 w' w.heap.size (fun _=>True) v6_ r7∧Below w.heap.size w w':=by
 unfold delG at h
 obtain ⟨e,hp,h⟩:=Option.bind_eq_some_iff.1 h
 have hsz:(w.alloc (.cells #[.int .i64 a0_0,.int .i64 a0_1,.int .i64 a0_2,.string a0_3,.slice A0_4 l0_4.length c0_4,.slice A0_5 l0_5.length c0_5,.slice A0_6 l0_6.length c0_6] 25)).heap.size=w.heap.size+1:=by
  show (w.heap.push _).size=_
  simp
 have HX:Aside0 (NdAt ((w.alloc (.cells #[.int .i64 a0_0,.int .i64 a0_1,.int .i64 a0_2,.string a0_3,.slice A0_4 l0_4.length c0_4,.slice A0_5 l0_5.length c0_5,.slice A0_6 l0_6.length c0_6] 25)).alloc (.cells #[.int .i64 0,.int .i64 0,.int .i64 0,.string ⟨#[]⟩,.slice none 0 0,.slice none 0 0,.slice none 0 0] 25)) w.heap.size a0_0 a0_1 a0_2 a0_3 (.slice A0_4 l0_4.length c0_4) (.slice A0_5 l0_5.length c0_5) (.slice A0_6 l0_6.length c0_6)):=⟨NdAt.below (blk_newN _ _) (below_alloc (Below.refl _ _) _)⟩
 have HQ:Aside0 (NdAt ((w.alloc (.cells #[.int .i64 a0_0,.int .i64 a0_1,.int .i64 a0_2,.string a0_3,.slice A0_4 l0_4.length c0_4,.slice A0_5 l0_5.length c0_5,.slice A0_6 l0_6.length c0_6] 25)).alloc (.cells #[.int .i64 0,.int .i64 0,.int .i64 0,.string ⟨#[]⟩,.slice none 0 0,.slice none 0 0,.slice none 0 0] 25)) (w.heap.size+1) 0 0 0 ⟨#[]⟩ (.slice none 0 0) (.slice none 0 0) (.slice none 0 0)):=⟨by rw [← hsz];exact blk_newN _ _⟩
 have hB0:Below w.heap.size w ((w.alloc (.cells #[.int .i64 a0_0,.int .i64 a0_1,.int .i64 a0_2,.string a0_3,.slice A0_4 l0_4.length c0_4,.slice A0_5 l0_5.length c0_5,.slice A0_6 l0_6.length c0_6] 25)).alloc (.cells #[.int .i64 0,.int .i64 0,.int .i64 0,.string ⟨#[]⟩,.slice none 0 0,.slice none 0 0,.slice none 0 0] 25)):=below_alloc (below_alloc (Below.refl _ _) _) _
 have HB0:=Aside0.mk hB0
 have hask:=node_asked.calls k a0_0 a0_1 a0_2 a0_3 A0_4 c0_4 l0_4 A0_5 c0_5 l0_5 A0_6 c0_6 l0_6 a1 ⟨#[]⟩ 1 0 e _ (Kd.C_below hr0_4 hB0) hc0_4 (Kd.C_below hr0_5 hB0) hc0_5 (Kd.C_below hr0_6 hB0) hc0_6 hp
 by_cases he:e=0
 case neg =>
  rw [if_neg he] at h
  have d0:(e != 0)=true:=by simp [he]
  unfold leftZ at h
  simp only [Option.some.injEq,Prod.mk.injEq] at h
  obtain ⟨rfl,rfl,rfl,rfl,rfl,rfl,rfl,rfl⟩:=h
  clear he hp hB0 hsz hr0_4 hr0_5 hr0_6 hc0_4 hc0_5 hc0_6
  go_enter Try.func30,Try.ntmps30
  go_wp2_with (go_at_call 44;refine hask.mono ?_;rintro r w2 ⟨rfl,hB2⟩;(have hq:=HQ.out.below hB2);obtain ⟨⟨_,_,_,_,_,_,_⟩,f0,f1,f2,f3,f4,f5,f6⟩:=hq.cells;(have HQ2:=Aside0.mk hq);(have l2:=hq.lt);(have HB2:=Aside0.mk (below_from2 HB0.out (Nat.le_refl _) hB2));clear hB2 hask hq)
  refine bodyPost_ret (results_ct rfl _ _ (w.heap.size+1) 25 #[.int .i64 0,.int .i64 0,.int .i64 0,.string ⟨#[]⟩,.slice none 0 0,.slice none 0 0,.slice none 0 0] (0,0) _ rfl (HQ2.out.set7 0 0 0 ⟨#[]⟩ (.slice none 0 0) (.slice none 0 0) (.slice none 0 0)) Try.underlying25 rfl (by kernel_rfl)) rfl ?_
  exact ⟨_,_,_,rfl,Kd.R_nil _ _ _ _ _,Kd.R_nil _ _ _ _ _,Kd.R_nil _ _ _ _ _,below_set7 HB2.out (by omega)⟩
 rw [if_pos he] at h
 by_cases hb:l0_4.length≤8796093022000∧l0_5.length≤8796093022000∧l0_6.length≤8796093022000
 case neg=>rw [if_neg hb] at h;cases h
 rw [if_pos hb] at h
 obtain ⟨hn4,hn5,hn6⟩:=hb
 obtain ⟨⟨i,there⟩,hpl,h⟩:=Option.bind_eq_some_iff.1 h
 dsimp only at h
 have d0:(e != 0)=false:=by simp [he]
 have how:node_own.f a0_0 a0_1 a0_2 a0_3 l0_4 l0_5 l0_6=some (a0_0,a0_1,a0_2,a0_3,l0_4,l0_5,l0_6):=by
  unfold node_own.f slices_Clone_string_string.f slices_Clone_int_int.f
  rw [if_pos (by omega),if_pos (by omega),if_pos (by omega)]
  rfl
 have HOWN:=Aside0.mk (fun W (hB:Below w.heap.size w W)=>node_own.calls a0_0 a0_1 a0_2 a0_3 A0_4 c0_4 l0_4 A0_5 c0_5 l0_5 A0_6 c0_6 l0_6 a0_0 a0_1 a0_2 a0_3 l0_4 l0_5 l0_6 W (Kd.C_below hr0_4 hB) hc0_4 (Kd.C_below hr0_5 hB) hc0_5 (Kd.C_below hr0_6 hB) hc0_6 how)
 have HPL:=Aside0.mk (fun W (hB:Below w.heap.size w W)=>key_Place.calls A0_4 c0_4 l0_4 a1 i there W (Kd.C_below hr0_4 hB) hc0_4 hpl)
 have HN:=Aside0.mk (And.intro hn4 (And.intro hn5 hn6))
 have hz4:l0_4.length≤9223372036854775807:=by omega
 have hz5:l0_5.length≤9223372036854775807:=by omega
 have hz6:l0_6.length≤9223372036854775807:=by omega
 clear hp hB0 hsz hc0_4 hc0_5 hc0_6 how hpl hr0_4 hr0_5 hr0_6 hn4 hn5 hn6 he
 cases there with
 | true =>
  rw [if_pos rfl] at h
  by_cases hb:0≤i∧i < (l0_4.length:Int)∧i < (l0_5.length:Int)
  case neg=>rw [if_neg hb] at h;cases h
  rw [if_pos hb] at h
  obtain ⟨hi0,hi4,hi5⟩:=hb
  obtain ⟨n,rfl⟩:=Int.eq_ofNat_of_zero_le hi0
  rw [Int.toNat_natCast] at h
  obtain ⟨ys,hys⟩:∃ ys,ys=l0_4.take n++l0_4.drop (n+1):=⟨_,rfl⟩
  obtain ⟨zs,hzs⟩:∃ zs,zs=l0_5.take n++l0_5.drop (n+1):=⟨_,rfl⟩
  rw [← hys,← hzs] at h
  simp only [Option.some.injEq,Prod.mk.injEq] at h
  obtain ⟨rfl,rfl,rfl,rfl,rfl,rfl,rfl,rfl⟩:=h
  have HI:Aside0 (n < l0_4.length∧n < l0_5.length):=⟨by omega,by omega⟩
  have HYS:=Aside0.mk hys
  have HZS:=Aside0.mk hzs
  have hw1:IntKind.i64.wrap ((n:Int)+1)=(n:Int)+1:=by
   have:=HN.out
   rw [IntKind.wrap_i64]
   omega
  have E1:Aside0 (((n+1:Nat):Int)=(n:Int)+1):=⟨by omega⟩
  clear hys hzs hi4 hi5
  go_enter Try.func30,Try.ntmps30
  go_wp2_with (first
   | (go_at_call 44;(with_reducible refine hask.mono ?_);rintro r w2 ⟨rfl,hB2⟩;(have hx2:=HX.out.below hB2);obtain ⟨⟨b0,b1,b2,b3,b4,b5,b6⟩,_⟩:=hx2.cells;(have HX2:=Aside0.mk hx2);(have HQ2:=Aside0.mk (HQ.out.below hB2));(have HB2:=Aside0.mk (below_from2 HB0.out (Nat.le_refl _) hB2));(have how:=HOWN.out w2 HB2.out);clear hB2 hask hx2)
   | (go_at_call 38;(with_reducible refine how.mono ?_);rintro r w3 ⟨v4,v5,v6,rfl,hR4,hR5,hR6,hB3⟩;(have hR3:Rows3 w3 w2.heap.size v4 l0_4 v5 l0_5 v6 l0_6:=⟨hR4,hR5,hR6⟩);obtain ⟨B4,d4,rfl,_,_⟩:=Kd.R_reads hR4;obtain ⟨B5,d5,rfl,_,_⟩:=Kd.R_reads hR5;obtain ⟨B6,d6,rfl,_,_⟩:=Kd.R_reads hR6;(have hx3:=HX2.out.below hB3);clear b0 b1 b2 b3 b4 b5 b6;obtain ⟨⟨b0,b1,b2,b3,b4,b5,b6⟩,_⟩:=hx3.cells;(have l3:=hx3.lt);(have HX3:=Aside0.mk hx3);(have HQ3:=Aside0.mk (HQ2.out.below hB3));(have HB3:=Aside0.mk (below_from2 HB2.out (Nat.le_refl _) hB3));(have HR3:=Aside0.mk ((hR3.lower HB2.out.size).below (below_alloc (Below.refl _ _) (.cells #[.int .i64 a0_0,.int .i64 a0_1,.int .i64 a0_2,.string a0_3,.slice B4 l0_4.length d4,.slice B5 l0_5.length d5,.slice B6 l0_6.length d6] 25))));(have HO3:Aside0 (NdAt (w3.alloc (.cells #[.int .i64 a0_0,.int .i64 a0_1,.int .i64 a0_2,.string a0_3,.slice B4 l0_4.length d4,.slice B5 l0_5.length d5,.slice B6 l0_6.length d6] 25)) w3.heap.size a0_0 a0_1 a0_2 a0_3 (.slice B4 l0_4.length d4) (.slice B5 l0_5.length d5) (.slice B6 l0_6.length d6)):=⟨blk_newN _ _⟩);clear hR3 hR4 hR5 hR6 hB3 how hx3)
   | (go_at_call 45;(with_reducible refine (HPL.out _ (below_alloc HB3.out (.cells #[.int .i64 a0_0,.int .i64 a0_1,.int .i64 a0_2,.string a0_3,.slice B4 l0_4.length d4,.slice B5 l0_5.length d5,.slice B6 l0_6.length d6] 25))).mono ?_);rintro r w5 ⟨rfl,hB5⟩;clear b0 b1 b2 b3 b4 b5 b6 l3;(have ho5:=HO3.out.below hB5);obtain ⟨⟨b0,b1,b2,b3,b4,b5,b6⟩,_⟩:=ho5.cells;(have l5:=ho5.lt);(have HO5:=Aside0.mk ho5);(have HQ5:=Aside0.mk ((HQ3.out.below (below_alloc (Below.refl _ _) (.cells #[.int .i64 a0_0,.int .i64 a0_1,.int .i64 a0_2,.string a0_3,.slice B4 l0_4.length d4,.slice B5 l0_5.length d5,.slice B6 l0_6.length d6] 25))).below hB5));(have HB5:=Aside0.mk (below_from2 (below_alloc HB3.out (.cells #[.int .i64 a0_0,.int .i64 a0_1,.int .i64 a0_2,.string a0_3,.slice B4 l0_4.length d4,.slice B5 l0_5.length d5,.slice B6 l0_6.length d6] 25)) (Nat.le_refl _) hB5));(have HR5:=Aside0.mk (HR3.out.below hB5));clear hB5 ho5;(have hdel:=delS_calls w w5 w.heap.size (.slice B4 l0_4.length d4) l0_4 n (fun _=>True) HI.out.1 (Kd.R_reok rfl HR5.out.1 (fun _ _=>trivial)) HB5.out HB5.out.size);rw [← HYS.out,E1.out] at hdel)
   | (go_at_call 52;(with_reducible refine hdel.mono ?_);rintro r w6 ⟨v1,rfl,ht⟩;(have hR6:=HR5.out.turn4 ht);(have ho6:=NdAt.turned HO5.out HR5.out.1 (by decide) ht.2.2.1);(have hq6:=NdAt.turned HQ5.out HR5.out.1 (by decide) ht.2.2.1);obtain ⟨C4,e4,rfl,_,_⟩:=Kd.R_reads hR6.1;clear b0 b1 b2 b3 b4 b5 b6 l5 hdel;obtain ⟨⟨b0,b1,b2,b3,b4,b5,b6⟩,f0,f1,f2,f3,f4,f5,f6⟩:=ho6.cells;(have l6:=ho6.lt);(have hB6:Below w.heap.size w w6:=ht.2.1);(have hge:w.heap.size≤w3.heap.size:=HB3.out.size);(have HO6:Aside0 (NdAt (w6.setCell ⟨w3.heap.size,4,none⟩ (.slice C4 ys.length e4)) w3.heap.size a0_0 a0_1 a0_2 a0_3 (.slice C4 ys.length e4) (.slice B5 l0_5.length d5) (.slice B6 l0_6.length d6)):=⟨blk_put ho6 4 (.slice C4 ys.length e4) rfl⟩);(have HR6:Aside0 (Rows3 (w6.setCell ⟨w3.heap.size,4,none⟩ (.slice C4 ys.length e4)) _ _ _ _ _ _ _):=⟨hR6.set ho6 4 (.slice C4 ys.length e4)⟩);(have HQ6:Aside0 (NdAt (w6.setCell ⟨w3.heap.size,4,none⟩ (.slice C4 ys.length e4)) _ _ _ _ _ _ _ _):=⟨(Below.heap_setCell w6 ⟨w3.heap.size,4,none⟩ _ _ (by have:=HQ3.out.lt;exact Nat.ne_of_lt this)).trans hq6⟩);(have hB6s:Below w.heap.size w (w6.setCell ⟨w3.heap.size,4,none⟩ (.slice C4 ys.length e4)):=below_setN hB6 hge);(have hdel2:=delS_calls w (w6.setCell ⟨w3.heap.size,4,none⟩ (.slice C4 ys.length e4)) w.heap.size (.slice B5 l0_5.length d5) l0_5 n (fun _=>True) HI.out.2 (Kd.R_reok rfl HR6.out.2.1 (fun _ _=>trivial)) hB6s hB6s.size);rw [← HZS.out,E1.out] at hdel2;clear hB6 hge hB6s ho6 hq6 hR6 ht)
   | (go_at_call 52;(with_reducible refine hdel2.mono ?_);rintro r w7 ⟨v1,rfl,ht⟩;(have hR7:=HR6.out.turn5 ht);(have ho7:=NdAt.turned HO6.out HR6.out.2.1 (by decide) ht.2.2.1);(have hq7:=NdAt.turned HQ6.out HR6.out.2.1 (by decide) ht.2.2.1);obtain ⟨C5,e5,rfl,_,_⟩:=Kd.R_reads hR7.2.1;clear b0 b1 b2 b3 b4 b5 b6 f0 f1 f2 f3 f4 f5 f6 l6 hdel2;obtain ⟨⟨b0,b1,b2,b3,b4,b5,b6⟩,f0,f1,f2,f3,f4,f5,f6⟩:=ho7.cells;(have l7:=ho7.lt);(have hB7:Below w.heap.size w w7:=ht.2.1);(have hge:w.heap.size≤w3.heap.size:=HB3.out.size);(have HR7:Aside0 (Rows3 (w7.setCell ⟨w3.heap.size,5,none⟩ (.slice C5 zs.length e5)) _ _ _ _ _ _ _):=⟨hR7.set ho7 5 (.slice C5 zs.length e5)⟩);(have hq7s:NdAt (w7.setCell ⟨w3.heap.size,5,none⟩ (.slice C5 zs.length e5)) _ _ _ _ _ _ _ _:=(Below.heap_setCell w7 ⟨w3.heap.size,5,none⟩ _ _ (by have:=HQ3.out.lt;exact Nat.ne_of_lt this)).trans hq7);(have hQ8:=HQ3.out.lt);(have hne8:¬ (w.heap.size+1=w3.heap.size):=Nat.ne_of_lt hQ8);(have hne9:¬ (w3.heap.size=w.heap.size+1):=fun e=>hne8 e.symm);obtain ⟨_,p0,p1,p2,p3,p4,p5,p6⟩:=hq7.cells;(have lq:=hq7.lt);(have HQ7:=Aside0.mk hq7s);(have HB7:Aside0 (Below w.heap.size w (w7.setCell ⟨w3.heap.size,5,none⟩ (.slice C5 zs.length e5))):=⟨below_setN hB7 hge⟩);clear hB7 hge hq7s ho7 hq7 hR7 ht hQ8))
  refine bodyPost_ret (results_ct rfl _ _ (w.heap.size+1) 25 #[.int .i64 a0_0,.int .i64 a0_1,.int .i64 a0_2,.string a0_3,.slice C4 ys.length e4,.slice C5 zs.length e5,.slice B6 l0_6.length d6] (0,0) _ rfl (HQ7.out.set7 a0_0 a0_1 a0_2 a0_3 (.slice C4 ys.length e4) (.slice C5 zs.length e5) (.slice B6 l0_6.length d6)) Try.underlying25 rfl (by kernel_rfl)) rfl ?_
  exact ⟨_,_,_,rfl,RN_set7 HR7.out.1 HQ7.out str_ne _ _ _ _ _ _ _,RN_set7 HR7.out.2.1 HQ7.out str_ne _ _ _ _ _ _ _,RN_set7 HR7.out.2.2 HQ7.out int_ne _ _ _ _ _ _ _,below_set7 HB7.out (by omega)⟩
 | false =>
  rw [if_neg (by decide)] at h
  simp only [Option.some.injEq,Prod.mk.injEq] at h
  obtain ⟨rfl,rfl,rfl,rfl,rfl,rfl,rfl,rfl⟩:=h
  go_enter Try.func30,Try.ntmps30
  go_wp2_with (first
   | (go_at_call 44;(with_reducible refine hask.mono ?_);rintro r w2 ⟨rfl,hB2⟩;(have hx2:=HX.out.below hB2);obtain ⟨⟨b0,b1,b2,b3,b4,b5,b6⟩,_⟩:=hx2.cells;(have HX2:=Aside0.mk hx2);(have HQ2:=Aside0.mk (HQ.out.below hB2));(have HB2:=Aside0.mk (below_from2 HB0.out (Nat.le_refl _) hB2));(have how:=HOWN.out w2 HB2.out);clear hB2 hask hx2)
   | (go_at_call 38;(with_reducible refine how.mono ?_);rintro r w3 ⟨v4,v5,v6,rfl,hR4,hR5,hR6,hB3⟩;(have hR3:Rows3 w3 w2.heap.size v4 l0_4 v5 l0_5 v6 l0_6:=⟨hR4,hR5,hR6⟩);obtain ⟨B4,d4,rfl,_,_⟩:=Kd.R_reads hR4;obtain ⟨B5,d5,rfl,_,_⟩:=Kd.R_reads hR5;obtain ⟨B6,d6,rfl,_,_⟩:=Kd.R_reads hR6;(have hx3:=HX2.out.below hB3);clear b0 b1 b2 b3 b4 b5 b6;obtain ⟨⟨b0,b1,b2,b3,b4,b5,b6⟩,_⟩:=hx3.cells;(have l3:=hx3.lt);(have HX3:=Aside0.mk hx3);(have HQ3:=Aside0.mk (HQ2.out.below hB3));(have HB3:=Aside0.mk (below_from2 HB2.out (Nat.le_refl _) hB3));(have HR3:=Aside0.mk ((hR3.lower HB2.out.size).below (below_alloc (Below.refl _ _) (.cells #[.int .i64 a0_0,.int .i64 a0_1,.int .i64 a0_2,.string a0_3,.slice B4 l0_4.length d4,.slice B5 l0_5.length d5,.slice B6 l0_6.length d6] 25))));(have HO3:Aside0 (NdAt (w3.alloc (.cells #[.int .i64 a0_0,.int .i64 a0_1,.int .i64 a0_2,.string a0_3,.slice B4 l0_4.length d4,.slice B5 l0_5.length d5,.slice B6 l0_6.length d6] 25)) w3.heap.size a0_0 a0_1 a0_2 a0_3 (.slice B4 l0_4.length d4) (.slice B5 l0_5.length d5) (.slice B6 l0_6.length d6)):=⟨blk_newN _ _⟩);clear hR3 hR4 hR5 hR6 hB3 how hx3)
   | (go_at_call 45;(with_reducible refine (HPL.out _ (below_alloc HB3.out (.cells #[.int .i64 a0_0,.int .i64 a0_1,.int .i64 a0_2,.string a0_3,.slice B4 l0_4.length d4,.slice B5 l0_5.length d5,.slice B6 l0_6.length d6] 25))).mono ?_);rintro r w5 ⟨rfl,hB5⟩;clear b0 b1 b2 b3 b4 b5 b6 l3;(have ho5:=HO3.out.below hB5);obtain ⟨⟨b0,b1,b2,b3,b4,b5,b6⟩,_⟩:=ho5.cells;(have l5:=ho5.lt);(have HO5:=Aside0.mk ho5);(have HQ5:=Aside0.mk ((HQ3.out.below (below_alloc (Below.refl _ _) (.cells #[.int .i64 a0_0,.int .i64 a0_1,.int .i64 a0_2,.string a0_3,.slice B4 l0_4.length d4,.slice B5 l0_5.length d5,.slice B6 l0_6.length d6] 25))).below hB5));(have HB5:=Aside0.mk (below_from2 (below_alloc HB3.out (.cells #[.int .i64 a0_0,.int .i64 a0_1,.int .i64 a0_2,.string a0_3,.slice B4 l0_4.length d4,.slice B5 l0_5.length d5,.slice B6 l0_6.length d6] 25)) (Nat.le_refl _) hB5));(have HR5:=Aside0.mk (HR3.out.below hB5));clear hB5 ho5;(have hq5:=HQ5.out);obtain ⟨_,p0,p1,p2,p3,p4,p5,p6⟩:=hq5.cells;(have lq:=hq5.lt);(have hQ8:=HQ3.out.lt);(have hne8:¬ (w.heap.size+1=w3.heap.size):=Nat.ne_of_lt hQ8);(have hne9:¬ (w3.heap.size=w.heap.size+1):=fun e=>hne8 e.symm);clear hq5 hQ8))
  refine bodyPost_ret (results_ct rfl _ _ (w.heap.size+1) 25 #[.int .i64 a0_0,.int .i64 a0_1,.int .i64 a0_2,.string a0_3,.slice B4 l0_4.length d4,.slice B5 l0_5.length d5,.slice B6 l0_6.length d6] (0,0) _ rfl (HQ5.out.set7 a0_0 a0_1 a0_2 a0_3 (.slice B4 l0_4.length d4) (.slice B5 l0_5.length d5) (.slice B6 l0_6.length d6)) Try.underlying25 rfl (by kernel_rfl)) rfl ?_
  exact ⟨_,_,_,rfl,RN_set7 HR5.out.1 HQ5.out str_ne _ _ _ _ _ _ _,RN_set7 HR5.out.2.1 HQ5.out str_ne _ _ _ _ _ _ _,RN_set7 HR5.out.2.2 HQ5.out int_ne _ _ _ _ _ _ _,below_set7 HB5.out (by omega)⟩
end Go.Proofs.Ytcocmpblmkdmjaa.Pr
