-- A part of the text PageLaws, thinned by a program of this session.
import Derived.Test.YthfhkcicpfnedaaTPageBackPageLaw
import Derived.Test.YthfhkcicpfnedaaTPageBackCrcRef
import Derived.Lib.SlBytesConst
import Derived.StillTailTactics
namespace Go.Proofs.Ythfhkcicpfnedaa.Page
open Go.RowKit Go.Proofs.YthfhkcicpfnedaaW.PrintWords Go.Proofs.YthfhkcicpfnedaaW.PrintLast Go.Proofs.YthfhkcicpfnedaaW.PrintMore Go.Proofs.Ythfhkcicpfnedaa.Wire Go.Proofs.Ythfhkcicpfnedaa.Crc Go.Proofs.Ythfhkcicpfnedaa.Pr
open Go.Proofs.Ythfhkcicpfnedaa.Back (AllB)
open Go.Proofs.Ythfhkcicpfnedaa.Pure
set_option linter.unusedVariables false
set_option linter.unusedSimpArgs false
section
variable {w W:World} {x0 x1 x2:Int} {x3:ByteArray} {A4 A5 A6:Option Addr} {c4 c5 c6:Nat} {l4 l5:List ByteArray} {l6:List Int}
theorem res_parts {u:Value} (h:NdRes w u (x0,x1,x2,x3,l4,l5,l6)):∃ A4 c4 A5 c5 A6 c6,u=.agg #[.int .i64 x0,.int .i64 x1,.int .i64 x2,.string x3,.slice A4 l4.length c4,.slice A5 l5.length c5,.slice A6 l6.length c6]∧NdC w A4 c4 l4 A5 c5 l5 A6 c6 l6:=h.parts
end
theorem zero_nd {W:World} {A4 A5 A6:Option Addr} {c4 c5 c6:Nat} {l4 l5:List ByteArray} {l6:List Int} (h:NdC W A4 c4 l4 A5 c5 l5 A6 c6 l6) (h4:l4=[]) (h5:l5=[]) (h6:l6=[]) :
  Calls Try.prog 18 #[.agg #[.int .i64 0,.int .i64 0,.int .i64 0,.string ⟨#[]⟩,.slice A4 l4.length c4,.slice A5 l5.length c5,.slice A6 l6.length c6],.agg #[.int .i64 0,.int .i64 0,.int .i64 0,.string ⟨#[]⟩,.slice none 0 0,.slice none 0 0,.slice none 0 0]] W fun e w'=>e=.returned (.bool true)∧Below W.heap.size W w':=by
 subst h4 h5 h6
 exact node_same 0 0 0 ⟨#[]⟩ A4 c4 [] A5 c5 [] A6 c6 [] none 0 none 0 none 0 W h.1.1 h.2.1.1 h.2.2.1 (Kd.C_nil _ _) (Kd.C_nil _ _) (Kd.C_nil _ _)
theorem vals_few (ys:List Int):(decF ys).1.2.2.2.2.2.1.length≤252:=by
 unfold decF
 split
 ·exact Nat.zero_le _
 ·split
  ·exact Nat.zero_le _
  ·split
   ·exact (lens_end _).2.1
   ·exact Nat.zero_le _
set_option maxHeartbeats 16000000 in
set_option maxRecDepth 100000 in
theorem back_ok (x0 x1 x2:Int) (x3:ByteArray) (A4:Option Addr) (c4:Nat) (l4:List ByteArray) (A5:Option Addr) (c5:Nat) (l5:List ByteArray) (A6:Option Addr) (c6:Nat) (l6:List Int) (A:Option Addr) (c:Nat) (xs:List Int) (w:World) (h:NdC w A4 c4 l4 A5 c5 l5 A6 c6 l6) (hl:l4.length*16≤140737488351232) (hv:l5.length*16≤140737488351232) (hr:Kd.C (Kd.int .u8) w A xs.length xs) (hc:xs.length≤c) (hb:AllB xs) :
  Calls Try.prog 6 #[.agg #[.int .i64 x0,.int .i64 x1,.int .i64 x2,.string x3,.slice A4 l4.length c4,.slice A5 l5.length c5,.slice A6 l6.length c6],.slice A xs.length c] w fun e w'=>e=.returned (.bool true)∧Below w.heap.size w w':=by
 have hn:=h.boxed x0 x1 x2 x3
 have hen:=enc_nd x0 x1 x2 x3 hn.2 hl hv
 have HB:=Aside0.mk (below_alloc (Below.refl w.heap.size w) (.cells #[.int .i64 x0,.int .i64 x1,.int .i64 x2,.string x3,.slice A4 l4.length c4,.slice A5 l5.length c5,.slice A6 l6.length c6] 25))
 have HN:=Aside0.mk hn
 have HX:=Aside0.mk hr
 have HXC:=Aside0.mk hc
 have HXB:=Aside0.mk hb
 have hpo:=pageF_ok x0 x1 x2 x3 l4 l5 l6
 have hdec:=fun (e:(pageF x0 x1 x2 x3 l4 l5 l6).2=0)=>dec_enc (v:=(x0,x1,x2,x3,l4,l5,l6)) (xs:=(pageF x0 x1 x2 x3 l4 l5 l6).1) (Prod.ext rfl e) hl
 obtain ⟨⟨⟨y0,y1,y2,y3,k4,k5,k6⟩,f⟩,hd⟩:∃ D,decF xs=D:=⟨_,rfl⟩
 have HFW:Aside0 (k4.length*16≤140737488351232∧k5.length*16≤140737488351232):=⟨by
  have q1:=dec_few (xs:=xs)
  have q2:=vals_few xs
  rw [hd] at q1 q2
  dsimp only at q1 q2
  omega⟩
 have HD:=Aside0.mk hd
 obtain ⟨⟨b0,b1,b2,b3,b4,b5,b6⟩,_⟩:=hn.1.cells
 have ltn:=hn.1.lt
 clear h hn hl hv hr hc hb hd
 generalize pageF x0 x1 x2 x3 l4 l5 l6=P at hen hpo hdec
 obtain ⟨ps,e⟩:=P
 dsimp only at hen hpo hdec
 have HPB:=Aside0.mk hpo.1
 rcases hpo.2 with rfl|rfl
 ·have HDEC:=Aside0.mk (hdec rfl)
  clear hpo hdec
  clear ltn
  by_cases hf:f=0
  ·subst hf
   have HENC:=Aside0.mk (enc_dec (xs:=xs) (by rw [HD.out]))
   rw [HD.out] at HENC
   have HENC:Aside0 (pageF y0 y1 y2 y3 k4 k5 k6=(xs,0)):=HENC
   go_enter Try.func6,Try.ntmps6
   go_wp2_with (first
    | (go_at_call 14;(with_reducible refine hen.mono ?_);rintro e w2 ⟨A8,c8,rfl,h1,h2,_,hB⟩;clear b0 b1 b2 b3 b4 b5 b6;(replace HN:=Aside0.mk (HN.out.below hB));obtain ⟨⟨b0,b1,b2,b3,b4,b5,b6⟩,_⟩:=HN.out.1.cells;(have ltn:=HN.out.1.lt);(replace HB:=Aside0.mk (below_same HB.out hB));(have hde:=decode_ok A8 c8 ps w2 h2 h1 HPB.out);rw [HDEC.out] at hde;clear h1 h2 hB hen)
    | (go_at_call 16;(with_reducible refine hde.mono ?_);rintro e w3 ⟨u,rfl,hr,hB⟩;obtain ⟨B4,d4,B5,d5,B6,d6,rfl,hc⟩:=res_parts hr;clear b0 b1 b2 b3 b4 b5 b6;clear ltn;(have HM:=Aside0.mk (hc.boxed x0 x1 x2 x3));(replace HN:=Aside0.mk (HN.out.step hB (.cells #[.int .i64 x0,.int .i64 x1,.int .i64 x2,.string x3,.slice B4 l4.length d4,.slice B5 l5.length d5,.slice B6 l6.length d6] 25)));obtain ⟨⟨b0,b1,b2,b3,b4,b5,b6⟩,_⟩:=HN.out.1.cells;obtain ⟨⟨m0,m1,m2,m3,m4,m5,m6⟩,_⟩:=HM.out.1.cells;(have ltn:=HN.out.1.lt);(replace HB:=Aside0.mk (below_next HB.out hB (.cells #[.int .i64 x0,.int .i64 x1,.int .i64 x2,.string x3,.slice B4 l4.length d4,.slice B5 l5.length d5,.slice B6 l6.length d6] 25)));(have hsm:=same_nd (x0:=x0) (x1:=x1) (x2:=x2) (x3:=x3) HM.out.2 HN.out.2);clear hr hc hB hde)
    | (go_at_call 18;(with_reducible refine hsm.mono ?_);rintro e w4 ⟨rfl,hB⟩;(replace HB:=Aside0.mk (below_same HB.out hB));(have hde2:=decode_ok A c xs _ (Kd.C_below HX.out HB.out) HXC.out HXB.out);rw [HD.out] at hde2;clear b0 b1 b2 b3 b4 b5 b6;clear m0 m1 m2 m3 m4 m5 m6;clear hB hsm)
    | (go_at_call 16;(with_reducible refine hde2.mono ?_);rintro e w5 ⟨u,rfl,hr,hB⟩;obtain ⟨G4,h4,G5,h5,G6,h6,rfl,hc⟩:=res_parts hr;(have HG:=Aside0.mk (hc.boxed y0 y1 y2 y3));obtain ⟨⟨g0,g1,g2,g3,g4,g5,g6⟩,_⟩:=HG.out.1.cells;(replace HB:=Aside0.mk (below_next HB.out hB (.cells #[.int .i64 y0,.int .i64 y1,.int .i64 y2,.string y3,.slice G4 k4.length h4,.slice G5 k5.length h5,.slice G6 k6.length h6] 25)));(have hen2:=enc_nd y0 y1 y2 y3 HG.out.2 HFW.out.1 HFW.out.2);rw [HENC.out] at hen2;clear hr hc hB hde2)
    | (go_at_call 14;(with_reducible refine hen2.mono ?_);rintro e w6 ⟨A9,c9,rfl,q1,q2,_,hB⟩;(replace HB:=Aside0.mk (below_same HB.out hB));(have cv1:=Kd.C_string (P:=Try.prog) (c:=c9) Try.underlying31 Try.underlying5 Try.underlying9 q2);(have cv2:=Kd.C_string (P:=Try.prog) (c:=c) Try.underlying31 Try.underlying5 Try.underlying9 (Kd.C_below HX.out HB.out));(have hsp:=speaks6_ok w6);clear q1 q2 hB hen2)
    | (go_at_call 13;(with_reducible refine hsp.mono ?_);rintro e w7 ⟨rfl,hB⟩;(replace HB:=Aside0.mk (below_same HB.out hB));clear hB hsp))
   go_ret
   exact ⟨rfl,HB.out⟩
  ·have hz0:=dec_not (xs:=xs) (by rw [HD.out];exact hf)
   rw [HD.out] at hz0
   unfold zeroV at hz0
   simp only [Prod.mk.injEq] at hz0
   obtain ⟨⟨z0,z1,z2,z3,z4,z5,z6⟩,z7⟩:=hz0
   subst z0 z1 z2 z3 z7
   have HZ:Aside0 (k4=[]∧k5=[]∧k6=[]):=⟨z4,z5,z6⟩
   clear z4 z5 z6 hf
   go_enter Try.func6,Try.ntmps6
   go_wp2_with (first
    | (go_at_call 14;(with_reducible refine hen.mono ?_);rintro e w2 ⟨A8,c8,rfl,h1,h2,_,hB⟩;clear b0 b1 b2 b3 b4 b5 b6;(replace HN:=Aside0.mk (HN.out.below hB));obtain ⟨⟨b0,b1,b2,b3,b4,b5,b6⟩,_⟩:=HN.out.1.cells;(have ltn:=HN.out.1.lt);(replace HB:=Aside0.mk (below_same HB.out hB));(have hde:=decode_ok A8 c8 ps w2 h2 h1 HPB.out);rw [HDEC.out] at hde;clear h1 h2 hB hen)
    | (go_at_call 16;(with_reducible refine hde.mono ?_);rintro e w3 ⟨u,rfl,hr,hB⟩;obtain ⟨B4,d4,B5,d5,B6,d6,rfl,hc⟩:=res_parts hr;clear b0 b1 b2 b3 b4 b5 b6;clear ltn;(have HM:=Aside0.mk (hc.boxed x0 x1 x2 x3));(replace HN:=Aside0.mk (HN.out.step hB (.cells #[.int .i64 x0,.int .i64 x1,.int .i64 x2,.string x3,.slice B4 l4.length d4,.slice B5 l5.length d5,.slice B6 l6.length d6] 25)));obtain ⟨⟨b0,b1,b2,b3,b4,b5,b6⟩,_⟩:=HN.out.1.cells;obtain ⟨⟨m0,m1,m2,m3,m4,m5,m6⟩,_⟩:=HM.out.1.cells;(have ltn:=HN.out.1.lt);(replace HB:=Aside0.mk (below_next HB.out hB (.cells #[.int .i64 x0,.int .i64 x1,.int .i64 x2,.string x3,.slice B4 l4.length d4,.slice B5 l5.length d5,.slice B6 l6.length d6] 25)));(have hsm:=same_nd (x0:=x0) (x1:=x1) (x2:=x2) (x3:=x3) HM.out.2 HN.out.2);clear hr hc hB hde)
    | (go_at_call 18;(with_reducible refine hsm.mono ?_);rintro e w4 ⟨rfl,hB⟩;(replace HB:=Aside0.mk (below_same HB.out hB));(have hde2:=decode_ok A c xs _ (Kd.C_below HX.out HB.out) HXC.out HXB.out);rw [HD.out] at hde2;clear b0 b1 b2 b3 b4 b5 b6;clear m0 m1 m2 m3 m4 m5 m6;clear hB hsm)
    | (go_at_call 16;(with_reducible refine hde2.mono ?_);rintro e w5 ⟨u,rfl,hr,hB⟩;obtain ⟨G4,h4,G5,h5,G6,h6,rfl,hc⟩:=res_parts hr;(have HG:=Aside0.mk (hc.boxed 0 0 0 ⟨#[]⟩));obtain ⟨⟨g0,g1,g2,g3,g4,g5,g6⟩,_⟩:=HG.out.1.cells;(replace HB:=Aside0.mk (below_next HB.out hB (.cells #[.int .i64 0,.int .i64 0,.int .i64 0,.string ⟨#[]⟩,.slice G4 k4.length h4,.slice G5 k5.length h5,.slice G6 k6.length h6] 25)));(have hz:=zero_nd HG.out.2 HZ.out.1 HZ.out.2.1 HZ.out.2.2);clear hr hc hB hde2)
    | (go_at_call 18;(with_reducible refine hz.mono ?_);rintro e w6 ⟨rfl,hB⟩;(replace HB:=Aside0.mk (below_same HB.out hB));(have hsp:=speaks6_ok w6);clear hB hz)
    | (go_at_call 13;(with_reducible refine hsp.mono ?_);rintro e w7 ⟨rfl,hB⟩;(replace HB:=Aside0.mk (below_same HB.out hB));clear hB hsp))
   go_ret
   exact ⟨rfl,HB.out⟩
 ·clear hpo hdec ltn
  by_cases hf:f=0
  ·subst hf
   have HENC:=Aside0.mk (enc_dec (xs:=xs) (by rw [HD.out]))
   rw [HD.out] at HENC
   have HENC:Aside0 (pageF y0 y1 y2 y3 k4 k5 k6=(xs,0)):=HENC
   go_enter Try.func6,Try.ntmps6
   go_wp2_with (first
    | (go_at_call 14;(with_reducible refine hen.mono ?_);rintro e w2 ⟨A8,c8,rfl,h1,h2,_,hB⟩;clear b0 b1 b2 b3 b4 b5 b6;(replace HB:=Aside0.mk (below_same HB.out hB));(have hde2:=decode_ok A c xs _ (Kd.C_below HX.out HB.out) HXC.out HXB.out);rw [HD.out] at hde2;clear h1 h2 hB hen)
    | (go_at_call 16;(with_reducible refine hde2.mono ?_);rintro e w5 ⟨u,rfl,hr,hB⟩;obtain ⟨G4,h4,G5,h5,G6,h6,rfl,hc⟩:=res_parts hr;(have HG:=Aside0.mk (hc.boxed y0 y1 y2 y3));obtain ⟨⟨g0,g1,g2,g3,g4,g5,g6⟩,_⟩:=HG.out.1.cells;(replace HB:=Aside0.mk (below_next HB.out hB (.cells #[.int .i64 y0,.int .i64 y1,.int .i64 y2,.string y3,.slice G4 k4.length h4,.slice G5 k5.length h5,.slice G6 k6.length h6] 25)));(have hen2:=enc_nd y0 y1 y2 y3 HG.out.2 HFW.out.1 HFW.out.2);rw [HENC.out] at hen2;clear hr hc hB hde2)
    | (go_at_call 14;(with_reducible refine hen2.mono ?_);rintro e w6 ⟨A9,c9,rfl,q1,q2,_,hB⟩;(replace HB:=Aside0.mk (below_same HB.out hB));(have cv1:=Kd.C_string (P:=Try.prog) (c:=c9) Try.underlying31 Try.underlying5 Try.underlying9 q2);(have cv2:=Kd.C_string (P:=Try.prog) (c:=c) Try.underlying31 Try.underlying5 Try.underlying9 (Kd.C_below HX.out HB.out));(have hsp:=speaks6_ok w6);clear q1 q2 hB hen2)
    | (go_at_call 13;(with_reducible refine hsp.mono ?_);rintro e w7 ⟨rfl,hB⟩;(replace HB:=Aside0.mk (below_same HB.out hB));clear hB hsp))
   go_ret
   exact ⟨rfl,HB.out⟩
  ·have hz0:=dec_not (xs:=xs) (by rw [HD.out];exact hf)
   rw [HD.out] at hz0
   unfold zeroV at hz0
   simp only [Prod.mk.injEq] at hz0
   obtain ⟨⟨z0,z1,z2,z3,z4,z5,z6⟩,z7⟩:=hz0
   subst z0 z1 z2 z3 z7
   have HZ:Aside0 (k4=[]∧k5=[]∧k6=[]):=⟨z4,z5,z6⟩
   clear z4 z5 z6 hf
   go_enter Try.func6,Try.ntmps6
   go_wp2_with (first
    | (go_at_call 14;(with_reducible refine hen.mono ?_);rintro e w2 ⟨A8,c8,rfl,h1,h2,_,hB⟩;clear b0 b1 b2 b3 b4 b5 b6;(replace HB:=Aside0.mk (below_same HB.out hB));(have hde2:=decode_ok A c xs _ (Kd.C_below HX.out HB.out) HXC.out HXB.out);rw [HD.out] at hde2;clear h1 h2 hB hen)
    | (go_at_call 16;(with_reducible refine hde2.mono ?_);rintro e w5 ⟨u,rfl,hr,hB⟩;obtain ⟨G4,h4,G5,h5,G6,h6,rfl,hc⟩:=res_parts hr;(have HG:=Aside0.mk (hc.boxed 0 0 0 ⟨#[]⟩));obtain ⟨⟨g0,g1,g2,g3,g4,g5,g6⟩,_⟩:=HG.out.1.cells;(replace HB:=Aside0.mk (below_next HB.out hB (.cells #[.int .i64 0,.int .i64 0,.int .i64 0,.string ⟨#[]⟩,.slice G4 k4.length h4,.slice G5 k5.length h5,.slice G6 k6.length h6] 25)));(have hz:=zero_nd HG.out.2 HZ.out.1 HZ.out.2.1 HZ.out.2.2);clear hr hc hB hde2)
    | (go_at_call 18;(with_reducible refine hz.mono ?_);rintro e w6 ⟨rfl,hB⟩;(replace HB:=Aside0.mk (below_same HB.out hB));(have hsp:=speaks6_ok w6);clear hB hz)
    | (go_at_call 13;(with_reducible refine hsp.mono ?_);rintro e w7 ⟨rfl,hB⟩;(replace HB:=Aside0.mk (below_same HB.out hB));clear hB hsp))
   go_ret
   exact ⟨rfl,HB.out⟩
end Go.Proofs.Ythfhkcicpfnedaa.Page
