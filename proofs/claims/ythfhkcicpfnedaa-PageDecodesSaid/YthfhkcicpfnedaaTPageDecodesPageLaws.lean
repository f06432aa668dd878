-- A part of the text PageLaws, thinned by a program of this session.
import Derived.Test.YthfhkcicpfnedaaTPageDecodesPageLaw
import Derived.Test.YthfhkcicpfnedaaTPageDecodesCrcRef
import Derived.Lib.SlBytesConst
import Derived.StillTailTactics
namespace Go.Proofs.Ythfhkcicpfnedaa.Page
open Go.RowKit Go.Proofs.YthfhkcicpfnedaaW.PrintWords Go.Proofs.YthfhkcicpfnedaaW.PrintLast Go.Proofs.YthfhkcicpfnedaaW.PrintMore Go.Proofs.Ythfhkcicpfnedaa.Wire Go.Proofs.Ythfhkcicpfnedaa.Crc Go.Proofs.Ythfhkcicpfnedaa.Pr
open Go.Proofs.Ythfhkcicpfnedaa.Back (AllB)
open Go.Proofs.Ythfhkcicpfnedaa.Pure
set_option linter.unusedVariables false
set_option linter.unusedSimpArgs false
section
variable {w W:World} {x0 x1 x2:Int} {x3:ByteArray} {A4 A5 A6:Option Addr} {c4 c5 c6:Nat} {l4 l5:List ByteArray} {l6:List Int}
theorem res_parts {u:Value} (h:NdRes w u (x0,x1,x2,x3,l4,l5,l6)):∃ A4 c4 A5 c5 A6 c6,u=.agg #[.int .i64 x0,.int .i64 x1,.int .i64 x2,.string x3,.slice A4 l4.length c4,.slice A5 l5.length c5,.slice A6 l6.length c6]∧NdC w A4 c4 l4 A5 c5 l5 A6 c6 l6:=h.parts
end
set_option maxHeartbeats 8000000 in
set_option maxRecDepth 100000 in
theorem decodes_ok (A:Option Addr) (c:Nat) (xs:List Int) (w:World) (hr:Kd.C (Kd.int .u8) w A xs.length xs) (hc:xs.length≤c) (hb:AllB xs) :
  Calls Try.prog 5 #[.slice A xs.length c] w fun e w'=>e=.returned (.bool true)∧Below w.heap.size w w':=by
 have hde:=decode_ok A c xs w hr hc hb
 have HREF:=Aside0.mk (fun W (hB:Below w.heap.size w W)=>refdec_ok A c xs W (Kd.C_below hr hB) hc hb)
 rw [decR_eq hb] at HREF
 clear hr hc hb
 generalize decF xs=D at hde HREF
 obtain ⟨⟨x0,x1,x2,x3,l4,l5,l6⟩,f⟩:=D
 dsimp only at hde HREF
 have d0:(f==f)=true:=by simp
 go_enter Try.func5,Try.ntmps5
 go_wp2_with (first
  | (go_at_call 16;(with_reducible refine hde.mono ?_);rintro e w2 ⟨u,rfl,hr,hB⟩;obtain ⟨A4,c4,A5,c5,A6,c6,rfl,hc⟩:=res_parts hr;(have HN:=Aside0.mk (hc.boxed x0 x1 x2 x3));obtain ⟨⟨b0,b1,b2,b3,b4,b5,b6⟩,_⟩:=HN.out.1.cells;(have ltn:=HN.out.1.lt);(have HB:=Aside0.mk (below_alloc hB (.cells #[.int .i64 x0,.int .i64 x1,.int .i64 x2,.string x3,.slice A4 l4.length c4,.slice A5 l5.length c5,.slice A6 l6.length c6] 25)));(have href:=HREF.out _ HB.out);clear hr hc hB hde)
  | (go_at_call 17;(with_reducible refine href.mono ?_);rintro e w3 ⟨u,rfl,hr,hB⟩;obtain ⟨B4,d4,B5,d5,B6,d6,rfl,hc⟩:=res_parts hr;clear b0 b1 b2 b3 b4 b5 b6;clear ltn;(have HM:=Aside0.mk (hc.boxed x0 x1 x2 x3));(replace HN:=Aside0.mk (HN.out.step hB (.cells #[.int .i64 x0,.int .i64 x1,.int .i64 x2,.string x3,.slice B4 l4.length d4,.slice B5 l5.length d5,.slice B6 l6.length d6] 25)));obtain ⟨⟨b0,b1,b2,b3,b4,b5,b6⟩,_⟩:=HN.out.1.cells;obtain ⟨⟨m0,m1,m2,m3,m4,m5,m6⟩,_⟩:=HM.out.1.cells;(have ltn:=HM.out.1.lt);(replace HB:=Aside0.mk (below_next HB.out hB (.cells #[.int .i64 x0,.int .i64 x1,.int .i64 x2,.string x3,.slice B4 l4.length d4,.slice B5 l5.length d5,.slice B6 l6.length d6] 25)));(have hsm:=same_nd (x0:=x0) (x1:=x1) (x2:=x2) (x3:=x3) HN.out.2 HM.out.2);clear hr hc hB href)
  | (go_at_call 18;(with_reducible refine hsm.mono ?_);rintro e w4 ⟨rfl,hB⟩;(replace HB:=Aside0.mk (below_same HB.out hB));(have hsp:=speaks6_ok w4);clear hB hsm)
  | (go_at_call 13;(with_reducible refine hsp.mono ?_);rintro e w5 ⟨rfl,hB⟩;(replace HB:=Aside0.mk (below_same HB.out hB));clear hB hsp))
 go_ret
 exact ⟨rfl,HB.out⟩
end Go.Proofs.Ythfhkcicpfnedaa.Page
