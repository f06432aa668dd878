-- A part of the text PageLaws, thinned by a program of this session.
import Derived.Test.YthfhkcicpfnedaaTPageEncodesPageLaw
import Derived.Test.YthfhkcicpfnedaaTPageEncodesCrcRef
import Derived.Lib.SlBytesConst
import Derived.StillTailTactics
namespace Go.Proofs.Ythfhkcicpfnedaa.Page
open Go.RowKit Go.Proofs.YthfhkcicpfnedaaW.PrintWords Go.Proofs.YthfhkcicpfnedaaW.PrintLast Go.Proofs.YthfhkcicpfnedaaW.PrintMore Go.Proofs.Ythfhkcicpfnedaa.Wire Go.Proofs.Ythfhkcicpfnedaa.Crc Go.Proofs.Ythfhkcicpfnedaa.Pr
open Go.Proofs.Ythfhkcicpfnedaa.Back (AllB)
open Go.Proofs.Ythfhkcicpfnedaa.Pure
set_option linter.unusedVariables false
set_option linter.unusedSimpArgs false
section
variable {w W:World} {x0 x1 x2:Int} {x3:ByteArray} {A4 A5 A6:Option Addr} {c4 c5 c6:Nat} {l4 l5:List ByteArray} {l6:List Int}
theorem ref_nd (x0 x1 x2:Int) (x3:ByteArray) (h:NdC W A4 c4 l4 A5 c5 l5 A6 c6 l6) (hl:l4.length*16≤140737488351232) (hv:l5.length*16≤140737488351232) (hk:l6.length*8≤140737488351232) (hg:∀ y ∈ l4,y.size≤140737488351232) :
  Calls Try.prog 15 #[.agg #[.int .i64 x0,.int .i64 x1,.int .i64 x2,.string x3,.slice A4 l4.length c4,.slice A5 l5.length c5,.slice A6 l6.length c6]] W fun e w'=>∃ A c,e=.returned (.tuple #[.slice A (pageF x0 x1 x2 x3 l4 l5 l6).1.length c,.int .i64 (pageF x0 x1 x2 x3 l4 l5 l6).2])∧Kd.C (Kd.int .u8) w' A (pageF x0 x1 x2 x3 l4 l5 l6).1.length (pageF x0 x1 x2 x3 l4 l5 l6).1∧Below W.heap.size W w':=by
 refine (refenc_ok x0 x1 x2 x3 A4 c4 l4 A5 c5 l5 A6 c6 l6 W h.1.1 h.1.2 h.2.1.1 h.2.1.2 h.2.2.1 h.2.2.2 hl hv hk hg).mono ?_
 rintro e w' ⟨v0,rfl,hR,hB⟩
 obtain ⟨A,c,rfl,l7,k7⟩:=Kd.R_reads hR
 exact ⟨A,c,rfl,k7,hB⟩
end
set_option maxHeartbeats 8000000 in
set_option maxRecDepth 100000 in
theorem encodes_ok (x0 x1 x2:Int) (x3:ByteArray) (A4:Option Addr) (c4:Nat) (l4:List ByteArray) (A5:Option Addr) (c5:Nat) (l5:List ByteArray) (A6:Option Addr) (c6:Nat) (l6:List Int) (w:World) (h:NdC w A4 c4 l4 A5 c5 l5 A6 c6 l6) (hl:l4.length*16≤140737488351232) (hv:l5.length*16≤140737488351232) (hk:l6.length*8≤140737488351232) (hg:∀ y ∈ l4,y.size≤140737488351232) :
  Calls Try.prog 4 #[.agg #[.int .i64 x0,.int .i64 x1,.int .i64 x2,.string x3,.slice A4 l4.length c4,.slice A5 l5.length c5,.slice A6 l6.length c6]] w fun e w'=>e=.returned (.bool true)∧Below w.heap.size w w':=by
 have hn:=h.boxed x0 x1 x2 x3
 have hen:=enc_nd x0 x1 x2 x3 hn.2 hl hv
 have HREF:=Aside0.mk (fun W (h:NdC W A4 c4 l4 A5 c5 l5 A6 c6 l6)=>ref_nd x0 x1 x2 x3 h hl hv hk hg)
 have HB:=Aside0.mk (below_alloc (Below.refl w.heap.size w) (.cells #[.int .i64 x0,.int .i64 x1,.int .i64 x2,.string x3,.slice A4 l4.length c4,.slice A5 l5.length c5,.slice A6 l6.length c6] 25))
 have HN:=Aside0.mk hn
 obtain ⟨⟨b0,b1,b2,b3,b4,b5,b6⟩,_⟩:=hn.1.cells
 clear h hn hl hv hk hg
 generalize pageF x0 x1 x2 x3 l4 l5 l6=P at hen HREF
 have d0:(P.2==P.2)=true:=by simp
 go_enter Try.func4,Try.ntmps4
 go_wp2_with (first
  | (go_at_call 14;(with_reducible refine hen.mono ?_);rintro e w2 ⟨A,c,rfl,h1,h2,_,hB⟩;clear b0 b1 b2 b3 b4 b5 b6;(replace HN:=Aside0.mk (HN.out.below hB));obtain ⟨⟨b0,b1,b2,b3,b4,b5,b6⟩,_⟩:=HN.out.1.cells;(replace HB:=Aside0.mk (below_same HB.out hB));(have HA:=Aside0.mk h2);(have href:=HREF.out w2 HN.out.2);clear h1 h2 hB hen)
  | (go_at_call 15;(with_reducible refine href.mono ?_);rintro e w3 ⟨A',c',rfl,h2,hB⟩;(have cv1:=Kd.C_string (P:=Try.prog) (c:=c) Try.underlying31 Try.underlying5 Try.underlying9 (Kd.C_below HA.out hB));(have cv2:=Kd.C_string (P:=Try.prog) (c:=c') Try.underlying31 Try.underlying5 Try.underlying9 h2);(replace HB:=Aside0.mk (below_same HB.out hB));(have hsp:=speaks6_ok w3);clear h2 hB href)
  | (go_at_call 13;(with_reducible refine hsp.mono ?_);rintro e w4 ⟨rfl,hB⟩;(replace HB:=Aside0.mk (below_same HB.out hB));clear hB hsp))
 go_ret
 exact ⟨rfl,HB.out⟩
end Go.Proofs.Ythfhkcicpfnedaa.Page
