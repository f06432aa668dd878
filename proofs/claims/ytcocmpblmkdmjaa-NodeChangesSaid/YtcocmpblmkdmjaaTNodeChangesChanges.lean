-- A part of the text Changes, thinned by a program of this session.
import Derived.Test.YtcocmpblmkdmjaaTNodeChangesLawKit
import Derived.Test.YtcocmpblmkdmjaaTNodeChangesPrx25
import Derived.Test.YtcocmpblmkdmjaaTNodeChangesPrx28
import Derived.Test.YtcocmpblmkdmjaaTNodeChangesNodeDel
namespace Go.Proofs.Ytcocmpblmkdmjaa.Pr
open Go.RowKit Go.Proofs.YtcocmpblmkdmjaaW.PrintWords Go.Proofs.YtcocmpblmkdmjaaW.PrintLast Go.Proofs.YtcocmpblmkdmjaaW.PrintMore
set_option linter.unusedVariables false
set_option linter.unusedSimpArgs false
def changesF (k:Nat) (a0_0:Int) (a0_1:Int) (a0_2:Int) (a0_3:ByteArray) (l0_4:List ByteArray) (l0_5:List ByteArray) (l0_6:List Int) (a1 a2:ByteArray):Option Bool :=
 (putG k a0_0 a0_1 a0_2 a0_3 l0_4 l0_5 l0_6 a1 a2).bind fun a=>(latticeref07_Put.f k a0_0 a0_1 a0_2 a0_3 l0_4 l0_5 l0_6 a1 a2).bind fun b=>if a=b then
  (delG k a0_0 a0_1 a0_2 a0_3 l0_4 l0_5 l0_6 a1).bind fun x=>(latticeref07_Del.f k a0_0 a0_1 a0_2 a0_3 l0_4 l0_5 l0_6 a1).bind fun y=>if x=y then some true else none
 else none
set_option maxHeartbeats 8000000 in
set_option maxRecDepth 100000 in
theorem changes_calls (k:Nat) (a0_0:Int) (a0_1:Int) (a0_2:Int) (a0_3:ByteArray) (A0_4:Option Addr) (c0_4:Nat) (l0_4:List ByteArray) (A0_5:Option Addr) (c0_5:Nat) (l0_5:List ByteArray) (A0_6:Option Addr) (c0_6:Nat) (l0_6:List Int) (a1 a2:ByteArray) (r:Bool) (w:World) (hr0_4:Kd.C Kd.string w A0_4 l0_4.length l0_4) (hc0_4:l0_4.length≤c0_4) (hr0_5:Kd.C Kd.string w A0_5 l0_5.length l0_5) (hc0_5:l0_5.length≤c0_5) (hr0_6:Kd.C (Kd.int .i64) w A0_6 l0_6.length l0_6) (hc0_6:l0_6.length≤c0_6) (h:changesF k a0_0 a0_1 a0_2 a0_3 l0_4 l0_5 l0_6 a1 a2=some r) :
  Calls Try.prog 7 #[.agg #[.int .i64 a0_0,.int .i64 a0_1,.int .i64 a0_2,.string a0_3,.slice A0_4 l0_4.length c0_4,.slice A0_5 l0_5.length c0_5,.slice A0_6 l0_6.length c0_6],.string a1,.string a2] w fun e w'=>e=.returned (.bool r)∧Below w.heap.size w w':=by
 unfold changesF at h
 replace h:=Option.bind_eq_some_iff.1 h
 obtain ⟨⟨na1,na2,na3,na4,na5,na6,na7,na8⟩,HP,h⟩:=h
 replace HP:=Aside0.mk HP
 replace h:=Option.bind_eq_some_iff.1 h
 obtain ⟨nb,HQ,h⟩:=h
 by_cases hc:(na1,na2,na3,na4,na5,na6,na7,na8)=nb
 case neg=>rw [if_neg hc] at h;cases h
 rw [if_pos hc] at h
 subst hc
 replace HQ:=Aside0.mk HQ
 replace h:=Option.bind_eq_some_iff.1 h
 obtain ⟨⟨nx1,nx2,nx3,nx4,nx5,nx6,nx7,nx8⟩,HD,h⟩:=h
 replace HD:=Aside0.mk HD
 replace h:=Option.bind_eq_some_iff.1 h
 obtain ⟨ny,HE,h⟩:=h
 by_cases hc:(nx1,nx2,nx3,nx4,nx5,nx6,nx7,nx8)=ny
 case neg=>rw [if_neg hc] at h;cases h
 rw [if_pos hc] at h
 subst hc
 replace HE:=Aside0.mk HE
 injection h with h
 subst h
 have HB:=Aside0.mk (below_alloc (Below.refl w.heap.size w) (.cells #[.int .i64 a0_0,.int .i64 a0_1,.int .i64 a0_2,.string a0_3,.slice A0_4 l0_4.length c0_4,.slice A0_5 l0_5.length c0_5,.slice A0_6 l0_6.length c0_6] 25))
 have HLn:=Aside0.mk (NdV.boxed (w:=w) ⟨⟨hr0_4,hc0_4⟩,⟨hr0_5,hc0_5⟩,⟨hr0_6,hc0_6⟩⟩ a0_0 a0_1 a0_2 a0_3)
 have hc1:=put_calls k a0_0 a0_1 a0_2 a0_3 A0_4 c0_4 l0_4 A0_5 c0_5 l0_5 A0_6 c0_6 l0_6 a1 a2 na1 na2 na3 na4 na5 na6 na7 na8 _ HLn.out.2.1.1 HLn.out.2.1.2 HLn.out.2.2.1.1 HLn.out.2.2.1.2 HLn.out.2.2.2.1 HLn.out.2.2.2.2 HP.out
 obtain ⟨⟨bn0,bn1,bn2,bn3,bn4,bn5,bn6⟩,_⟩:=HLn.out.1.cells
 have ltn:=HLn.out.1.lt
 clear hr0_4 hr0_5 hr0_6 hc0_4 hc0_5 hc0_6
 go_enter Try.func7,Try.ntmps7
 go_wp2_with (first
  | (go_at_call 28;(with_reducible refine hc1.mono ?_);rintro r w2 ⟨v4,v5,v6,rfl,h4,h5,h6,hB⟩;clear bn0 bn1 bn2 bn3 bn4 bn5 bn6 ltn;obtain ⟨Ana4,cna4,Ana5,cna5,Ana6,cna6,rfl,rfl,rfl,hv⟩:=ndv_of_R h4 h5 h6;(replace HLn:=Aside0.mk (HLn.out.step hB (.cells #[.int .i64 na1,.int .i64 na2,.int .i64 na3,.string na4,.slice Ana4 na5.length cna4,.slice Ana5 na6.length cna5,.slice Ana6 na7.length cna6] 25)));(replace HB:=Aside0.mk (below_next HB.out hB (.cells #[.int .i64 na1,.int .i64 na2,.int .i64 na3,.string na4,.slice Ana4 na5.length cna4,.slice Ana5 na6.length cna5,.slice Ana6 na7.length cna6] 25)));(have HLna:=Aside0.mk (hv.boxed na1 na2 na3 na4));obtain ⟨⟨bn0,bn1,bn2,bn3,bn4,bn5,bn6⟩,_⟩:=HLn.out.1.cells;(have ltn:=HLn.out.1.lt);(have hc2:=latticeref07_Put.calls k a0_0 a0_1 a0_2 a0_3 A0_4 c0_4 l0_4 A0_5 c0_5 l0_5 A0_6 c0_6 l0_6 a1 a2 na1 na2 na3 na4 na5 na6 na7 na8 _ HLn.out.2.1.1 HLn.out.2.1.2 HLn.out.2.2.1.1 HLn.out.2.2.1.2 HLn.out.2.2.2.1 HLn.out.2.2.2.2 HQ.out);clear hB hv h4 h5 h6 hc1)
  | (go_at_call 29;(with_reducible refine hc2.mono ?_);rintro r w3 ⟨v4,v5,v6,rfl,h4,h5,h6,hB⟩;clear bn0 bn1 bn2 bn3 bn4 bn5 bn6 ltn;obtain ⟨Anb4,cnb4,Anb5,cnb5,Anb6,cnb6,rfl,rfl,rfl,hv⟩:=ndv_of_R h4 h5 h6;(replace HLn:=Aside0.mk (HLn.out.step hB (.cells #[.int .i64 na1,.int .i64 na2,.int .i64 na3,.string na4,.slice Anb4 na5.length cnb4,.slice Anb5 na6.length cnb5,.slice Anb6 na7.length cnb6] 25)));(replace HLna:=Aside0.mk (HLna.out.step hB (.cells #[.int .i64 na1,.int .i64 na2,.int .i64 na3,.string na4,.slice Anb4 na5.length cnb4,.slice Anb5 na6.length cnb5,.slice Anb6 na7.length cnb6] 25)));(replace HB:=Aside0.mk (below_next HB.out hB (.cells #[.int .i64 na1,.int .i64 na2,.int .i64 na3,.string na4,.slice Anb4 na5.length cnb4,.slice Anb5 na6.length cnb5,.slice Anb6 na7.length cnb6] 25)));(have HLnb:=Aside0.mk (hv.boxed na1 na2 na3 na4));obtain ⟨⟨bn0,bn1,bn2,bn3,bn4,bn5,bn6⟩,_⟩:=HLn.out.1.cells;(have ltn:=HLn.out.1.lt);(have hc3:=del_calls k a0_0 a0_1 a0_2 a0_3 A0_4 c0_4 l0_4 A0_5 c0_5 l0_5 A0_6 c0_6 l0_6 a1 nx1 nx2 nx3 nx4 nx5 nx6 nx7 nx8 _ HLn.out.2.1.1 HLn.out.2.1.2 HLn.out.2.2.1.1 HLn.out.2.2.1.2 HLn.out.2.2.2.1 HLn.out.2.2.2.2 HD.out);clear hB hv h4 h5 h6 hc2)
  | (go_at_call 30;(with_reducible refine hc3.mono ?_);rintro r w4 ⟨v4,v5,v6,rfl,h4,h5,h6,hB⟩;clear bn0 bn1 bn2 bn3 bn4 bn5 bn6 ltn;obtain ⟨Anx4,cnx4,Anx5,cnx5,Anx6,cnx6,rfl,rfl,rfl,hv⟩:=ndv_of_R h4 h5 h6;(replace HLn:=Aside0.mk (HLn.out.step hB (.cells #[.int .i64 nx1,.int .i64 nx2,.int .i64 nx3,.string nx4,.slice Anx4 nx5.length cnx4,.slice Anx5 nx6.length cnx5,.slice Anx6 nx7.length cnx6] 25)));(replace HLna:=Aside0.mk (HLna.out.step hB (.cells #[.int .i64 nx1,.int .i64 nx2,.int .i64 nx3,.string nx4,.slice Anx4 nx5.length cnx4,.slice Anx5 nx6.length cnx5,.slice Anx6 nx7.length cnx6] 25)));(replace HLnb:=Aside0.mk (HLnb.out.step hB (.cells #[.int .i64 nx1,.int .i64 nx2,.int .i64 nx3,.string nx4,.slice Anx4 nx5.length cnx4,.slice Anx5 nx6.length cnx5,.slice Anx6 nx7.length cnx6] 25)));(replace HB:=Aside0.mk (below_next HB.out hB (.cells #[.int .i64 nx1,.int .i64 nx2,.int .i64 nx3,.string nx4,.slice Anx4 nx5.length cnx4,.slice Anx5 nx6.length cnx5,.slice Anx6 nx7.length cnx6] 25)));(have HLnx:=Aside0.mk (hv.boxed nx1 nx2 nx3 nx4));obtain ⟨⟨bn0,bn1,bn2,bn3,bn4,bn5,bn6⟩,_⟩:=HLn.out.1.cells;(have ltn:=HLn.out.1.lt);(have hc4:=latticeref07_Del.calls k a0_0 a0_1 a0_2 a0_3 A0_4 c0_4 l0_4 A0_5 c0_5 l0_5 A0_6 c0_6 l0_6 a1 nx1 nx2 nx3 nx4 nx5 nx6 nx7 nx8 _ HLn.out.2.1.1 HLn.out.2.1.2 HLn.out.2.2.1.1 HLn.out.2.2.1.2 HLn.out.2.2.2.1 HLn.out.2.2.2.2 HE.out);clear hB hv h4 h5 h6 hc3)
  | (go_at_call 31;(with_reducible refine hc4.mono ?_);rintro r w5 ⟨v4,v5,v6,rfl,h4,h5,h6,hB⟩;clear bn0 bn1 bn2 bn3 bn4 bn5 bn6 ltn;obtain ⟨Any4,cny4,Any5,cny5,Any6,cny6,rfl,rfl,rfl,hv⟩:=ndv_of_R h4 h5 h6;(replace HLn:=Aside0.mk (HLn.out.step hB (.cells #[.int .i64 nx1,.int .i64 nx2,.int .i64 nx3,.string nx4,.slice Any4 nx5.length cny4,.slice Any5 nx6.length cny5,.slice Any6 nx7.length cny6] 25)));(replace HLna:=Aside0.mk (HLna.out.step hB (.cells #[.int .i64 nx1,.int .i64 nx2,.int .i64 nx3,.string nx4,.slice Any4 nx5.length cny4,.slice Any5 nx6.length cny5,.slice Any6 nx7.length cny6] 25)));(replace HLnb:=Aside0.mk (HLnb.out.step hB (.cells #[.int .i64 nx1,.int .i64 nx2,.int .i64 nx3,.string nx4,.slice Any4 nx5.length cny4,.slice Any5 nx6.length cny5,.slice Any6 nx7.length cny6] 25)));(replace HLnx:=Aside0.mk (HLnx.out.step hB (.cells #[.int .i64 nx1,.int .i64 nx2,.int .i64 nx3,.string nx4,.slice Any4 nx5.length cny4,.slice Any5 nx6.length cny5,.slice Any6 nx7.length cny6] 25)));(replace HB:=Aside0.mk (below_next HB.out hB (.cells #[.int .i64 nx1,.int .i64 nx2,.int .i64 nx3,.string nx4,.slice Any4 nx5.length cny4,.slice Any5 nx6.length cny5,.slice Any6 nx7.length cny6] 25)));(have HLny:=Aside0.mk (hv.boxed nx1 nx2 nx3 nx4));obtain ⟨⟨bna0,bna1,bna2,bna3,bna4,bna5,bna6⟩,_⟩:=HLna.out.1.cells;(have ltna:=HLna.out.1.lt);obtain ⟨⟨bnb0,bnb1,bnb2,bnb3,bnb4,bnb5,bnb6⟩,_⟩:=HLnb.out.1.cells;(have ltnb:=HLnb.out.1.lt);obtain ⟨⟨bnx0,bnx1,bnx2,bnx3,bnx4,bnx5,bnx6⟩,_⟩:=HLnx.out.1.cells;(have ltnx:=HLnx.out.1.lt);obtain ⟨⟨bny0,bny1,bny2,bny3,bny4,bny5,bny6⟩,_⟩:=HLny.out.1.cells;(have ltny:=HLny.out.1.lt);(have hc5:=same_nd HLna.out HLnb.out);clear hB hv h4 h5 h6 hc4)
  | (go_at_call 16;(with_reducible refine hc5.mono ?_);rintro r w6 ⟨rfl,hB⟩;clear bna0 bna1 bna2 bna3 bna4 bna5 bna6 ltna bnb0 bnb1 bnb2 bnb3 bnb4 bnb5 bnb6 ltnb bnx0 bnx1 bnx2 bnx3 bnx4 bnx5 bnx6 ltnx bny0 bny1 bny2 bny3 bny4 bny5 bny6 ltny;(replace HLn:=Aside0.mk (HLn.out.below hB));(replace HLna:=Aside0.mk (HLna.out.below hB));(replace HLnb:=Aside0.mk (HLnb.out.below hB));(replace HLnx:=Aside0.mk (HLnx.out.below hB));(replace HLny:=Aside0.mk (HLny.out.below hB));(replace HB:=Aside0.mk (below_same HB.out hB));obtain ⟨⟨bnx0,bnx1,bnx2,bnx3,bnx4,bnx5,bnx6⟩,_⟩:=HLnx.out.1.cells;(have ltnx:=HLnx.out.1.lt);obtain ⟨⟨bny0,bny1,bny2,bny3,bny4,bny5,bny6⟩,_⟩:=HLny.out.1.cells;(have ltny:=HLny.out.1.lt);(have hc6:=same_nd HLnx.out HLny.out);clear hB hc5)
  | (go_at_call 16;(with_reducible refine hc6.mono ?_);rintro r w7 ⟨rfl,hB⟩;clear bnx0 bnx1 bnx2 bnx3 bnx4 bnx5 bnx6 ltnx bny0 bny1 bny2 bny3 bny4 bny5 bny6 ltny;(replace HLn:=Aside0.mk (HLn.out.below hB));(replace HLna:=Aside0.mk (HLna.out.below hB));(replace HLnb:=Aside0.mk (HLnb.out.below hB));(replace HLnx:=Aside0.mk (HLnx.out.below hB));(replace HLny:=Aside0.mk (HLny.out.below hB));(replace HB:=Aside0.mk (below_same HB.out hB));(have hc7:=speaks7_ok w7);clear hB hc6)
  | (go_at_call 17;(with_reducible refine hc7.mono ?_);rintro r w8 ⟨rfl,hB⟩;(replace HLn:=Aside0.mk (HLn.out.below hB));(replace HLna:=Aside0.mk (HLna.out.below hB));(replace HLnb:=Aside0.mk (HLnb.out.below hB));(replace HLnx:=Aside0.mk (HLnx.out.below hB));(replace HLny:=Aside0.mk (HLny.out.below hB));(replace HB:=Aside0.mk (below_same HB.out hB));clear hB hc7))
 go_ret
 exact ⟨rfl,HB.out⟩
end Go.Proofs.Ytcocmpblmkdmjaa.Pr
