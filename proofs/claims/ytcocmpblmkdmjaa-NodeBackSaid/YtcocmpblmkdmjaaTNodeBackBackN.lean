-- A part of the text BackN, thinned by a program of this session.
import Derived.Test.YtcocmpblmkdmjaaTNodeBackLawKit
import Derived.Test.YtcocmpblmkdmjaaTNodeBackNodeDel
namespace Go.Proofs.Ytcocmpblmkdmjaa.Pr
open Go.RowKit Go.Proofs.YtcocmpblmkdmjaaW.PrintWords Go.Proofs.YtcocmpblmkdmjaaW.PrintLast Go.Proofs.YtcocmpblmkdmjaaW.PrintMore
set_option linter.unusedVariables false
set_option linter.unusedSimpArgs false
def backG (k:Nat) (a0_0:Int) (a0_1:Int) (a0_2:Int) (a0_3:ByteArray) (l0_4:List ByteArray) (l0_5:List ByteArray) (l0_6:List Int) (ek:ByteArray) (a:(Int×Int×Int×ByteArray×List ByteArray×List ByteArray×List Int×Int)):Option Bool :=
 (delG k a.1 a.2.1 a.2.2.1 a.2.2.2.1 a.2.2.2.2.1 a.2.2.2.2.2.1 a.2.2.2.2.2.2.1 ek).bind fun b=>(node_Get.f k b.1 b.2.1 b.2.2.1 b.2.2.2.1 b.2.2.2.2.1 b.2.2.2.2.2.1 b.2.2.2.2.2.2.1 ek).bind fun t=>(delG k a0_0 a0_1 a0_2 a0_3 l0_4 l0_5 l0_6 ek).bind fun c=>if b=c then if b.2.2.2.2.2.2.2=0 then if t.2=(false,(0:Int)) then some true else none else none else none
def backF (k:Nat) (a0_0:Int) (a0_1:Int) (a0_2:Int) (a0_3:ByteArray) (l0_4:List ByteArray) (l0_5:List ByteArray) (l0_6:List Int) (ek ev other:ByteArray):Option Bool :=
 (putG k a0_0 a0_1 a0_2 a0_3 l0_4 l0_5 l0_6 ek ev).bind fun a=>if a.2.2.2.2.2.2.2=0 then
  (node_Get.f k a.1 a.2.1 a.2.2.1 a.2.2.2.1 a.2.2.2.2.1 a.2.2.2.2.2.1 a.2.2.2.2.2.2.1 ek).bind fun x=>(node_Get.f k a0_0 a0_1 a0_2 a0_3 l0_4 l0_5 l0_6 other).bind fun y=>(node_Get.f k a.1 a.2.1 a.2.2.1 a.2.2.2.1 a.2.2.2.2.1 a.2.2.2.2.2.1 a.2.2.2.2.2.2.1 other).bind fun z =>
   if x=(ev,true,(0:Int)) then if other.toList=ek.toList then if y.2.2=z.2.2 then backG k a0_0 a0_1 a0_2 a0_3 l0_4 l0_5 l0_6 ek a else none else if y=z then backG k a0_0 a0_1 a0_2 a0_3 l0_4 l0_5 l0_6 ek a else none else none
  else if a=(0,0,0,(⟨#[]⟩:ByteArray),[],[],[],a.2.2.2.2.2.2.2) then some true else none
set_option maxHeartbeats 8000000 in
set_option maxRecDepth 100000 in
theorem back_calls (k:Nat) (a0_0:Int) (a0_1:Int) (a0_2:Int) (a0_3:ByteArray) (A0_4:Option Addr) (c0_4:Nat) (l0_4:List ByteArray) (A0_5:Option Addr) (c0_5:Nat) (l0_5:List ByteArray) (A0_6:Option Addr) (c0_6:Nat) (l0_6:List Int) (ek ev other:ByteArray) (r:Bool) (w:World) (hr0_4:Kd.C Kd.string w A0_4 l0_4.length l0_4) (hc0_4:l0_4.length≤c0_4) (hr0_5:Kd.C Kd.string w A0_5 l0_5.length l0_5) (hc0_5:l0_5.length≤c0_5) (hr0_6:Kd.C (Kd.int .i64) w A0_6 l0_6.length l0_6) (hc0_6:l0_6.length≤c0_6) (h:backF k a0_0 a0_1 a0_2 a0_3 l0_4 l0_5 l0_6 ek ev other=some r) :
  Calls Try.prog 9 #[.agg #[.int .i64 a0_0,.int .i64 a0_1,.int .i64 a0_2,.string a0_3,.slice A0_4 l0_4.length c0_4,.slice A0_5 l0_5.length c0_5,.slice A0_6 l0_6.length c0_6],.agg #[.string ek,.string ev],.string other] w fun e w'=>e=.returned (.bool r)∧Below w.heap.size w w':=by
 unfold backF at h
 have hz1:=size_alloc w (.cells #[.int .i64 a0_0,.int .i64 a0_1,.int .i64 a0_2,.string a0_3,.slice A0_4 l0_4.length c0_4,.slice A0_5 l0_5.length c0_5,.slice A0_6 l0_6.length c0_6] 25)
 have HB:=Aside0.mk (below_alloc (below_alloc (Below.refl w.heap.size w) (.cells #[.int .i64 a0_0,.int .i64 a0_1,.int .i64 a0_2,.string a0_3,.slice A0_4 l0_4.length c0_4,.slice A0_5 l0_5.length c0_5,.slice A0_6 l0_6.length c0_6] 25)) (.cells #[.string ek,.string ev] 56))
 have hn0:=NdV.boxed (w:=w) ⟨⟨hr0_4,hc0_4⟩,⟨hr0_5,hc0_5⟩,⟨hr0_6,hc0_6⟩⟩ a0_0 a0_1 a0_2 a0_3
 have HLn:=Aside0.mk (hn0.below (below_alloc (Below.refl _ _) (.cells #[.string ek,.string ev] 56)))
 have he0:EntAt ((w.alloc (.cells #[.int .i64 a0_0,.int .i64 a0_1,.int .i64 a0_2,.string a0_3,.slice A0_4 l0_4.length c0_4,.slice A0_5 l0_5.length c0_5,.slice A0_6 l0_6.length c0_6] 25)).alloc (.cells #[.string ek,.string ev] 56)) (w.heap.size+1) ek ev:=by rw [← hz1];exact blk_newN _ _
 have HEe:=Aside0.mk (he0)
 clear hr0_4 hr0_5 hr0_6 hc0_4 hc0_5 hc0_6 hn0 hz1 he0
 replace h:=Option.bind_eq_some_iff.1 h
 obtain ⟨⟨np1,np2,np3,np4,np5,np6,np7,np8⟩,HP,h⟩:=h
 replace HP:=Aside0.mk HP
 dsimp only at h
 by_cases hp:np8=0
 case neg =>
  rw [if_neg hp] at h
  by_cases hz:(np1,np2,np3,np4,np5,np6,np7,np8)=(0,0,0,(⟨#[]⟩:ByteArray),[],[],[],np8)
  case neg=>rw [if_neg hz] at h;cases h
  rw [if_pos hz] at h
  injection h with h
  subst h
  simp only [Prod.mk.injEq,and_true] at hz
  obtain ⟨z1,z2,z3,z4,z5,z6,z7⟩:=hz
  have HZ:Aside0 (np5=[]∧np6=[]∧np7=[]):=⟨z5,z6,z7⟩
  subst z1 z2 z3 z4
  clear z5 z6 z7
  have dp:(np8 != 0)=true:=by simpa using hp
  clear hp
  obtain ⟨⟨bn0,bn1,bn2,bn3,bn4,bn5,bn6⟩,_⟩:=HLn.out.1.cells
  have ltn:=HLn.out.1.lt
  obtain ⟨bee0,bee1⟩:=HEe.out.cells
  have lee:=HEe.out.lt
  have hc1:=put_calls k a0_0 a0_1 a0_2 a0_3 A0_4 c0_4 l0_4 A0_5 c0_5 l0_5 A0_6 c0_6 l0_6 ek ev 0 0 0 ⟨#[]⟩ np5 np6 np7 np8 _ HLn.out.2.1.1 HLn.out.2.1.2 HLn.out.2.2.1.1 HLn.out.2.2.1.2 HLn.out.2.2.2.1 HLn.out.2.2.2.2 HP.out
  go_enter Try.func9,Try.ntmps9
  go_wp2_with (first
   | (go_at_call 28;(with_reducible refine hc1.mono ?_);rintro r w2 ⟨v4,v5,v6,rfl,h4,h5,h6,hB⟩;clear bn0 bn1 bn2 bn3 bn4 bn5 bn6 ltn bee0 bee1 lee;obtain ⟨Anp4,cnp4,Anp5,cnp5,Anp6,cnp6,rfl,rfl,rfl,hv⟩:=ndv_of_R h4 h5 h6;(replace HLn:=Aside0.mk (HLn.out.step hB (.cells #[.int .i64 0,.int .i64 0,.int .i64 0,.string ⟨#[]⟩,.slice Anp4 np5.length cnp4,.slice Anp5 np6.length cnp5,.slice Anp6 np7.length cnp6] 25)));(replace HEe:=Aside0.mk (HEe.out.step hB (.cells #[.int .i64 0,.int .i64 0,.int .i64 0,.string ⟨#[]⟩,.slice Anp4 np5.length cnp4,.slice Anp5 np6.length cnp5,.slice Anp6 np7.length cnp6] 25)));(replace HB:=Aside0.mk (below_next HB.out hB (.cells #[.int .i64 0,.int .i64 0,.int .i64 0,.string ⟨#[]⟩,.slice Anp4 np5.length cnp4,.slice Anp5 np6.length cnp5,.slice Anp6 np7.length cnp6] 25)));(have HLnp:=Aside0.mk (hv.boxed 0 0 0 ⟨#[]⟩));obtain ⟨⟨bnp0,bnp1,bnp2,bnp3,bnp4,bnp5,bnp6⟩,_⟩:=HLnp.out.1.cells;(have ltnp:=HLnp.out.1.lt);(have hc2:=zero_nd HLnp.out HZ.out.1 HZ.out.2.1 HZ.out.2.2);clear hB hv h4 h5 h6 hc1)
   | (go_at_call 16;(with_reducible refine hc2.mono ?_);rintro r w3 ⟨rfl,hB⟩;clear bnp0 bnp1 bnp2 bnp3 bnp4 bnp5 bnp6 ltnp;(replace HLn:=Aside0.mk (HLn.out.below hB));(replace HLnp:=Aside0.mk (HLnp.out.below hB));(replace HEe:=Aside0.mk (HEe.out.below hB));(replace HB:=Aside0.mk (below_same HB.out hB));(have hc3:=speaks7_ok w3);clear hB hc2)
   | (go_at_call 17;(with_reducible refine hc3.mono ?_);rintro r w4 ⟨rfl,hB⟩;(replace HLn:=Aside0.mk (HLn.out.below hB));(replace HLnp:=Aside0.mk (HLnp.out.below hB));(replace HEe:=Aside0.mk (HEe.out.below hB));(replace HB:=Aside0.mk (below_same HB.out hB));clear hB hc3))
  go_ret
  exact ⟨rfl,HB.out⟩
 subst hp
 rw [if_pos rfl] at h
 replace h:=Option.bind_eq_some_iff.1 h
 obtain ⟨⟨x1,x2,x3⟩,HX,h⟩:=h
 replace HX:=Aside0.mk HX
 replace h:=Option.bind_eq_some_iff.1 h
 obtain ⟨⟨y1,y2,y3⟩,HY,h⟩:=h
 replace HY:=Aside0.mk HY
 replace h:=Option.bind_eq_some_iff.1 h
 obtain ⟨⟨z1,z2,z3⟩,HZ,h⟩:=h
 replace HZ:=Aside0.mk HZ
 by_cases hx:(x1,x2,x3)=(ev,true,(0:Int))
 case neg=>rw [if_neg hx] at h;cases h
 rw [if_pos hx] at h
 simp only [Prod.mk.injEq] at hx
 obtain ⟨e1,e2,e3⟩:=hx
 subst e1 e2 e3
 by_cases hk:other.toList=ek.toList
 case pos =>
  rw [if_pos hk] at h
  have dk:(other.toList != ek.toList)=false:=by simp [hk]
  have dk2:=eq_true hk
  clear hk
  dsimp only at h
  by_cases hy:y3=z3
  case neg=>rw [if_neg hy] at h;cases h
  rw [if_pos hy] at h
  subst hy
  unfold backG at h
  replace h:=Option.bind_eq_some_iff.1 h
  obtain ⟨⟨nb1,nb2,nb3,nb4,nb5,nb6,nb7,nb8⟩,HD,h⟩:=h
  replace HD:=Aside0.mk HD
  replace h:=Option.bind_eq_some_iff.1 h
  obtain ⟨⟨t1,t2,t3⟩,HT,h⟩:=h
  replace HT:=Aside0.mk HT
  (try dsimp only at h)
  replace h:=Option.bind_eq_some_iff.1 h
  obtain ⟨nc,HC,h⟩:=h
  by_cases hc:(nb1,nb2,nb3,nb4,nb5,nb6,nb7,nb8)=nc
  case neg=>rw [if_neg hc] at h;cases h
  rw [if_pos hc] at h
  subst hc
  replace HC:=Aside0.mk HC
  (try dsimp only at h)
  by_cases hb:nb8=0
  case neg=>rw [if_neg hb] at h;cases h
  rw [if_pos hb] at h
  subst hb
  by_cases ht:(t2,t3)=(false,(0:Int))
  case neg=>rw [if_neg ht] at h;cases h
  rw [if_pos ht] at h
  simp only [Prod.mk.injEq] at ht
  obtain ⟨e2,e3⟩:=ht
  subst e2 e3
  injection h with h
  subst h
  obtain ⟨⟨bn0,bn1,bn2,bn3,bn4,bn5,bn6⟩,_⟩:=HLn.out.1.cells
  have ltn:=HLn.out.1.lt
  obtain ⟨bee0,bee1⟩:=HEe.out.cells
  have lee:=HEe.out.lt
  have hc1:=put_calls k a0_0 a0_1 a0_2 a0_3 A0_4 c0_4 l0_4 A0_5 c0_5 l0_5 A0_6 c0_6 l0_6 ek x1 np1 np2 np3 np4 np5 np6 np7 0 _ HLn.out.2.1.1 HLn.out.2.1.2 HLn.out.2.2.1.1 HLn.out.2.2.1.2 HLn.out.2.2.2.1 HLn.out.2.2.2.2 HP.out
  go_enter Try.func9,Try.ntmps9
  go_wp2_with (first
   | (go_at_call 28;(with_reducible refine hc1.mono ?_);rintro r w2 ⟨v4,v5,v6,rfl,h4,h5,h6,hB⟩;clear bn0 bn1 bn2 bn3 bn4 bn5 bn6 ltn bee0 bee1 lee;obtain ⟨Anp4,cnp4,Anp5,cnp5,Anp6,cnp6,rfl,rfl,rfl,hv⟩:=ndv_of_R h4 h5 h6;(replace HLn:=Aside0.mk (HLn.out.step hB (.cells #[.int .i64 np1,.int .i64 np2,.int .i64 np3,.string np4,.slice Anp4 np5.length cnp4,.slice Anp5 np6.length cnp5,.slice Anp6 np7.length cnp6] 25)));(replace HEe:=Aside0.mk (HEe.out.step hB (.cells #[.int .i64 np1,.int .i64 np2,.int .i64 np3,.string np4,.slice Anp4 np5.length cnp4,.slice Anp5 np6.length cnp5,.slice Anp6 np7.length cnp6] 25)));(replace HB:=Aside0.mk (below_next HB.out hB (.cells #[.int .i64 np1,.int .i64 np2,.int .i64 np3,.string np4,.slice Anp4 np5.length cnp4,.slice Anp5 np6.length cnp5,.slice Anp6 np7.length cnp6] 25)));(have HLnp:=Aside0.mk (hv.boxed np1 np2 np3 np4));obtain ⟨⟨bnp0,bnp1,bnp2,bnp3,bnp4,bnp5,bnp6⟩,_⟩:=HLnp.out.1.cells;(have ltnp:=HLnp.out.1.lt);(have hc2:=node_Get.calls k np1 np2 np3 np4 Anp4 cnp4 np5 Anp5 cnp5 np6 Anp6 cnp6 np7 ek x1 true 0 _ HLnp.out.2.1.1 HLnp.out.2.1.2 HLnp.out.2.2.1.1 HLnp.out.2.2.1.2 HLnp.out.2.2.2.1 HLnp.out.2.2.2.2 HX.out);clear hB hv h4 h5 h6 hc1)
   | (go_at_call 18;(with_reducible refine hc2.mono ?_);rintro r w3 ⟨rfl,hB⟩;clear bnp0 bnp1 bnp2 bnp3 bnp4 bnp5 bnp6 ltnp;(replace HLn:=Aside0.mk (HLn.out.below hB));(replace HLnp:=Aside0.mk (HLnp.out.below hB));(replace HEe:=Aside0.mk (HEe.out.below hB));(replace HB:=Aside0.mk (below_same HB.out hB));obtain ⟨⟨bn0,bn1,bn2,bn3,bn4,bn5,bn6⟩,_⟩:=HLn.out.1.cells;(have ltn:=HLn.out.1.lt);(have hc3:=node_Get.calls k a0_0 a0_1 a0_2 a0_3 A0_4 c0_4 l0_4 A0_5 c0_5 l0_5 A0_6 c0_6 l0_6 other y1 y2 y3 _ HLn.out.2.1.1 HLn.out.2.1.2 HLn.out.2.2.1.1 HLn.out.2.2.1.2 HLn.out.2.2.2.1 HLn.out.2.2.2.2 HY.out);clear hB hc2)
   | (go_at_call 18;(with_reducible refine hc3.mono ?_);rintro r w4 ⟨rfl,hB⟩;clear bn0 bn1 bn2 bn3 bn4 bn5 bn6 ltn;(replace HLn:=Aside0.mk (HLn.out.below hB));(replace HLnp:=Aside0.mk (HLnp.out.below hB));(replace HEe:=Aside0.mk (HEe.out.below hB));(replace HB:=Aside0.mk (below_same HB.out hB));obtain ⟨⟨bnp0,bnp1,bnp2,bnp3,bnp4,bnp5,bnp6⟩,_⟩:=HLnp.out.1.cells;(have ltnp:=HLnp.out.1.lt);(have hc4:=node_Get.calls k np1 np2 np3 np4 Anp4 cnp4 np5 Anp5 cnp5 np6 Anp6 cnp6 np7 other z1 z2 y3 _ HLnp.out.2.1.1 HLnp.out.2.1.2 HLnp.out.2.2.1.1 HLnp.out.2.2.1.2 HLnp.out.2.2.2.1 HLnp.out.2.2.2.2 HZ.out);clear hB hc3)
   | (go_at_call 18;(with_reducible refine hc4.mono ?_);rintro r w5 ⟨rfl,hB⟩;clear bnp0 bnp1 bnp2 bnp3 bnp4 bnp5 bnp6 ltnp;(replace HLn:=Aside0.mk (HLn.out.below hB));(replace HLnp:=Aside0.mk (HLnp.out.below hB));(replace HEe:=Aside0.mk (HEe.out.below hB));(replace HB:=Aside0.mk (below_same HB.out hB));obtain ⟨⟨bnp0,bnp1,bnp2,bnp3,bnp4,bnp5,bnp6⟩,_⟩:=HLnp.out.1.cells;(have ltnp:=HLnp.out.1.lt);(have hc5:=del_calls k np1 np2 np3 np4 Anp4 cnp4 np5 Anp5 cnp5 np6 Anp6 cnp6 np7 ek nb1 nb2 nb3 nb4 nb5 nb6 nb7 0 _ HLnp.out.2.1.1 HLnp.out.2.1.2 HLnp.out.2.2.1.1 HLnp.out.2.2.1.2 HLnp.out.2.2.2.1 HLnp.out.2.2.2.2 HD.out);clear hB hc4)
   | (go_at_call 30;(with_reducible refine hc5.mono ?_);rintro r w6 ⟨v4,v5,v6,rfl,h4,h5,h6,hB⟩;clear bnp0 bnp1 bnp2 bnp3 bnp4 bnp5 bnp6 ltnp;obtain ⟨Anb4,cnb4,Anb5,cnb5,Anb6,cnb6,rfl,rfl,rfl,hv⟩:=ndv_of_R h4 h5 h6;(replace HLn:=Aside0.mk (HLn.out.step hB (.cells #[.int .i64 nb1,.int .i64 nb2,.int .i64 nb3,.string nb4,.slice Anb4 nb5.length cnb4,.slice Anb5 nb6.length cnb5,.slice Anb6 nb7.length cnb6] 25)));(replace HLnp:=Aside0.mk (HLnp.out.step hB (.cells #[.int .i64 nb1,.int .i64 nb2,.int .i64 nb3,.string nb4,.slice Anb4 nb5.length cnb4,.slice Anb5 nb6.length cnb5,.slice Anb6 nb7.length cnb6] 25)));(replace HEe:=Aside0.mk (HEe.out.step hB (.cells #[.int .i64 nb1,.int .i64 nb2,.int .i64 nb3,.string nb4,.slice Anb4 nb5.length cnb4,.slice Anb5 nb6.length cnb5,.slice Anb6 nb7.length cnb6] 25)));(replace HB:=Aside0.mk (below_next HB.out hB (.cells #[.int .i64 nb1,.int .i64 nb2,.int .i64 nb3,.string nb4,.slice Anb4 nb5.length cnb4,.slice Anb5 nb6.length cnb5,.slice Anb6 nb7.length cnb6] 25)));(have HLnb:=Aside0.mk (hv.boxed nb1 nb2 nb3 nb4));obtain ⟨⟨bnb0,bnb1,bnb2,bnb3,bnb4,bnb5,bnb6⟩,_⟩:=HLnb.out.1.cells;(have ltnb:=HLnb.out.1.lt);(have hc6:=node_Get.calls k nb1 nb2 nb3 nb4 Anb4 cnb4 nb5 Anb5 cnb5 nb6 Anb6 cnb6 nb7 ek t1 false 0 _ HLnb.out.2.1.1 HLnb.out.2.1.2 HLnb.out.2.2.1.1 HLnb.out.2.2.1.2 HLnb.out.2.2.2.1 HLnb.out.2.2.2.2 HT.out);clear hB hv h4 h5 h6 hc5)
   | (go_at_call 18;(with_reducible refine hc6.mono ?_);rintro r w7 ⟨rfl,hB⟩;clear bnb0 bnb1 bnb2 bnb3 bnb4 bnb5 bnb6 ltnb;(replace HLn:=Aside0.mk (HLn.out.below hB));(replace HLnp:=Aside0.mk (HLnp.out.below hB));(replace HLnb:=Aside0.mk (HLnb.out.below hB));(replace HEe:=Aside0.mk (HEe.out.below hB));(replace HB:=Aside0.mk (below_same HB.out hB));obtain ⟨⟨bn0,bn1,bn2,bn3,bn4,bn5,bn6⟩,_⟩:=HLn.out.1.cells;(have ltn:=HLn.out.1.lt);(have hc7:=del_calls k a0_0 a0_1 a0_2 a0_3 A0_4 c0_4 l0_4 A0_5 c0_5 l0_5 A0_6 c0_6 l0_6 ek nb1 nb2 nb3 nb4 nb5 nb6 nb7 0 _ HLn.out.2.1.1 HLn.out.2.1.2 HLn.out.2.2.1.1 HLn.out.2.2.1.2 HLn.out.2.2.2.1 HLn.out.2.2.2.2 HC.out);clear hB hc6)
   | (go_at_call 30;(with_reducible refine hc7.mono ?_);rintro r w8 ⟨v4,v5,v6,rfl,h4,h5,h6,hB⟩;clear bn0 bn1 bn2 bn3 bn4 bn5 bn6 ltn;obtain ⟨Anc4,cnc4,Anc5,cnc5,Anc6,cnc6,rfl,rfl,rfl,hv⟩:=ndv_of_R h4 h5 h6;(replace HLn:=Aside0.mk (HLn.out.step hB (.cells #[.int .i64 nb1,.int .i64 nb2,.int .i64 nb3,.string nb4,.slice Anc4 nb5.length cnc4,.slice Anc5 nb6.length cnc5,.slice Anc6 nb7.length cnc6] 25)));(replace HLnp:=Aside0.mk (HLnp.out.step hB (.cells #[.int .i64 nb1,.int .i64 nb2,.int .i64 nb3,.string nb4,.slice Anc4 nb5.length cnc4,.slice Anc5 nb6.length cnc5,.slice Anc6 nb7.length cnc6] 25)));(replace HLnb:=Aside0.mk (HLnb.out.step hB (.cells #[.int .i64 nb1,.int .i64 nb2,.int .i64 nb3,.string nb4,.slice Anc4 nb5.length cnc4,.slice Anc5 nb6.length cnc5,.slice Anc6 nb7.length cnc6] 25)));(replace HEe:=Aside0.mk (HEe.out.step hB (.cells #[.int .i64 nb1,.int .i64 nb2,.int .i64 nb3,.string nb4,.slice Anc4 nb5.length cnc4,.slice Anc5 nb6.length cnc5,.slice Anc6 nb7.length cnc6] 25)));(replace HB:=Aside0.mk (below_next HB.out hB (.cells #[.int .i64 nb1,.int .i64 nb2,.int .i64 nb3,.string nb4,.slice Anc4 nb5.length cnc4,.slice Anc5 nb6.length cnc5,.slice Anc6 nb7.length cnc6] 25)));(have HLnc:=Aside0.mk (hv.boxed nb1 nb2 nb3 nb4));obtain ⟨⟨bnb0,bnb1,bnb2,bnb3,bnb4,bnb5,bnb6⟩,_⟩:=HLnb.out.1.cells;(have ltnb:=HLnb.out.1.lt);obtain ⟨⟨bnc0,bnc1,bnc2,bnc3,bnc4,bnc5,bnc6⟩,_⟩:=HLnc.out.1.cells;(have ltnc:=HLnc.out.1.lt);(have hc8:=same_nd HLnb.out HLnc.out);clear hB hv h4 h5 h6 hc7)
   | (go_at_call 16;(with_reducible refine hc8.mono ?_);rintro r w9 ⟨rfl,hB⟩;clear bnb0 bnb1 bnb2 bnb3 bnb4 bnb5 bnb6 ltnb bnc0 bnc1 bnc2 bnc3 bnc4 bnc5 bnc6 ltnc;(replace HLn:=Aside0.mk (HLn.out.below hB));(replace HLnp:=Aside0.mk (HLnp.out.below hB));(replace HLnb:=Aside0.mk (HLnb.out.below hB));(replace HLnc:=Aside0.mk (HLnc.out.below hB));(replace HEe:=Aside0.mk (HEe.out.below hB));(replace HB:=Aside0.mk (below_same HB.out hB));(have hc9:=speaks7_ok w9);clear hB hc8)
   | (go_at_call 17;(with_reducible refine hc9.mono ?_);rintro r w10 ⟨rfl,hB⟩;(replace HLn:=Aside0.mk (HLn.out.below hB));(replace HLnp:=Aside0.mk (HLnp.out.below hB));(replace HLnb:=Aside0.mk (HLnb.out.below hB));(replace HLnc:=Aside0.mk (HLnc.out.below hB));(replace HEe:=Aside0.mk (HEe.out.below hB));(replace HB:=Aside0.mk (below_same HB.out hB));clear hB hc9))
  go_ret
  exact ⟨rfl,HB.out⟩
 rw [if_neg hk] at h
 have dk:(other.toList != ek.toList)=true:=by simpa using hk
 have dk2:=eq_false hk
 clear hk
 by_cases hy:(y1,y2,y3)=(z1,z2,z3)
 case neg=>rw [if_neg hy] at h;cases h
 rw [if_pos hy] at h
 simp only [Prod.mk.injEq] at hy
 obtain ⟨e1,e2,e3⟩:=hy
 subst e1 e2 e3
 unfold backG at h
 replace h:=Option.bind_eq_some_iff.1 h
 obtain ⟨⟨nb1,nb2,nb3,nb4,nb5,nb6,nb7,nb8⟩,HD,h⟩:=h
 replace HD:=Aside0.mk HD
 replace h:=Option.bind_eq_some_iff.1 h
 obtain ⟨⟨t1,t2,t3⟩,HT,h⟩:=h
 replace HT:=Aside0.mk HT
 (try dsimp only at h)
 replace h:=Option.bind_eq_some_iff.1 h
 obtain ⟨nc,HC,h⟩:=h
 by_cases hc:(nb1,nb2,nb3,nb4,nb5,nb6,nb7,nb8)=nc
 case neg=>rw [if_neg hc] at h;cases h
 rw [if_pos hc] at h
 subst hc
 replace HC:=Aside0.mk HC
 (try dsimp only at h)
 by_cases hb:nb8=0
 case neg=>rw [if_neg hb] at h;cases h
 rw [if_pos hb] at h
 subst hb
 by_cases ht:(t2,t3)=(false,(0:Int))
 case neg=>rw [if_neg ht] at h;cases h
 rw [if_pos ht] at h
 simp only [Prod.mk.injEq] at ht
 obtain ⟨e2,e3⟩:=ht
 subst e2 e3
 injection h with h
 subst h
 obtain ⟨⟨bn0,bn1,bn2,bn3,bn4,bn5,bn6⟩,_⟩:=HLn.out.1.cells
 have ltn:=HLn.out.1.lt
 obtain ⟨bee0,bee1⟩:=HEe.out.cells
 have lee:=HEe.out.lt
 have hc1:=put_calls k a0_0 a0_1 a0_2 a0_3 A0_4 c0_4 l0_4 A0_5 c0_5 l0_5 A0_6 c0_6 l0_6 ek x1 np1 np2 np3 np4 np5 np6 np7 0 _ HLn.out.2.1.1 HLn.out.2.1.2 HLn.out.2.2.1.1 HLn.out.2.2.1.2 HLn.out.2.2.2.1 HLn.out.2.2.2.2 HP.out
 go_enter Try.func9,Try.ntmps9
 go_wp2_with (first
  | (go_at_call 28;(with_reducible refine hc1.mono ?_);rintro r w2 ⟨v4,v5,v6,rfl,h4,h5,h6,hB⟩;clear bn0 bn1 bn2 bn3 bn4 bn5 bn6 ltn bee0 bee1 lee;obtain ⟨Anp4,cnp4,Anp5,cnp5,Anp6,cnp6,rfl,rfl,rfl,hv⟩:=ndv_of_R h4 h5 h6;(replace HLn:=Aside0.mk (HLn.out.step hB (.cells #[.int .i64 np1,.int .i64 np2,.int .i64 np3,.string np4,.slice Anp4 np5.length cnp4,.slice Anp5 np6.length cnp5,.slice Anp6 np7.length cnp6] 25)));(replace HEe:=Aside0.mk (HEe.out.step hB (.cells #[.int .i64 np1,.int .i64 np2,.int .i64 np3,.string np4,.slice Anp4 np5.length cnp4,.slice Anp5 np6.length cnp5,.slice Anp6 np7.length cnp6] 25)));(replace HB:=Aside0.mk (below_next HB.out hB (.cells #[.int .i64 np1,.int .i64 np2,.int .i64 np3,.string np4,.slice Anp4 np5.length cnp4,.slice Anp5 np6.length cnp5,.slice Anp6 np7.length cnp6] 25)));(have HLnp:=Aside0.mk (hv.boxed np1 np2 np3 np4));obtain ⟨⟨bnp0,bnp1,bnp2,bnp3,bnp4,bnp5,bnp6⟩,_⟩:=HLnp.out.1.cells;(have ltnp:=HLnp.out.1.lt);(have hc2:=node_Get.calls k np1 np2 np3 np4 Anp4 cnp4 np5 Anp5 cnp5 np6 Anp6 cnp6 np7 ek x1 true 0 _ HLnp.out.2.1.1 HLnp.out.2.1.2 HLnp.out.2.2.1.1 HLnp.out.2.2.1.2 HLnp.out.2.2.2.1 HLnp.out.2.2.2.2 HX.out);clear hB hv h4 h5 h6 hc1)
  | (go_at_call 18;(with_reducible refine hc2.mono ?_);rintro r w3 ⟨rfl,hB⟩;clear bnp0 bnp1 bnp2 bnp3 bnp4 bnp5 bnp6 ltnp;(replace HLn:=Aside0.mk (HLn.out.below hB));(replace HLnp:=Aside0.mk (HLnp.out.below hB));(replace HEe:=Aside0.mk (HEe.out.below hB));(replace HB:=Aside0.mk (below_same HB.out hB));obtain ⟨⟨bn0,bn1,bn2,bn3,bn4,bn5,bn6⟩,_⟩:=HLn.out.1.cells;(have ltn:=HLn.out.1.lt);(have hc3:=node_Get.calls k a0_0 a0_1 a0_2 a0_3 A0_4 c0_4 l0_4 A0_5 c0_5 l0_5 A0_6 c0_6 l0_6 other y1 y2 y3 _ HLn.out.2.1.1 HLn.out.2.1.2 HLn.out.2.2.1.1 HLn.out.2.2.1.2 HLn.out.2.2.2.1 HLn.out.2.2.2.2 HY.out);clear hB hc2)
  | (go_at_call 18;(with_reducible refine hc3.mono ?_);rintro r w4 ⟨rfl,hB⟩;clear bn0 bn1 bn2 bn3 bn4 bn5 bn6 ltn;(replace HLn:=Aside0.mk (HLn.out.below hB));(replace HLnp:=Aside0.mk (HLnp.out.below hB));(replace HEe:=Aside0.mk (HEe.out.below hB));(replace HB:=Aside0.mk (below_same HB.out hB));obtain ⟨⟨bnp0,bnp1,bnp2,bnp3,bnp4,bnp5,bnp6⟩,_⟩:=HLnp.out.1.cells;(have ltnp:=HLnp.out.1.lt);(have hc4:=node_Get.calls k np1 np2 np3 np4 Anp4 cnp4 np5 Anp5 cnp5 np6 Anp6 cnp6 np7 other y1 y2 y3 _ HLnp.out.2.1.1 HLnp.out.2.1.2 HLnp.out.2.2.1.1 HLnp.out.2.2.1.2 HLnp.out.2.2.2.1 HLnp.out.2.2.2.2 HZ.out);clear hB hc3)
  | (go_at_call 18;(with_reducible refine hc4.mono ?_);rintro r w5 ⟨rfl,hB⟩;clear bnp0 bnp1 bnp2 bnp3 bnp4 bnp5 bnp6 ltnp;(replace HLn:=Aside0.mk (HLn.out.below hB));(replace HLnp:=Aside0.mk (HLnp.out.below hB));(replace HEe:=Aside0.mk (HEe.out.below hB));(replace HB:=Aside0.mk (below_same HB.out hB));obtain ⟨⟨bnp0,bnp1,bnp2,bnp3,bnp4,bnp5,bnp6⟩,_⟩:=HLnp.out.1.cells;(have ltnp:=HLnp.out.1.lt);(have hc5:=del_calls k np1 np2 np3 np4 Anp4 cnp4 np5 Anp5 cnp5 np6 Anp6 cnp6 np7 ek nb1 nb2 nb3 nb4 nb5 nb6 nb7 0 _ HLnp.out.2.1.1 HLnp.out.2.1.2 HLnp.out.2.2.1.1 HLnp.out.2.2.1.2 HLnp.out.2.2.2.1 HLnp.out.2.2.2.2 HD.out);clear hB hc4)
  | (go_at_call 30;(with_reducible refine hc5.mono ?_);rintro r w6 ⟨v4,v5,v6,rfl,h4,h5,h6,hB⟩;clear bnp0 bnp1 bnp2 bnp3 bnp4 bnp5 bnp6 ltnp;obtain ⟨Anb4,cnb4,Anb5,cnb5,Anb6,cnb6,rfl,rfl,rfl,hv⟩:=ndv_of_R h4 h5 h6;(replace HLn:=Aside0.mk (HLn.out.step hB (.cells #[.int .i64 nb1,.int .i64 nb2,.int .i64 nb3,.string nb4,.slice Anb4 nb5.length cnb4,.slice Anb5 nb6.length cnb5,.slice Anb6 nb7.length cnb6] 25)));(replace HLnp:=Aside0.mk (HLnp.out.step hB (.cells #[.int .i64 nb1,.int .i64 nb2,.int .i64 nb3,.string nb4,.slice Anb4 nb5.length cnb4,.slice Anb5 nb6.length cnb5,.slice Anb6 nb7.length cnb6] 25)));(replace HEe:=Aside0.mk (HEe.out.step hB (.cells #[.int .i64 nb1,.int .i64 nb2,.int .i64 nb3,.string nb4,.slice Anb4 nb5.length cnb4,.slice Anb5 nb6.length cnb5,.slice Anb6 nb7.length cnb6] 25)));(replace HB:=Aside0.mk (below_next HB.out hB (.cells #[.int .i64 nb1,.int .i64 nb2,.int .i64 nb3,.string nb4,.slice Anb4 nb5.length cnb4,.slice Anb5 nb6.length cnb5,.slice Anb6 nb7.length cnb6] 25)));(have HLnb:=Aside0.mk (hv.boxed nb1 nb2 nb3 nb4));obtain ⟨⟨bnb0,bnb1,bnb2,bnb3,bnb4,bnb5,bnb6⟩,_⟩:=HLnb.out.1.cells;(have ltnb:=HLnb.out.1.lt);(have hc6:=node_Get.calls k nb1 nb2 nb3 nb4 Anb4 cnb4 nb5 Anb5 cnb5 nb6 Anb6 cnb6 nb7 ek t1 false 0 _ HLnb.out.2.1.1 HLnb.out.2.1.2 HLnb.out.2.2.1.1 HLnb.out.2.2.1.2 HLnb.out.2.2.2.1 HLnb.out.2.2.2.2 HT.out);clear hB hv h4 h5 h6 hc5)
  | (go_at_call 18;(with_reducible refine hc6.mono ?_);rintro r w7 ⟨rfl,hB⟩;clear bnb0 bnb1 bnb2 bnb3 bnb4 bnb5 bnb6 ltnb;(replace HLn:=Aside0.mk (HLn.out.below hB));(replace HLnp:=Aside0.mk (HLnp.out.below hB));(replace HLnb:=Aside0.mk (HLnb.out.below hB));(replace HEe:=Aside0.mk (HEe.out.below hB));(replace HB:=Aside0.mk (below_same HB.out hB));obtain ⟨⟨bn0,bn1,bn2,bn3,bn4,bn5,bn6⟩,_⟩:=HLn.out.1.cells;(have ltn:=HLn.out.1.lt);(have hc7:=del_calls k a0_0 a0_1 a0_2 a0_3 A0_4 c0_4 l0_4 A0_5 c0_5 l0_5 A0_6 c0_6 l0_6 ek nb1 nb2 nb3 nb4 nb5 nb6 nb7 0 _ HLn.out.2.1.1 HLn.out.2.1.2 HLn.out.2.2.1.1 HLn.out.2.2.1.2 HLn.out.2.2.2.1 HLn.out.2.2.2.2 HC.out);clear hB hc6)
  | (go_at_call 30;(with_reducible refine hc7.mono ?_);rintro r w8 ⟨v4,v5,v6,rfl,h4,h5,h6,hB⟩;clear bn0 bn1 bn2 bn3 bn4 bn5 bn6 ltn;obtain ⟨Anc4,cnc4,Anc5,cnc5,Anc6,cnc6,rfl,rfl,rfl,hv⟩:=ndv_of_R h4 h5 h6;(replace HLn:=Aside0.mk (HLn.out.step hB (.cells #[.int .i64 nb1,.int .i64 nb2,.int .i64 nb3,.string nb4,.slice Anc4 nb5.length cnc4,.slice Anc5 nb6.length cnc5,.slice Anc6 nb7.length cnc6] 25)));(replace HLnp:=Aside0.mk (HLnp.out.step hB (.cells #[.int .i64 nb1,.int .i64 nb2,.int .i64 nb3,.string nb4,.slice Anc4 nb5.length cnc4,.slice Anc5 nb6.length cnc5,.slice Anc6 nb7.length cnc6] 25)));(replace HLnb:=Aside0.mk (HLnb.out.step hB (.cells #[.int .i64 nb1,.int .i64 nb2,.int .i64 nb3,.string nb4,.slice Anc4 nb5.length cnc4,.slice Anc5 nb6.length cnc5,.slice Anc6 nb7.length cnc6] 25)));(replace HEe:=Aside0.mk (HEe.out.step hB (.cells #[.int .i64 nb1,.int .i64 nb2,.int .i64 nb3,.string nb4,.slice Anc4 nb5.length cnc4,.slice Anc5 nb6.length cnc5,.slice Anc6 nb7.length cnc6] 25)));(replace HB:=Aside0.mk (below_next HB.out hB (.cells #[.int .i64 nb1,.int .i64 nb2,.int .i64 nb3,.string nb4,.slice Anc4 nb5.length cnc4,.slice Anc5 nb6.length cnc5,.slice Anc6 nb7.length cnc6] 25)));(have HLnc:=Aside0.mk (hv.boxed nb1 nb2 nb3 nb4));obtain ⟨⟨bnb0,bnb1,bnb2,bnb3,bnb4,bnb5,bnb6⟩,_⟩:=HLnb.out.1.cells;(have ltnb:=HLnb.out.1.lt);obtain ⟨⟨bnc0,bnc1,bnc2,bnc3,bnc4,bnc5,bnc6⟩,_⟩:=HLnc.out.1.cells;(have ltnc:=HLnc.out.1.lt);(have hc8:=same_nd HLnb.out HLnc.out);clear hB hv h4 h5 h6 hc7)
  | (go_at_call 16;(with_reducible refine hc8.mono ?_);rintro r w9 ⟨rfl,hB⟩;clear bnb0 bnb1 bnb2 bnb3 bnb4 bnb5 bnb6 ltnb bnc0 bnc1 bnc2 bnc3 bnc4 bnc5 bnc6 ltnc;(replace HLn:=Aside0.mk (HLn.out.below hB));(replace HLnp:=Aside0.mk (HLnp.out.below hB));(replace HLnb:=Aside0.mk (HLnb.out.below hB));(replace HLnc:=Aside0.mk (HLnc.out.below hB));(replace HEe:=Aside0.mk (HEe.out.below hB));(replace HB:=Aside0.mk (below_same HB.out hB));(have hc9:=speaks7_ok w9);clear hB hc8)
  | (go_at_call 17;(with_reducible refine hc9.mono ?_);rintro r w10 ⟨rfl,hB⟩;(replace HLn:=Aside0.mk (HLn.out.below hB));(replace HLnp:=Aside0.mk (HLnp.out.below hB));(replace HLnb:=Aside0.mk (HLnb.out.below hB));(replace HLnc:=Aside0.mk (HLnc.out.below hB));(replace HEe:=Aside0.mk (HEe.out.below hB));(replace HB:=Aside0.mk (below_same HB.out hB));clear hB hc9))
 go_ret
 exact ⟨rfl,HB.out⟩
end Go.Proofs.Ytcocmpblmkdmjaa.Pr
