-- A part of the text Halves, thinned by a program of this session.
import Derived.Test.YtcocmpblmkdmjaaTNodeHalvesLawKit
import Derived.Test.YtcocmpblmkdmjaaTNodeHalvesNodeRestI
import Derived.Test.YtcocmpblmkdmjaaTNodeHalvesPrx4
import Derived.Test.YtcocmpblmkdmjaaTNodeHalvesPrx15
import Derived.Test.YtcocmpblmkdmjaaTNodeHalvesPrx6
import Derived.Test.YtcocmpblmkdmjaaTNodeHalvesPrx8
namespace Go.Proofs.Ytcocmpblmkdmjaa.Pr
open Go.RowKit Go.Proofs.YtcocmpblmkdmjaaW.PrintWords Go.Proofs.YtcocmpblmkdmjaaW.PrintLast Go.Proofs.YtcocmpblmkdmjaaW.PrintMore
set_option linter.unusedVariables false
set_option linter.unusedSimpArgs false
def halvesC (lv rt:Int) (high s:ByteArray) (num:Int) (l:(Int×Int×Int×ByteArray×List ByteArray×List ByteArray×List Int×Int)) (r:(Int×Int×Int×ByteArray×List ByteArray×List ByteArray×List Int×Int)) (tl tr:Bool):Bool :=
 decide (l.2.2.2.2.2.2.2=0)&&(decide (r.2.2.2.2.2.2.2=0)&&(tl&&(tr&&(decide (l.2.2.2.1=s)&&(decide (l.2.2.1=num)&&(decide (r.2.2.2.1=high)&&(decide (r.2.2.1=rt)&&(decide (l.2.2.2.2.1.length≠0)&&(decide (lv=0→r.2.2.2.2.1.length≠0))))))))))
def halvesI (k:Nat) (a0_0:Int) (a0_1:Int) (a0_2:Int) (a0_3:ByteArray) (l0_4:List ByteArray) (l0_5:List ByteArray) (l0_6:List Int) (kk:ByteArray) (l:(Int×Int×Int×ByteArray×List ByteArray×List ByteArray×List Int×Int)) (r:(Int×Int×Int×ByteArray×List ByteArray×List ByteArray×List Int×Int)) (fl:Bool):Option Bool :=
 (node_Kid.f k a0_0 a0_1 a0_2 a0_3 l0_4 l0_5 l0_6 kk).bind fun want=>if fl=true then (node_Kid.f k r.1 r.2.1 r.2.2.1 r.2.2.2.1 r.2.2.2.2.1 r.2.2.2.2.2.1 r.2.2.2.2.2.2.1 kk).bind fun x=>if x=(want.1,(0:Int)) then some true else none
  else (node_Kid.f k l.1 l.2.1 l.2.2.1 l.2.2.2.1 l.2.2.2.2.1 l.2.2.2.2.2.1 l.2.2.2.2.2.2.1 kk).bind fun x=>if x=(want.1,(0:Int)) then some true else none
def halvesL (k:Nat) (a0_0:Int) (a0_1:Int) (a0_2:Int) (a0_3:ByteArray) (l0_4:List ByteArray) (l0_5:List ByteArray) (l0_6:List Int) (kk:ByteArray) (l:(Int×Int×Int×ByteArray×List ByteArray×List ByteArray×List Int×Int)) (r:(Int×Int×Int×ByteArray×List ByteArray×List ByteArray×List Int×Int)) (fl:Bool):Option Bool :=
 (node_Get.f k a0_0 a0_1 a0_2 a0_3 l0_4 l0_5 l0_6 kk).bind fun want=>(node_Get.f k r.1 r.2.1 r.2.2.1 r.2.2.2.1 r.2.2.2.2.1 r.2.2.2.2.2.1 r.2.2.2.2.2.2.1 kk).bind fun x =>
  if l.2.2.2.2.1.length+r.2.2.2.2.1.length=l0_4.length∧l0_4.length≤8796093022208 then
   if fl=true then if x=(want.1,want.2.1,(0:Int)) then some true else none
   else if x.2.1=false then (node_Get.f k l.1 l.2.1 l.2.2.1 l.2.2.2.1 l.2.2.2.2.1 l.2.2.2.2.2.1 l.2.2.2.2.2.2.1 kk).bind fun y=>if y=(want.1,want.2.1,(0:Int)) then some true else none else none
  else none
def halvesF (k:Nat) (a0_0:Int) (a0_1:Int) (a0_2:Int) (a0_3:ByteArray) (l0_4:List ByteArray) (l0_5:List ByteArray) (l0_6:List Int) (num:Int) (kk:ByteArray):Option Bool :=
 (node_Split.f k a0_0 a0_1 a0_2 a0_3 l0_4 l0_5 l0_6).bind fun s=>if s.2=0 then if num < 1 then some true else if num > 4096 then some true else
  (leftG k a0_0 a0_1 a0_2 a0_3 l0_4 l0_5 l0_6 s.1 num).bind fun l=>(restG k a0_0 a0_1 a0_2 a0_3 l0_4 l0_5 l0_6 s.1).bind fun r=>(latticeref06_Right.f k l.1 l.2.1 l.2.2.1 l.2.2.2.1 l.2.2.2.2.1 l.2.2.2.2.2.1 l.2.2.2.2.2.2.1).bind fun tl=>(latticeref06_Right.f k r.1 r.2.1 r.2.2.1 r.2.2.2.1 r.2.2.2.2.1 r.2.2.2.2.2.1 r.2.2.2.2.2.2.1).bind fun tr =>
   if halvesC a0_0 a0_2 a0_3 s.1 num l r tl tr=true then
    (latticeref05_Check.f kk).bind fun c=>if c=0 then (node_Further.f a0_0 a0_1 a0_2 a0_3 l0_4 l0_5 l0_6 kk).bind fun fu=>if fu=true then some true else
     (node_Further.f l.1 l.2.1 l.2.2.1 l.2.2.2.1 l.2.2.2.2.1 l.2.2.2.2.2.1 l.2.2.2.2.2.2.1 kk).bind fun fl=>if a0_0=0 then halvesL k a0_0 a0_1 a0_2 a0_3 l0_4 l0_5 l0_6 kk l r fl else if a0_0 > 0 then halvesI k a0_0 a0_1 a0_2 a0_3 l0_4 l0_5 l0_6 kk l r fl else none
    else some true
   else none
  else some true
set_option maxHeartbeats 8000000 in
set_option maxRecDepth 100000 in
theorem halves_calls (k:Nat) (a0_0:Int) (a0_1:Int) (a0_2:Int) (a0_3:ByteArray) (A0_4:Option Addr) (c0_4:Nat) (l0_4:List ByteArray) (A0_5:Option Addr) (c0_5:Nat) (l0_5:List ByteArray) (A0_6:Option Addr) (c0_6:Nat) (l0_6:List Int) (num:Int) (kk:ByteArray) (r:Bool) (w:World) (hr0_4:Kd.C Kd.string w A0_4 l0_4.length l0_4) (hc0_4:l0_4.length≤c0_4) (hr0_5:Kd.C Kd.string w A0_5 l0_5.length l0_5) (hc0_5:l0_5.length≤c0_5) (hr0_6:Kd.C (Kd.int .i64) w A0_6 l0_6.length l0_6) (hc0_6:l0_6.length≤c0_6) (h:halvesF k a0_0 a0_1 a0_2 a0_3 l0_4 l0_5 l0_6 num kk=some r) :
  Calls Try.prog 5 #[.agg #[.int .i64 a0_0,.int .i64 a0_1,.int .i64 a0_2,.string a0_3,.slice A0_4 l0_4.length c0_4,.slice A0_5 l0_5.length c0_5,.slice A0_6 l0_6.length c0_6],.int .i64 num,.string kk] w fun e w'=>e=.returned (.bool r)∧Below w.heap.size w w':=by
 unfold halvesF at h
 have hz1:=size_alloc w (.cells #[.int .i64 a0_0,.int .i64 a0_1,.int .i64 a0_2,.string a0_3,.slice A0_4 l0_4.length c0_4,.slice A0_5 l0_5.length c0_5,.slice A0_6 l0_6.length c0_6] 25)
 have HB:=Aside0.mk (below_alloc (Below.refl w.heap.size w) (.cells #[.int .i64 a0_0,.int .i64 a0_1,.int .i64 a0_2,.string a0_3,.slice A0_4 l0_4.length c0_4,.slice A0_5 l0_5.length c0_5,.slice A0_6 l0_6.length c0_6] 25))
 have hn0:=NdV.boxed (w:=w) ⟨⟨hr0_4,hc0_4⟩,⟨hr0_5,hc0_5⟩,⟨hr0_6,hc0_6⟩⟩ a0_0 a0_1 a0_2 a0_3
 have HLn:=Aside0.mk hn0
 clear hr0_4 hr0_5 hr0_6 hc0_4 hc0_5 hc0_6 hn0 hz1
 replace h:=Option.bind_eq_some_iff.1 h
 obtain ⟨⟨s1,s2⟩,HS,h⟩:=h
 replace HS:=Aside0.mk HS
 dsimp only at h
 by_cases hs:s2=0
 case neg =>
  rw [if_neg hs] at h
  injection h with h
  subst h
  have ds:(s2 != 0)=true:=by simpa using hs
  clear hs
  obtain ⟨⟨bn0,bn1,bn2,bn3,bn4,bn5,bn6⟩,_⟩:=HLn.out.1.cells
  have ltn:=HLn.out.1.lt
  have hc1:=node_Split.calls k a0_0 a0_1 a0_2 a0_3 A0_4 c0_4 l0_4 A0_5 c0_5 l0_5 A0_6 c0_6 l0_6 s1 s2 _ HLn.out.2.1.1 HLn.out.2.1.2 HLn.out.2.2.1.1 HLn.out.2.2.1.2 HLn.out.2.2.2.1 HLn.out.2.2.2.2 HS.out
  go_enter Try.func5,Try.ntmps5
  go_wp2_with (first
   | (go_at_call 10;(with_reducible refine hc1.mono ?_);rintro r w2 ⟨rfl,hB⟩;clear bn0 bn1 bn2 bn3 bn4 bn5 bn6 ltn;(replace HLn:=Aside0.mk (HLn.out.below hB));(replace HB:=Aside0.mk (below_same HB.out hB));(have hc2:=speaks7_ok w2);clear hB hc1)
   | (go_at_call 17;(with_reducible refine hc2.mono ?_);rintro r w3 ⟨rfl,hB⟩;(replace HLn:=Aside0.mk (HLn.out.below hB));(replace HB:=Aside0.mk (below_same HB.out hB));clear hB hc2))
  go_ret
  exact ⟨rfl,HB.out⟩
 subst hs
 rw [if_pos rfl] at h
 by_cases hn1:num < 1
 case pos =>
  rw [if_pos hn1] at h
  injection h with h
  subst h
  have dn:decide (num < 1)=true:=decide_eq_true hn1
  have dn':=eq_true hn1
  clear hn1
  obtain ⟨⟨bn0,bn1,bn2,bn3,bn4,bn5,bn6⟩,_⟩:=HLn.out.1.cells
  have ltn:=HLn.out.1.lt
  have hc1:=node_Split.calls k a0_0 a0_1 a0_2 a0_3 A0_4 c0_4 l0_4 A0_5 c0_5 l0_5 A0_6 c0_6 l0_6 s1 0 _ HLn.out.2.1.1 HLn.out.2.1.2 HLn.out.2.2.1.1 HLn.out.2.2.1.2 HLn.out.2.2.2.1 HLn.out.2.2.2.2 HS.out
  go_enter Try.func5,Try.ntmps5
  go_wp2_with (first
   | (go_at_call 10;(with_reducible refine hc1.mono ?_);rintro r w2 ⟨rfl,hB⟩;clear bn0 bn1 bn2 bn3 bn4 bn5 bn6 ltn;(replace HLn:=Aside0.mk (HLn.out.below hB));(replace HB:=Aside0.mk (below_same HB.out hB));(have hc2:=speaks7_ok w2);clear hB hc1)
   | (go_at_call 17;(with_reducible refine hc2.mono ?_);rintro r w3 ⟨rfl,hB⟩;(replace HLn:=Aside0.mk (HLn.out.below hB));(replace HB:=Aside0.mk (below_same HB.out hB));clear hB hc2))
  go_ret
  exact ⟨rfl,HB.out⟩
 rw [if_neg hn1] at h
 have dn:decide (num < 1)=false:=decide_eq_false hn1
 have dn':=eq_false hn1
 clear hn1
 by_cases hn2:num > 4096
 case pos =>
  rw [if_pos hn2] at h
  injection h with h
  subst h
  have dm:decide (num > 4096)=true:=decide_eq_true hn2
  have dm':=eq_true hn2
  clear hn2
  obtain ⟨⟨bn0,bn1,bn2,bn3,bn4,bn5,bn6⟩,_⟩:=HLn.out.1.cells
  have ltn:=HLn.out.1.lt
  have hc1:=node_Split.calls k a0_0 a0_1 a0_2 a0_3 A0_4 c0_4 l0_4 A0_5 c0_5 l0_5 A0_6 c0_6 l0_6 s1 0 _ HLn.out.2.1.1 HLn.out.2.1.2 HLn.out.2.2.1.1 HLn.out.2.2.1.2 HLn.out.2.2.2.1 HLn.out.2.2.2.2 HS.out
  go_enter Try.func5,Try.ntmps5
  go_wp2_with (first
   | (go_at_call 10;(with_reducible refine hc1.mono ?_);rintro r w2 ⟨rfl,hB⟩;clear bn0 bn1 bn2 bn3 bn4 bn5 bn6 ltn;(replace HLn:=Aside0.mk (HLn.out.below hB));(replace HB:=Aside0.mk (below_same HB.out hB));(have hc2:=speaks7_ok w2);clear hB hc1)
   | (go_at_call 17;(with_reducible refine hc2.mono ?_);rintro r w3 ⟨rfl,hB⟩;(replace HLn:=Aside0.mk (HLn.out.below hB));(replace HB:=Aside0.mk (below_same HB.out hB));clear hB hc2))
  go_ret
  exact ⟨rfl,HB.out⟩
 rw [if_neg hn2] at h
 have dm:decide (num > 4096)=false:=decide_eq_false hn2
 have dm':=eq_false hn2
 clear hn2
 replace h:=Option.bind_eq_some_iff.1 h
 obtain ⟨⟨nl1,nl2,nl3,nl4,nl5,nl6,nl7,nl8⟩,HP,h⟩:=h
 replace HP:=Aside0.mk HP
 replace h:=Option.bind_eq_some_iff.1 h
 obtain ⟨⟨nr1,nr2,nr3,nr4,nr5,nr6,nr7,nr8⟩,HQ,h⟩:=h
 replace HQ:=Aside0.mk HQ
 replace h:=Option.bind_eq_some_iff.1 h
 obtain ⟨tl,HT,h⟩:=h
 replace h:=Option.bind_eq_some_iff.1 h
 obtain ⟨tr,HU,h⟩:=h
 by_cases hcn:halvesC a0_0 a0_2 a0_3 s1 num (nl1,nl2,nl3,nl4,nl5,nl6,nl7,nl8) (nr1,nr2,nr3,nr4,nr5,nr6,nr7,nr8) tl tr=true
 case neg=>rw [if_neg hcn] at h;cases h
 rw [if_pos hcn] at h
 unfold halvesC at hcn
 simp only [Bool.and_eq_true,decide_eq_true_eq] at hcn
 obtain ⟨z1,z2,z3,z4,z5,z6,z7,z8,z9,z10⟩:=hcn
 dsimp only at h
 replace z5:=z5.symm
 replace z6:=z6.symm
 replace z7:=z7.symm
 replace z8:=z8.symm
 subst z1 z2 z3 z4 z5 z6 z7 z8
 replace HT:=Aside0.mk HT
 replace HU:=Aside0.mk HU
 have dl1:((nl5.length:Int)==0)=false:=by simpa using z9
 have dl2:((nl5.length:Int)=0)=False:=eq_false (by omega)
 have dl3:0 < nl5.length:=Nat.pos_of_ne_zero z9
 have Z10:=Aside0.mk z10
 clear z9 z10
 replace h:=Option.bind_eq_some_iff.1 h
 obtain ⟨c,HC,h⟩:=h
 replace HC:=Aside0.mk HC
 by_cases hl0:a0_0=0
 case pos =>
  subst hl0
  have dr0:=Z10.out rfl
  have dr1:((nr5.length:Int)==0)=false:=by simpa using dr0
  have dr2:((nr5.length:Int)=0)=False:=eq_false (by omega)
  have dr3:0 < nr5.length:=Nat.pos_of_ne_zero dr0
  clear dr0
  by_cases hc0:c=0
  case neg =>
   rw [if_neg hc0] at h
   injection h with h
   subst h
   have dc:(c != 0)=true:=by simpa using hc0
   clear hc0
   obtain ⟨⟨bn0,bn1,bn2,bn3,bn4,bn5,bn6⟩,_⟩:=HLn.out.1.cells
   have ltn:=HLn.out.1.lt
   have hc1:=node_Split.calls k 0 a0_1 a0_2 a0_3 A0_4 c0_4 l0_4 A0_5 c0_5 l0_5 A0_6 c0_6 l0_6 s1 0 _ HLn.out.2.1.1 HLn.out.2.1.2 HLn.out.2.2.1.1 HLn.out.2.2.1.2 HLn.out.2.2.2.1 HLn.out.2.2.2.2 HS.out
   go_enter Try.func5,Try.ntmps5
   go_wp2_with (first
    | (go_at_call 10;(with_reducible refine hc1.mono ?_);rintro r w2 ⟨rfl,hB⟩;clear bn0 bn1 bn2 bn3 bn4 bn5 bn6 ltn;(replace HLn:=Aside0.mk (HLn.out.below hB));(replace HB:=Aside0.mk (below_same HB.out hB));obtain ⟨⟨bn0,bn1,bn2,bn3,bn4,bn5,bn6⟩,_⟩:=HLn.out.1.cells;(have ltn:=HLn.out.1.lt);(have hc2:=left_calls k 0 a0_1 a0_2 a0_3 A0_4 c0_4 l0_4 A0_5 c0_5 l0_5 A0_6 c0_6 l0_6 s1 num nl1 nl2 num s1 nl5 nl6 nl7 0 _ HLn.out.2.1.1 HLn.out.2.1.2 HLn.out.2.2.1.1 HLn.out.2.2.1.2 HLn.out.2.2.2.1 HLn.out.2.2.2.2 HP.out);clear hB hc1)
    | (go_at_call 12;(with_reducible refine hc2.mono ?_);rintro r w3 ⟨v4,v5,v6,rfl,h4,h5,h6,hB⟩;clear bn0 bn1 bn2 bn3 bn4 bn5 bn6 ltn;obtain ⟨Anl4,cnl4,Anl5,cnl5,Anl6,cnl6,rfl,rfl,rfl,hv⟩:=ndv_of_CS h4 h5 h6;(replace HLn:=Aside0.mk (HLn.out.step hB (.cells #[.int .i64 nl1,.int .i64 nl2,.int .i64 num,.string s1,.slice Anl4 nl5.length cnl4,.slice Anl5 nl6.length cnl5,.slice Anl6 nl7.length cnl6] 25)));(replace HB:=Aside0.mk (below_next HB.out hB (.cells #[.int .i64 nl1,.int .i64 nl2,.int .i64 num,.string s1,.slice Anl4 nl5.length cnl4,.slice Anl5 nl6.length cnl5,.slice Anl6 nl7.length cnl6] 25)));(have HLnl:=Aside0.mk (hv.boxed nl1 nl2 num s1));obtain ⟨⟨bn0,bn1,bn2,bn3,bn4,bn5,bn6⟩,_⟩:=HLn.out.1.cells;(have ltn:=HLn.out.1.lt);(have hc3:=rest_calls k 0 a0_1 a0_2 a0_3 A0_4 c0_4 l0_4 A0_5 c0_5 l0_5 A0_6 c0_6 l0_6 s1 nr1 nr2 a0_2 a0_3 nr5 nr6 nr7 0 _ HLn.out.2.1.1 HLn.out.2.1.2 HLn.out.2.2.1.1 HLn.out.2.2.1.2 HLn.out.2.2.2.1 HLn.out.2.2.2.2 HQ.out);clear hB hv h4 h5 h6 hc2)
    | (go_at_call 14;(with_reducible refine hc3.mono ?_);rintro r w4 ⟨v4,v5,v6,rfl,h4,h5,h6,hB⟩;clear bn0 bn1 bn2 bn3 bn4 bn5 bn6 ltn;obtain ⟨Anr4,cnr4,Anr5,cnr5,Anr6,cnr6,rfl,rfl,rfl,hv⟩:=ndv_of_CS h4 h5 h6;(replace HLn:=Aside0.mk (HLn.out.step hB (.cells #[.int .i64 nr1,.int .i64 nr2,.int .i64 a0_2,.string a0_3,.slice Anr4 nr5.length cnr4,.slice Anr5 nr6.length cnr5,.slice Anr6 nr7.length cnr6] 25)));(replace HLnl:=Aside0.mk (HLnl.out.step hB (.cells #[.int .i64 nr1,.int .i64 nr2,.int .i64 a0_2,.string a0_3,.slice Anr4 nr5.length cnr4,.slice Anr5 nr6.length cnr5,.slice Anr6 nr7.length cnr6] 25)));(replace HB:=Aside0.mk (below_next HB.out hB (.cells #[.int .i64 nr1,.int .i64 nr2,.int .i64 a0_2,.string a0_3,.slice Anr4 nr5.length cnr4,.slice Anr5 nr6.length cnr5,.slice Anr6 nr7.length cnr6] 25)));(have HLnr:=Aside0.mk (hv.boxed nr1 nr2 a0_2 a0_3));obtain ⟨⟨bnl0,bnl1,bnl2,bnl3,bnl4,bnl5,bnl6⟩,_⟩:=HLnl.out.1.cells;(have ltnl:=HLnl.out.1.lt);obtain ⟨⟨bnr0,bnr1,bnr2,bnr3,bnr4,bnr5,bnr6⟩,_⟩:=HLnr.out.1.cells;(have ltnr:=HLnr.out.1.lt);obtain ⟨⟨bn0,bn1,bn2,bn3,bn4,bn5,bn6⟩,_⟩:=HLn.out.1.cells;(have ltn:=HLn.out.1.lt);(have hc4:=latticeref06_Right.calls k nl1 nl2 num s1 Anl4 cnl4 nl5 Anl5 cnl5 nl6 Anl6 cnl6 nl7 true _ HLnl.out.2.1.1 HLnl.out.2.1.2 HLnl.out.2.2.1.1 HLnl.out.2.2.1.2 HLnl.out.2.2.2.1 HLnl.out.2.2.2.2 HT.out);clear hB hv h4 h5 h6 hc3)
    | (go_at_call 24;(with_reducible refine hc4.mono ?_);rintro r w5 ⟨rfl,hB⟩;clear bnl0 bnl1 bnl2 bnl3 bnl4 bnl5 bnl6 ltnl bnr0 bnr1 bnr2 bnr3 bnr4 bnr5 bnr6 ltnr bn0 bn1 bn2 bn3 bn4 bn5 bn6 ltn;(replace HLn:=Aside0.mk (HLn.out.below hB));(replace HLnl:=Aside0.mk (HLnl.out.below hB));(replace HLnr:=Aside0.mk (HLnr.out.below hB));(replace HB:=Aside0.mk (below_same HB.out hB));obtain ⟨⟨bnl0,bnl1,bnl2,bnl3,bnl4,bnl5,bnl6⟩,_⟩:=HLnl.out.1.cells;(have ltnl:=HLnl.out.1.lt);obtain ⟨⟨bnr0,bnr1,bnr2,bnr3,bnr4,bnr5,bnr6⟩,_⟩:=HLnr.out.1.cells;(have ltnr:=HLnr.out.1.lt);obtain ⟨⟨bn0,bn1,bn2,bn3,bn4,bn5,bn6⟩,_⟩:=HLn.out.1.cells;(have ltn:=HLn.out.1.lt);(have hc5:=latticeref06_Right.calls k nr1 nr2 a0_2 a0_3 Anr4 cnr4 nr5 Anr5 cnr5 nr6 Anr6 cnr6 nr7 true _ HLnr.out.2.1.1 HLnr.out.2.1.2 HLnr.out.2.2.1.1 HLnr.out.2.2.1.2 HLnr.out.2.2.2.1 HLnr.out.2.2.2.2 HU.out);clear hB hc4)
    | (go_at_call 24;(with_reducible refine hc5.mono ?_);rintro r w6 ⟨rfl,hB⟩;clear bnl0 bnl1 bnl2 bnl3 bnl4 bnl5 bnl6 ltnl bnr0 bnr1 bnr2 bnr3 bnr4 bnr5 bnr6 ltnr bn0 bn1 bn2 bn3 bn4 bn5 bn6 ltn;(replace HLn:=Aside0.mk (HLn.out.below hB));(replace HLnl:=Aside0.mk (HLnl.out.below hB));(replace HLnr:=Aside0.mk (HLnr.out.below hB));(replace HB:=Aside0.mk (below_same HB.out hB));obtain ⟨⟨bnl0,bnl1,bnl2,bnl3,bnl4,bnl5,bnl6⟩,_⟩:=HLnl.out.1.cells;(have ltnl:=HLnl.out.1.lt);obtain ⟨⟨bnr0,bnr1,bnr2,bnr3,bnr4,bnr5,bnr6⟩,_⟩:=HLnr.out.1.cells;(have ltnr:=HLnr.out.1.lt);obtain ⟨⟨bn0,bn1,bn2,bn3,bn4,bn5,bn6⟩,_⟩:=HLn.out.1.cells;(have ltn:=HLn.out.1.lt);(have hc6:=check_nd kk c w6 HC.out);clear hB hc5)
    | (go_at_call 25;(with_reducible refine hc6.mono ?_);rintro r w7 ⟨rfl,hB⟩;clear bnl0 bnl1 bnl2 bnl3 bnl4 bnl5 bnl6 ltnl bnr0 bnr1 bnr2 bnr3 bnr4 bnr5 bnr6 ltnr bn0 bn1 bn2 bn3 bn4 bn5 bn6 ltn;(replace HLn:=Aside0.mk (HLn.out.below hB));(replace HLnl:=Aside0.mk (HLnl.out.below hB));(replace HLnr:=Aside0.mk (HLnr.out.below hB));(replace HB:=Aside0.mk (below_same HB.out hB));(have hc7:=speaks7_ok w7);clear hB hc6)
    | (go_at_call 17;(with_reducible refine hc7.mono ?_);rintro r w8 ⟨rfl,hB⟩;(replace HLn:=Aside0.mk (HLn.out.below hB));(replace HLnl:=Aside0.mk (HLnl.out.below hB));(replace HLnr:=Aside0.mk (HLnr.out.below hB));(replace HB:=Aside0.mk (below_same HB.out hB));clear hB hc7))
   go_ret
   exact ⟨rfl,HB.out⟩
  subst hc0
  rw [if_pos rfl] at h
  replace h:=Option.bind_eq_some_iff.1 h
  obtain ⟨fu,HF,h⟩:=h
  replace HF:=Aside0.mk HF
  cases fu with
  | true =>
   rw [if_pos rfl] at h
   injection h with h
   subst h
   obtain ⟨⟨bn0,bn1,bn2,bn3,bn4,bn5,bn6⟩,_⟩:=HLn.out.1.cells
   have ltn:=HLn.out.1.lt
   have hc1:=node_Split.calls k 0 a0_1 a0_2 a0_3 A0_4 c0_4 l0_4 A0_5 c0_5 l0_5 A0_6 c0_6 l0_6 s1 0 _ HLn.out.2.1.1 HLn.out.2.1.2 HLn.out.2.2.1.1 HLn.out.2.2.1.2 HLn.out.2.2.2.1 HLn.out.2.2.2.2 HS.out
   go_enter Try.func5,Try.ntmps5
   go_wp2_with (first
    | (go_at_call 10;(with_reducible refine hc1.mono ?_);rintro r w2 ⟨rfl,hB⟩;clear bn0 bn1 bn2 bn3 bn4 bn5 bn6 ltn;(replace HLn:=Aside0.mk (HLn.out.below hB));(replace HB:=Aside0.mk (below_same HB.out hB));obtain ⟨⟨bn0,bn1,bn2,bn3,bn4,bn5,bn6⟩,_⟩:=HLn.out.1.cells;(have ltn:=HLn.out.1.lt);(have hc2:=left_calls k 0 a0_1 a0_2 a0_3 A0_4 c0_4 l0_4 A0_5 c0_5 l0_5 A0_6 c0_6 l0_6 s1 num nl1 nl2 num s1 nl5 nl6 nl7 0 _ HLn.out.2.1.1 HLn.out.2.1.2 HLn.out.2.2.1.1 HLn.out.2.2.1.2 HLn.out.2.2.2.1 HLn.out.2.2.2.2 HP.out);clear hB hc1)
    | (go_at_call 12;(with_reducible refine hc2.mono ?_);rintro r w3 ⟨v4,v5,v6,rfl,h4,h5,h6,hB⟩;clear bn0 bn1 bn2 bn3 bn4 bn5 bn6 ltn;obtain ⟨Anl4,cnl4,Anl5,cnl5,Anl6,cnl6,rfl,rfl,rfl,hv⟩:=ndv_of_CS h4 h5 h6;(replace HLn:=Aside0.mk (HLn.out.step hB (.cells #[.int .i64 nl1,.int .i64 nl2,.int .i64 num,.string s1,.slice Anl4 nl5.length cnl4,.slice Anl5 nl6.length cnl5,.slice Anl6 nl7.length cnl6] 25)));(replace HB:=Aside0.mk (below_next HB.out hB (.cells #[.int .i64 nl1,.int .i64 nl2,.int .i64 num,.string s1,.slice Anl4 nl5.length cnl4,.slice Anl5 nl6.length cnl5,.slice Anl6 nl7.length cnl6] 25)));(have HLnl:=Aside0.mk (hv.boxed nl1 nl2 num s1));obtain ⟨⟨bn0,bn1,bn2,bn3,bn4,bn5,bn6⟩,_⟩:=HLn.out.1.cells;(have ltn:=HLn.out.1.lt);(have hc3:=rest_calls k 0 a0_1 a0_2 a0_3 A0_4 c0_4 l0_4 A0_5 c0_5 l0_5 A0_6 c0_6 l0_6 s1 nr1 nr2 a0_2 a0_3 nr5 nr6 nr7 0 _ HLn.out.2.1.1 HLn.out.2.1.2 HLn.out.2.2.1.1 HLn.out.2.2.1.2 HLn.out.2.2.2.1 HLn.out.2.2.2.2 HQ.out);clear hB hv h4 h5 h6 hc2)
    | (go_at_call 14;(with_reducible refine hc3.mono ?_);rintro r w4 ⟨v4,v5,v6,rfl,h4,h5,h6,hB⟩;clear bn0 bn1 bn2 bn3 bn4 bn5 bn6 ltn;obtain ⟨Anr4,cnr4,Anr5,cnr5,Anr6,cnr6,rfl,rfl,rfl,hv⟩:=ndv_of_CS h4 h5 h6;(replace HLn:=Aside0.mk (HLn.out.step hB (.cells #[.int .i64 nr1,.int .i64 nr2,.int .i64 a0_2,.string a0_3,.slice Anr4 nr5.length cnr4,.slice Anr5 nr6.length cnr5,.slice Anr6 nr7.length cnr6] 25)));(replace HLnl:=Aside0.mk (HLnl.out.step hB (.cells #[.int .i64 nr1,.int .i64 nr2,.int .i64 a0_2,.string a0_3,.slice Anr4 nr5.length cnr4,.slice Anr5 nr6.length cnr5,.slice Anr6 nr7.length cnr6] 25)));(replace HB:=Aside0.mk (below_next HB.out hB (.cells #[.int .i64 nr1,.int .i64 nr2,.int .i64 a0_2,.string a0_3,.slice Anr4 nr5.length cnr4,.slice Anr5 nr6.length cnr5,.slice Anr6 nr7.length cnr6] 25)));(have HLnr:=Aside0.mk (hv.boxed nr1 nr2 a0_2 a0_3));obtain ⟨⟨bnl0,bnl1,bnl2,bnl3,bnl4,bnl5,bnl6⟩,_⟩:=HLnl.out.1.cells;(have ltnl:=HLnl.out.1.lt);obtain ⟨⟨bnr0,bnr1,bnr2,bnr3,bnr4,bnr5,bnr6⟩,_⟩:=HLnr.out.1.cells;(have ltnr:=HLnr.out.1.lt);obtain ⟨⟨bn0,bn1,bn2,bn3,bn4,bn5,bn6⟩,_⟩:=HLn.out.1.cells;(have ltn:=HLn.out.1.lt);(have hc4:=latticeref06_Right.calls k nl1 nl2 num s1 Anl4 cnl4 nl5 Anl5 cnl5 nl6 Anl6 cnl6 nl7 true _ HLnl.out.2.1.1 HLnl.out.2.1.2 HLnl.out.2.2.1.1 HLnl.out.2.2.1.2 HLnl.out.2.2.2.1 HLnl.out.2.2.2.2 HT.out);clear hB hv h4 h5 h6 hc3)
    | (go_at_call 24;(with_reducible refine hc4.mono ?_);rintro r w5 ⟨rfl,hB⟩;clear bnl0 bnl1 bnl2 bnl3 bnl4 bnl5 bnl6 ltnl bnr0 bnr1 bnr2 bnr3 bnr4 bnr5 bnr6 ltnr bn0 bn1 bn2 bn3 bn4 bn5 bn6 ltn;(replace HLn:=Aside0.mk (HLn.out.below hB));(replace HLnl:=Aside0.mk (HLnl.out.below hB));(replace HLnr:=Aside0.mk (HLnr.out.below hB));(replace HB:=Aside0.mk (below_same HB.out hB));obtain ⟨⟨bnl0,bnl1,bnl2,bnl3,bnl4,bnl5,bnl6⟩,_⟩:=HLnl.out.1.cells;(have ltnl:=HLnl.out.1.lt);obtain ⟨⟨bnr0,bnr1,bnr2,bnr3,bnr4,bnr5,bnr6⟩,_⟩:=HLnr.out.1.cells;(have ltnr:=HLnr.out.1.lt);obtain ⟨⟨bn0,bn1,bn2,bn3,bn4,bn5,bn6⟩,_⟩:=HLn.out.1.cells;(have ltn:=HLn.out.1.lt);(have hc5:=latticeref06_Right.calls k nr1 nr2 a0_2 a0_3 Anr4 cnr4 nr5 Anr5 cnr5 nr6 Anr6 cnr6 nr7 true _ HLnr.out.2.1.1 HLnr.out.2.1.2 HLnr.out.2.2.1.1 HLnr.out.2.2.1.2 HLnr.out.2.2.2.1 HLnr.out.2.2.2.2 HU.out);clear hB hc4)
    | (go_at_call 24;(with_reducible refine hc5.mono ?_);rintro r w6 ⟨rfl,hB⟩;clear bnl0 bnl1 bnl2 bnl3 bnl4 bnl5 bnl6 ltnl bnr0 bnr1 bnr2 bnr3 bnr4 bnr5 bnr6 ltnr bn0 bn1 bn2 bn3 bn4 bn5 bn6 ltn;(replace HLn:=Aside0.mk (HLn.out.below hB));(replace HLnl:=Aside0.mk (HLnl.out.below hB));(replace HLnr:=Aside0.mk (HLnr.out.below hB));(replace HB:=Aside0.mk (below_same HB.out hB));obtain ⟨⟨bnl0,bnl1,bnl2,bnl3,bnl4,bnl5,bnl6⟩,_⟩:=HLnl.out.1.cells;(have ltnl:=HLnl.out.1.lt);obtain ⟨⟨bnr0,bnr1,bnr2,bnr3,bnr4,bnr5,bnr6⟩,_⟩:=HLnr.out.1.cells;(have ltnr:=HLnr.out.1.lt);obtain ⟨⟨bn0,bn1,bn2,bn3,bn4,bn5,bn6⟩,_⟩:=HLn.out.1.cells;(have ltn:=HLn.out.1.lt);(have hc6:=check_nd kk 0 w6 HC.out);clear hB hc5)
    | (go_at_call 25;(with_reducible refine hc6.mono ?_);rintro r w7 ⟨rfl,hB⟩;clear bnl0 bnl1 bnl2 bnl3 bnl4 bnl5 bnl6 ltnl bnr0 bnr1 bnr2 bnr3 bnr4 bnr5 bnr6 ltnr bn0 bn1 bn2 bn3 bn4 bn5 bn6 ltn;(replace HLn:=Aside0.mk (HLn.out.below hB));(replace HLnl:=Aside0.mk (HLnl.out.below hB));(replace HLnr:=Aside0.mk (HLnr.out.below hB));(replace HB:=Aside0.mk (below_same HB.out hB));obtain ⟨⟨bn0,bn1,bn2,bn3,bn4,bn5,bn6⟩,_⟩:=HLn.out.1.cells;(have ltn:=HLn.out.1.lt);(have hc7:=node_Further.calls 0 a0_1 a0_2 a0_3 A0_4 c0_4 l0_4 A0_5 c0_5 l0_5 A0_6 c0_6 l0_6 kk true _ HLn.out.2.1.1 HLn.out.2.1.2 HLn.out.2.2.1.1 HLn.out.2.2.1.2 HLn.out.2.2.2.1 HLn.out.2.2.2.2 HF.out);clear hB hc6)
    | (go_at_call 22;(with_reducible refine hc7.mono ?_);rintro r w8 ⟨rfl,hB⟩;clear bn0 bn1 bn2 bn3 bn4 bn5 bn6 ltn;(replace HLn:=Aside0.mk (HLn.out.below hB));(replace HLnl:=Aside0.mk (HLnl.out.below hB));(replace HLnr:=Aside0.mk (HLnr.out.below hB));(replace HB:=Aside0.mk (below_same HB.out hB));(have hc8:=speaks7_ok w8);clear hB hc7)
    | (go_at_call 17;(with_reducible refine hc8.mono ?_);rintro r w9 ⟨rfl,hB⟩;(replace HLn:=Aside0.mk (HLn.out.below hB));(replace HLnl:=Aside0.mk (HLnl.out.below hB));(replace HLnr:=Aside0.mk (HLnr.out.below hB));(replace HB:=Aside0.mk (below_same HB.out hB));clear hB hc8))
   go_ret
   exact ⟨rfl,HB.out⟩
  | false =>
   rw [if_neg (by decide)] at h
   replace h:=Option.bind_eq_some_iff.1 h
   obtain ⟨fl,HG,h⟩:=h
   replace HG:=Aside0.mk HG
   rw [if_pos rfl] at h
   unfold halvesL at h
   replace h:=Option.bind_eq_some_iff.1 h
   obtain ⟨⟨q1,q2,q3⟩,HW,h⟩:=h
   replace HW:=Aside0.mk HW
   replace h:=Option.bind_eq_some_iff.1 h
   obtain ⟨⟨x1,x2,x3⟩,HX,h⟩:=h
   replace HX:=Aside0.mk HX
   dsimp only at h
   by_cases hlen:nl5.length+nr5.length=l0_4.length∧l0_4.length≤8796093022208
   case neg=>rw [if_neg hlen] at h;cases h
   rw [if_pos hlen] at h
   obtain ⟨hlen,hle⟩:=hlen
   have dw:IntKind.i64.wrap ((nl5.length:Int)+(nr5.length:Int))=(l0_4.length:Int):=by
    rw [IntKind.wrap_i64]
    omega
   have dw2:((nl5.length:Int)+(nr5.length:Int)==(l0_4.length:Int))=true:=by
    rw [beq_iff_eq]
    omega
   have dw3:((nl5.length:Int)+(nr5.length:Int)=(l0_4.length:Int))=True:=eq_true (by omega)
   have b1:nl5.length≤9223372036854775807:=by omega
   have b2:nr5.length≤9223372036854775807:=by omega
   clear hlen
   cases fl with
   | true =>
    rw [if_pos rfl] at h
    by_cases hx:(x1,x2,x3)=(q1,q2,(0:Int))
    case neg=>rw [if_neg hx] at h;cases h
    rw [if_pos hx] at h
    simp only [Prod.mk.injEq] at hx
    obtain ⟨e1,e2,e3⟩:=hx
    subst e1 e2 e3
    injection h with h
    subst h
    obtain ⟨⟨bn0,bn1,bn2,bn3,bn4,bn5,bn6⟩,_⟩:=HLn.out.1.cells
    have ltn:=HLn.out.1.lt
    have hc1:=node_Split.calls k 0 a0_1 a0_2 a0_3 A0_4 c0_4 l0_4 A0_5 c0_5 l0_5 A0_6 c0_6 l0_6 s1 0 _ HLn.out.2.1.1 HLn.out.2.1.2 HLn.out.2.2.1.1 HLn.out.2.2.1.2 HLn.out.2.2.2.1 HLn.out.2.2.2.2 HS.out
    go_enter Try.func5,Try.ntmps5
    go_wp2_with (first
     | (go_at_call 10;(with_reducible refine hc1.mono ?_);rintro r w2 ⟨rfl,hB⟩;clear bn0 bn1 bn2 bn3 bn4 bn5 bn6 ltn;(replace HLn:=Aside0.mk (HLn.out.below hB));(replace HB:=Aside0.mk (below_same HB.out hB));obtain ⟨⟨bn0,bn1,bn2,bn3,bn4,bn5,bn6⟩,_⟩:=HLn.out.1.cells;(have ltn:=HLn.out.1.lt);(have hc2:=left_calls k 0 a0_1 a0_2 a0_3 A0_4 c0_4 l0_4 A0_5 c0_5 l0_5 A0_6 c0_6 l0_6 s1 num nl1 nl2 num s1 nl5 nl6 nl7 0 _ HLn.out.2.1.1 HLn.out.2.1.2 HLn.out.2.2.1.1 HLn.out.2.2.1.2 HLn.out.2.2.2.1 HLn.out.2.2.2.2 HP.out);clear hB hc1)
     | (go_at_call 12;(with_reducible refine hc2.mono ?_);rintro r w3 ⟨v4,v5,v6,rfl,h4,h5,h6,hB⟩;clear bn0 bn1 bn2 bn3 bn4 bn5 bn6 ltn;obtain ⟨Anl4,cnl4,Anl5,cnl5,Anl6,cnl6,rfl,rfl,rfl,hv⟩:=ndv_of_CS h4 h5 h6;(replace HLn:=Aside0.mk (HLn.out.step hB (.cells #[.int .i64 nl1,.int .i64 nl2,.int .i64 num,.string s1,.slice Anl4 nl5.length cnl4,.slice Anl5 nl6.length cnl5,.slice Anl6 nl7.length cnl6] 25)));(replace HB:=Aside0.mk (below_next HB.out hB (.cells #[.int .i64 nl1,.int .i64 nl2,.int .i64 num,.string s1,.slice Anl4 nl5.length cnl4,.slice Anl5 nl6.length cnl5,.slice Anl6 nl7.length cnl6] 25)));(have HLnl:=Aside0.mk (hv.boxed nl1 nl2 num s1));obtain ⟨⟨bn0,bn1,bn2,bn3,bn4,bn5,bn6⟩,_⟩:=HLn.out.1.cells;(have ltn:=HLn.out.1.lt);(have hc3:=rest_calls k 0 a0_1 a0_2 a0_3 A0_4 c0_4 l0_4 A0_5 c0_5 l0_5 A0_6 c0_6 l0_6 s1 nr1 nr2 a0_2 a0_3 nr5 nr6 nr7 0 _ HLn.out.2.1.1 HLn.out.2.1.2 HLn.out.2.2.1.1 HLn.out.2.2.1.2 HLn.out.2.2.2.1 HLn.out.2.2.2.2 HQ.out);clear hB hv h4 h5 h6 hc2)
     | (go_at_call 14;(with_reducible refine hc3.mono ?_);rintro r w4 ⟨v4,v5,v6,rfl,h4,h5,h6,hB⟩;clear bn0 bn1 bn2 bn3 bn4 bn5 bn6 ltn;obtain ⟨Anr4,cnr4,Anr5,cnr5,Anr6,cnr6,rfl,rfl,rfl,hv⟩:=ndv_of_CS h4 h5 h6;(replace HLn:=Aside0.mk (HLn.out.step hB (.cells #[.int .i64 nr1,.int .i64 nr2,.int .i64 a0_2,.string a0_3,.slice Anr4 nr5.length cnr4,.slice Anr5 nr6.length cnr5,.slice Anr6 nr7.length cnr6] 25)));(replace HLnl:=Aside0.mk (HLnl.out.step hB (.cells #[.int .i64 nr1,.int .i64 nr2,.int .i64 a0_2,.string a0_3,.slice Anr4 nr5.length cnr4,.slice Anr5 nr6.length cnr5,.slice Anr6 nr7.length cnr6] 25)));(replace HB:=Aside0.mk (below_next HB.out hB (.cells #[.int .i64 nr1,.int .i64 nr2,.int .i64 a0_2,.string a0_3,.slice Anr4 nr5.length cnr4,.slice Anr5 nr6.length cnr5,.slice Anr6 nr7.length cnr6] 25)));(have HLnr:=Aside0.mk (hv.boxed nr1 nr2 a0_2 a0_3));obtain ⟨⟨bnl0,bnl1,bnl2,bnl3,bnl4,bnl5,bnl6⟩,_⟩:=HLnl.out.1.cells;(have ltnl:=HLnl.out.1.lt);obtain ⟨⟨bnr0,bnr1,bnr2,bnr3,bnr4,bnr5,bnr6⟩,_⟩:=HLnr.out.1.cells;(have ltnr:=HLnr.out.1.lt);obtain ⟨⟨bn0,bn1,bn2,bn3,bn4,bn5,bn6⟩,_⟩:=HLn.out.1.cells;(have ltn:=HLn.out.1.lt);(have hc4:=latticeref06_Right.calls k nl1 nl2 num s1 Anl4 cnl4 nl5 Anl5 cnl5 nl6 Anl6 cnl6 nl7 true _ HLnl.out.2.1.1 HLnl.out.2.1.2 HLnl.out.2.2.1.1 HLnl.out.2.2.1.2 HLnl.out.2.2.2.1 HLnl.out.2.2.2.2 HT.out);clear hB hv h4 h5 h6 hc3)
     | (go_at_call 24;(with_reducible refine hc4.mono ?_);rintro r w5 ⟨rfl,hB⟩;clear bnl0 bnl1 bnl2 bnl3 bnl4 bnl5 bnl6 ltnl bnr0 bnr1 bnr2 bnr3 bnr4 bnr5 bnr6 ltnr bn0 bn1 bn2 bn3 bn4 bn5 bn6 ltn;(replace HLn:=Aside0.mk (HLn.out.below hB));(replace HLnl:=Aside0.mk (HLnl.out.below hB));(replace HLnr:=Aside0.mk (HLnr.out.below hB));(replace HB:=Aside0.mk (below_same HB.out hB));obtain ⟨⟨bnl0,bnl1,bnl2,bnl3,bnl4,bnl5,bnl6⟩,_⟩:=HLnl.out.1.cells;(have ltnl:=HLnl.out.1.lt);obtain ⟨⟨bnr0,bnr1,bnr2,bnr3,bnr4,bnr5,bnr6⟩,_⟩:=HLnr.out.1.cells;(have ltnr:=HLnr.out.1.lt);obtain ⟨⟨bn0,bn1,bn2,bn3,bn4,bn5,bn6⟩,_⟩:=HLn.out.1.cells;(have ltn:=HLn.out.1.lt);(have hc5:=latticeref06_Right.calls k nr1 nr2 a0_2 a0_3 Anr4 cnr4 nr5 Anr5 cnr5 nr6 Anr6 cnr6 nr7 true _ HLnr.out.2.1.1 HLnr.out.2.1.2 HLnr.out.2.2.1.1 HLnr.out.2.2.1.2 HLnr.out.2.2.2.1 HLnr.out.2.2.2.2 HU.out);clear hB hc4)
     | (go_at_call 24;(with_reducible refine hc5.mono ?_);rintro r w6 ⟨rfl,hB⟩;clear bnl0 bnl1 bnl2 bnl3 bnl4 bnl5 bnl6 ltnl bnr0 bnr1 bnr2 bnr3 bnr4 bnr5 bnr6 ltnr bn0 bn1 bn2 bn3 bn4 bn5 bn6 ltn;(replace HLn:=Aside0.mk (HLn.out.below hB));(replace HLnl:=Aside0.mk (HLnl.out.below hB));(replace HLnr:=Aside0.mk (HLnr.out.below hB));(replace HB:=Aside0.mk (below_same HB.out hB));obtain ⟨⟨bnl0,bnl1,bnl2,bnl3,bnl4,bnl5,bnl6⟩,_⟩:=HLnl.out.1.cells;(have ltnl:=HLnl.out.1.lt);obtain ⟨⟨bnr0,bnr1,bnr2,bnr3,bnr4,bnr5,bnr6⟩,_⟩:=HLnr.out.1.cells;(have ltnr:=HLnr.out.1.lt);obtain ⟨⟨bn0,bn1,bn2,bn3,bn4,bn5,bn6⟩,_⟩:=HLn.out.1.cells;(have ltn:=HLn.out.1.lt);(have hc6:=check_nd kk 0 w6 HC.out);clear hB hc5)
     | (go_at_call 25;(with_reducible refine hc6.mono ?_);rintro r w7 ⟨rfl,hB⟩;clear bnl0 bnl1 bnl2 bnl3 bnl4 bnl5 bnl6 ltnl bnr0 bnr1 bnr2 bnr3 bnr4 bnr5 bnr6 ltnr bn0 bn1 bn2 bn3 bn4 bn5 bn6 ltn;(replace HLn:=Aside0.mk (HLn.out.below hB));(replace HLnl:=Aside0.mk (HLnl.out.below hB));(replace HLnr:=Aside0.mk (HLnr.out.below hB));(replace HB:=Aside0.mk (below_same HB.out hB));obtain ⟨⟨bn0,bn1,bn2,bn3,bn4,bn5,bn6⟩,_⟩:=HLn.out.1.cells;(have ltn:=HLn.out.1.lt);(have hc7:=node_Further.calls 0 a0_1 a0_2 a0_3 A0_4 c0_4 l0_4 A0_5 c0_5 l0_5 A0_6 c0_6 l0_6 kk false _ HLn.out.2.1.1 HLn.out.2.1.2 HLn.out.2.2.1.1 HLn.out.2.2.1.2 HLn.out.2.2.2.1 HLn.out.2.2.2.2 HF.out);clear hB hc6)
     | (go_at_call 22;(with_reducible refine hc7.mono ?_);rintro r w8 ⟨rfl,hB⟩;clear bn0 bn1 bn2 bn3 bn4 bn5 bn6 ltn;(replace HLn:=Aside0.mk (HLn.out.below hB));(replace HLnl:=Aside0.mk (HLnl.out.below hB));(replace HLnr:=Aside0.mk (HLnr.out.below hB));(replace HB:=Aside0.mk (below_same HB.out hB));obtain ⟨⟨bn0,bn1,bn2,bn3,bn4,bn5,bn6⟩,_⟩:=HLn.out.1.cells;(have ltn:=HLn.out.1.lt);(have hc8:=node_Get.calls k 0 a0_1 a0_2 a0_3 A0_4 c0_4 l0_4 A0_5 c0_5 l0_5 A0_6 c0_6 l0_6 kk x1 x2 q3 _ HLn.out.2.1.1 HLn.out.2.1.2 HLn.out.2.2.1.1 HLn.out.2.2.1.2 HLn.out.2.2.2.1 HLn.out.2.2.2.2 HW.out);clear hB hc7)
     | (go_at_call 18;(with_reducible refine hc8.mono ?_);rintro r w9 ⟨rfl,hB⟩;clear bn0 bn1 bn2 bn3 bn4 bn5 bn6 ltn;(replace HLn:=Aside0.mk (HLn.out.below hB));(replace HLnl:=Aside0.mk (HLnl.out.below hB));(replace HLnr:=Aside0.mk (HLnr.out.below hB));(replace HB:=Aside0.mk (below_same HB.out hB));obtain ⟨⟨bnr0,bnr1,bnr2,bnr3,bnr4,bnr5,bnr6⟩,_⟩:=HLnr.out.1.cells;(have ltnr:=HLnr.out.1.lt);(have hc9:=node_Get.calls k nr1 nr2 a0_2 a0_3 Anr4 cnr4 nr5 Anr5 cnr5 nr6 Anr6 cnr6 nr7 kk x1 x2 0 _ HLnr.out.2.1.1 HLnr.out.2.1.2 HLnr.out.2.2.1.1 HLnr.out.2.2.1.2 HLnr.out.2.2.2.1 HLnr.out.2.2.2.2 HX.out);clear hB hc8)
     | (go_at_call 18;(with_reducible refine hc9.mono ?_);rintro r w10 ⟨rfl,hB⟩;clear bnr0 bnr1 bnr2 bnr3 bnr4 bnr5 bnr6 ltnr;(replace HLn:=Aside0.mk (HLn.out.below hB));(replace HLnl:=Aside0.mk (HLnl.out.below hB));(replace HLnr:=Aside0.mk (HLnr.out.below hB));(replace HB:=Aside0.mk (below_same HB.out hB));obtain ⟨⟨bnl0,bnl1,bnl2,bnl3,bnl4,bnl5,bnl6⟩,_⟩:=HLnl.out.1.cells;(have ltnl:=HLnl.out.1.lt);(have hc10:=node_Further.calls nl1 nl2 num s1 Anl4 cnl4 nl5 Anl5 cnl5 nl6 Anl6 cnl6 nl7 kk true _ HLnl.out.2.1.1 HLnl.out.2.1.2 HLnl.out.2.2.1.1 HLnl.out.2.2.1.2 HLnl.out.2.2.2.1 HLnl.out.2.2.2.2 HG.out);clear hB hc9)
     | (go_at_call 22;(with_reducible refine hc10.mono ?_);rintro r w11 ⟨rfl,hB⟩;clear bnl0 bnl1 bnl2 bnl3 bnl4 bnl5 bnl6 ltnl;(replace HLn:=Aside0.mk (HLn.out.below hB));(replace HLnl:=Aside0.mk (HLnl.out.below hB));(replace HLnr:=Aside0.mk (HLnr.out.below hB));(replace HB:=Aside0.mk (below_same HB.out hB));obtain ⟨⟨bnl0,bnl1,bnl2,bnl3,bnl4,bnl5,bnl6⟩,_⟩:=HLnl.out.1.cells;(have ltnl:=HLnl.out.1.lt);obtain ⟨⟨bnr0,bnr1,bnr2,bnr3,bnr4,bnr5,bnr6⟩,_⟩:=HLnr.out.1.cells;(have ltnr:=HLnr.out.1.lt);obtain ⟨⟨bn0,bn1,bn2,bn3,bn4,bn5,bn6⟩,_⟩:=HLn.out.1.cells;(have ltn:=HLn.out.1.lt);(have hc11:=speaks7_ok w11);clear hB hc10)
     | (go_at_call 17;(with_reducible refine hc11.mono ?_);rintro r w12 ⟨rfl,hB⟩;clear bnl0 bnl1 bnl2 bnl3 bnl4 bnl5 bnl6 ltnl bnr0 bnr1 bnr2 bnr3 bnr4 bnr5 bnr6 ltnr bn0 bn1 bn2 bn3 bn4 bn5 bn6 ltn;(replace HLn:=Aside0.mk (HLn.out.below hB));(replace HLnl:=Aside0.mk (HLnl.out.below hB));(replace HLnr:=Aside0.mk (HLnr.out.below hB));(replace HB:=Aside0.mk (below_same HB.out hB));clear hB hc11))
    go_ret
    exact ⟨rfl,HB.out⟩
   | false =>
    rw [if_neg (by decide)] at h
    by_cases hx:x2=false
    case neg=>rw [if_neg hx] at h;cases h
    rw [if_pos hx] at h
    subst hx
    replace h:=Option.bind_eq_some_iff.1 h
    obtain ⟨⟨y1,y2,y3⟩,HY,h⟩:=h
    replace HY:=Aside0.mk HY
    by_cases hx:(y1,y2,y3)=(q1,q2,(0:Int))
    case neg=>rw [if_neg hx] at h;cases h
    rw [if_pos hx] at h
    simp only [Prod.mk.injEq] at hx
    obtain ⟨e1,e2,e3⟩:=hx
    subst e1 e2 e3
    injection h with h
    subst h
    obtain ⟨⟨bn0,bn1,bn2,bn3,bn4,bn5,bn6⟩,_⟩:=HLn.out.1.cells
    have ltn:=HLn.out.1.lt
    have hc1:=node_Split.calls k 0 a0_1 a0_2 a0_3 A0_4 c0_4 l0_4 A0_5 c0_5 l0_5 A0_6 c0_6 l0_6 s1 0 _ HLn.out.2.1.1 HLn.out.2.1.2 HLn.out.2.2.1.1 HLn.out.2.2.1.2 HLn.out.2.2.2.1 HLn.out.2.2.2.2 HS.out
    go_enter Try.func5,Try.ntmps5
    go_wp2_with (first
     | (go_at_call 10;(with_reducible refine hc1.mono ?_);rintro r w2 ⟨rfl,hB⟩;clear bn0 bn1 bn2 bn3 bn4 bn5 bn6 ltn;(replace HLn:=Aside0.mk (HLn.out.below hB));(replace HB:=Aside0.mk (below_same HB.out hB));obtain ⟨⟨bn0,bn1,bn2,bn3,bn4,bn5,bn6⟩,_⟩:=HLn.out.1.cells;(have ltn:=HLn.out.1.lt);(have hc2:=left_calls k 0 a0_1 a0_2 a0_3 A0_4 c0_4 l0_4 A0_5 c0_5 l0_5 A0_6 c0_6 l0_6 s1 num nl1 nl2 num s1 nl5 nl6 nl7 0 _ HLn.out.2.1.1 HLn.out.2.1.2 HLn.out.2.2.1.1 HLn.out.2.2.1.2 HLn.out.2.2.2.1 HLn.out.2.2.2.2 HP.out);clear hB hc1)
     | (go_at_call 12;(with_reducible refine hc2.mono ?_);rintro r w3 ⟨v4,v5,v6,rfl,h4,h5,h6,hB⟩;clear bn0 bn1 bn2 bn3 bn4 bn5 bn6 ltn;obtain ⟨Anl4,cnl4,Anl5,cnl5,Anl6,cnl6,rfl,rfl,rfl,hv⟩:=ndv_of_CS h4 h5 h6;(replace HLn:=Aside0.mk (HLn.out.step hB (.cells #[.int .i64 nl1,.int .i64 nl2,.int .i64 num,.string s1,.slice Anl4 nl5.length cnl4,.slice Anl5 nl6.length cnl5,.slice Anl6 nl7.length cnl6] 25)));(replace HB:=Aside0.mk (below_next HB.out hB (.cells #[.int .i64 nl1,.int .i64 nl2,.int .i64 num,.string s1,.slice Anl4 nl5.length cnl4,.slice Anl5 nl6.length cnl5,.slice Anl6 nl7.length cnl6] 25)));(have HLnl:=Aside0.mk (hv.boxed nl1 nl2 num s1));obtain ⟨⟨bn0,bn1,bn2,bn3,bn4,bn5,bn6⟩,_⟩:=HLn.out.1.cells;(have ltn:=HLn.out.1.lt);(have hc3:=rest_calls k 0 a0_1 a0_2 a0_3 A0_4 c0_4 l0_4 A0_5 c0_5 l0_5 A0_6 c0_6 l0_6 s1 nr1 nr2 a0_2 a0_3 nr5 nr6 nr7 0 _ HLn.out.2.1.1 HLn.out.2.1.2 HLn.out.2.2.1.1 HLn.out.2.2.1.2 HLn.out.2.2.2.1 HLn.out.2.2.2.2 HQ.out);clear hB hv h4 h5 h6 hc2)
     | (go_at_call 14;(with_reducible refine hc3.mono ?_);rintro r w4 ⟨v4,v5,v6,rfl,h4,h5,h6,hB⟩;clear bn0 bn1 bn2 bn3 bn4 bn5 bn6 ltn;obtain ⟨Anr4,cnr4,Anr5,cnr5,Anr6,cnr6,rfl,rfl,rfl,hv⟩:=ndv_of_CS h4 h5 h6;(replace HLn:=Aside0.mk (HLn.out.step hB (.cells #[.int .i64 nr1,.int .i64 nr2,.int .i64 a0_2,.string a0_3,.slice Anr4 nr5.length cnr4,.slice Anr5 nr6.length cnr5,.slice Anr6 nr7.length cnr6] 25)));(replace HLnl:=Aside0.mk (HLnl.out.step hB (.cells #[.int .i64 nr1,.int .i64 nr2,.int .i64 a0_2,.string a0_3,.slice Anr4 nr5.length cnr4,.slice Anr5 nr6.length cnr5,.slice Anr6 nr7.length cnr6] 25)));(replace HB:=Aside0.mk (below_next HB.out hB (.cells #[.int .i64 nr1,.int .i64 nr2,.int .i64 a0_2,.string a0_3,.slice Anr4 nr5.length cnr4,.slice Anr5 nr6.length cnr5,.slice Anr6 nr7.length cnr6] 25)));(have HLnr:=Aside0.mk (hv.boxed nr1 nr2 a0_2 a0_3));obtain ⟨⟨bnl0,bnl1,bnl2,bnl3,bnl4,bnl5,bnl6⟩,_⟩:=HLnl.out.1.cells;(have ltnl:=HLnl.out.1.lt);obtain ⟨⟨bnr0,bnr1,bnr2,bnr3,bnr4,bnr5,bnr6⟩,_⟩:=HLnr.out.1.cells;(have ltnr:=HLnr.out.1.lt);obtain ⟨⟨bn0,bn1,bn2,bn3,bn4,bn5,bn6⟩,_⟩:=HLn.out.1.cells;(have ltn:=HLn.out.1.lt);(have hc4:=latticeref06_Right.calls k nl1 nl2 num s1 Anl4 cnl4 nl5 Anl5 cnl5 nl6 Anl6 cnl6 nl7 true _ HLnl.out.2.1.1 HLnl.out.2.1.2 HLnl.out.2.2.1.1 HLnl.out.2.2.1.2 HLnl.out.2.2.2.1 HLnl.out.2.2.2.2 HT.out);clear hB hv h4 h5 h6 hc3)
     | (go_at_call 24;(with_reducible refine hc4.mono ?_);rintro r w5 ⟨rfl,hB⟩;clear bnl0 bnl1 bnl2 bnl3 bnl4 bnl5 bnl6 ltnl bnr0 bnr1 bnr2 bnr3 bnr4 bnr5 bnr6 ltnr bn0 bn1 bn2 bn3 bn4 bn5 bn6 ltn;(replace HLn:=Aside0.mk (HLn.out.below hB));(replace HLnl:=Aside0.mk (HLnl.out.below hB));(replace HLnr:=Aside0.mk (HLnr.out.below hB));(replace HB:=Aside0.mk (below_same HB.out hB));obtain ⟨⟨bnl0,bnl1,bnl2,bnl3,bnl4,bnl5,bnl6⟩,_⟩:=HLnl.out.1.cells;(have ltnl:=HLnl.out.1.lt);obtain ⟨⟨bnr0,bnr1,bnr2,bnr3,bnr4,bnr5,bnr6⟩,_⟩:=HLnr.out.1.cells;(have ltnr:=HLnr.out.1.lt);obtain ⟨⟨bn0,bn1,bn2,bn3,bn4,bn5,bn6⟩,_⟩:=HLn.out.1.cells;(have ltn:=HLn.out.1.lt);(have hc5:=latticeref06_Right.calls k nr1 nr2 a0_2 a0_3 Anr4 cnr4 nr5 Anr5 cnr5 nr6 Anr6 cnr6 nr7 true _ HLnr.out.2.1.1 HLnr.out.2.1.2 HLnr.out.2.2.1.1 HLnr.out.2.2.1.2 HLnr.out.2.2.2.1 HLnr.out.2.2.2.2 HU.out);clear hB hc4)
     | (go_at_call 24;(with_reducible refine hc5.mono ?_);rintro r w6 ⟨rfl,hB⟩;clear bnl0 bnl1 bnl2 bnl3 bnl4 bnl5 bnl6 ltnl bnr0 bnr1 bnr2 bnr3 bnr4 bnr5 bnr6 ltnr bn0 bn1 bn2 bn3 bn4 bn5 bn6 ltn;(replace HLn:=Aside0.mk (HLn.out.below hB));(replace HLnl:=Aside0.mk (HLnl.out.below hB));(replace HLnr:=Aside0.mk (HLnr.out.below hB));(replace HB:=Aside0.mk (below_same HB.out hB));obtain ⟨⟨bnl0,bnl1,bnl2,bnl3,bnl4,bnl5,bnl6⟩,_⟩:=HLnl.out.1.cells;(have ltnl:=HLnl.out.1.lt);obtain ⟨⟨bnr0,bnr1,bnr2,bnr3,bnr4,bnr5,bnr6⟩,_⟩:=HLnr.out.1.cells;(have ltnr:=HLnr.out.1.lt);obtain ⟨⟨bn0,bn1,bn2,bn3,bn4,bn5,bn6⟩,_⟩:=HLn.out.1.cells;(have ltn:=HLn.out.1.lt);(have hc6:=check_nd kk 0 w6 HC.out);clear hB hc5)
     | (go_at_call 25;(with_reducible refine hc6.mono ?_);rintro r w7 ⟨rfl,hB⟩;clear bnl0 bnl1 bnl2 bnl3 bnl4 bnl5 bnl6 ltnl bnr0 bnr1 bnr2 bnr3 bnr4 bnr5 bnr6 ltnr bn0 bn1 bn2 bn3 bn4 bn5 bn6 ltn;(replace HLn:=Aside0.mk (HLn.out.below hB));(replace HLnl:=Aside0.mk (HLnl.out.below hB));(replace HLnr:=Aside0.mk (HLnr.out.below hB));(replace HB:=Aside0.mk (below_same HB.out hB));obtain ⟨⟨bn0,bn1,bn2,bn3,bn4,bn5,bn6⟩,_⟩:=HLn.out.1.cells;(have ltn:=HLn.out.1.lt);(have hc7:=node_Further.calls 0 a0_1 a0_2 a0_3 A0_4 c0_4 l0_4 A0_5 c0_5 l0_5 A0_6 c0_6 l0_6 kk false _ HLn.out.2.1.1 HLn.out.2.1.2 HLn.out.2.2.1.1 HLn.out.2.2.1.2 HLn.out.2.2.2.1 HLn.out.2.2.2.2 HF.out);clear hB hc6)
     | (go_at_call 22;(with_reducible refine hc7.mono ?_);rintro r w8 ⟨rfl,hB⟩;clear bn0 bn1 bn2 bn3 bn4 bn5 bn6 ltn;(replace HLn:=Aside0.mk (HLn.out.below hB));(replace HLnl:=Aside0.mk (HLnl.out.below hB));(replace HLnr:=Aside0.mk (HLnr.out.below hB));(replace HB:=Aside0.mk (below_same HB.out hB));obtain ⟨⟨bn0,bn1,bn2,bn3,bn4,bn5,bn6⟩,_⟩:=HLn.out.1.cells;(have ltn:=HLn.out.1.lt);(have hc8:=node_Get.calls k 0 a0_1 a0_2 a0_3 A0_4 c0_4 l0_4 A0_5 c0_5 l0_5 A0_6 c0_6 l0_6 kk y1 y2 q3 _ HLn.out.2.1.1 HLn.out.2.1.2 HLn.out.2.2.1.1 HLn.out.2.2.1.2 HLn.out.2.2.2.1 HLn.out.2.2.2.2 HW.out);clear hB hc7)
     | (go_at_call 18;(with_reducible refine hc8.mono ?_);rintro r w9 ⟨rfl,hB⟩;clear bn0 bn1 bn2 bn3 bn4 bn5 bn6 ltn;(replace HLn:=Aside0.mk (HLn.out.below hB));(replace HLnl:=Aside0.mk (HLnl.out.below hB));(replace HLnr:=Aside0.mk (HLnr.out.below hB));(replace HB:=Aside0.mk (below_same HB.out hB));obtain ⟨⟨bnr0,bnr1,bnr2,bnr3,bnr4,bnr5,bnr6⟩,_⟩:=HLnr.out.1.cells;(have ltnr:=HLnr.out.1.lt);(have hc9:=node_Get.calls k nr1 nr2 a0_2 a0_3 Anr4 cnr4 nr5 Anr5 cnr5 nr6 Anr6 cnr6 nr7 kk x1 false x3 _ HLnr.out.2.1.1 HLnr.out.2.1.2 HLnr.out.2.2.1.1 HLnr.out.2.2.1.2 HLnr.out.2.2.2.1 HLnr.out.2.2.2.2 HX.out);clear hB hc8)
     | (go_at_call 18;(with_reducible refine hc9.mono ?_);rintro r w10 ⟨rfl,hB⟩;clear bnr0 bnr1 bnr2 bnr3 bnr4 bnr5 bnr6 ltnr;(replace HLn:=Aside0.mk (HLn.out.below hB));(replace HLnl:=Aside0.mk (HLnl.out.below hB));(replace HLnr:=Aside0.mk (HLnr.out.below hB));(replace HB:=Aside0.mk (below_same HB.out hB));obtain ⟨⟨bnl0,bnl1,bnl2,bnl3,bnl4,bnl5,bnl6⟩,_⟩:=HLnl.out.1.cells;(have ltnl:=HLnl.out.1.lt);(have hc10:=node_Further.calls nl1 nl2 num s1 Anl4 cnl4 nl5 Anl5 cnl5 nl6 Anl6 cnl6 nl7 kk false _ HLnl.out.2.1.1 HLnl.out.2.1.2 HLnl.out.2.2.1.1 HLnl.out.2.2.1.2 HLnl.out.2.2.2.1 HLnl.out.2.2.2.2 HG.out);clear hB hc9)
     | (go_at_call 22;(with_reducible refine hc10.mono ?_);rintro r w11 ⟨rfl,hB⟩;clear bnl0 bnl1 bnl2 bnl3 bnl4 bnl5 bnl6 ltnl;(replace HLn:=Aside0.mk (HLn.out.below hB));(replace HLnl:=Aside0.mk (HLnl.out.below hB));(replace HLnr:=Aside0.mk (HLnr.out.below hB));(replace HB:=Aside0.mk (below_same HB.out hB));obtain ⟨⟨bnl0,bnl1,bnl2,bnl3,bnl4,bnl5,bnl6⟩,_⟩:=HLnl.out.1.cells;(have ltnl:=HLnl.out.1.lt);(have hc11:=node_Get.calls k nl1 nl2 num s1 Anl4 cnl4 nl5 Anl5 cnl5 nl6 Anl6 cnl6 nl7 kk y1 y2 0 _ HLnl.out.2.1.1 HLnl.out.2.1.2 HLnl.out.2.2.1.1 HLnl.out.2.2.1.2 HLnl.out.2.2.2.1 HLnl.out.2.2.2.2 HY.out);clear hB hc10)
     | (go_at_call 18;(with_reducible refine hc11.mono ?_);rintro r w12 ⟨rfl,hB⟩;clear bnl0 bnl1 bnl2 bnl3 bnl4 bnl5 bnl6 ltnl;(replace HLn:=Aside0.mk (HLn.out.below hB));(replace HLnl:=Aside0.mk (HLnl.out.below hB));(replace HLnr:=Aside0.mk (HLnr.out.below hB));(replace HB:=Aside0.mk (below_same HB.out hB));obtain ⟨⟨bnl0,bnl1,bnl2,bnl3,bnl4,bnl5,bnl6⟩,_⟩:=HLnl.out.1.cells;(have ltnl:=HLnl.out.1.lt);obtain ⟨⟨bnr0,bnr1,bnr2,bnr3,bnr4,bnr5,bnr6⟩,_⟩:=HLnr.out.1.cells;(have ltnr:=HLnr.out.1.lt);obtain ⟨⟨bn0,bn1,bn2,bn3,bn4,bn5,bn6⟩,_⟩:=HLn.out.1.cells;(have ltn:=HLn.out.1.lt);(have hc12:=speaks7_ok w12);clear hB hc11)
     | (go_at_call 17;(with_reducible refine hc12.mono ?_);rintro r w13 ⟨rfl,hB⟩;clear bnl0 bnl1 bnl2 bnl3 bnl4 bnl5 bnl6 ltnl bnr0 bnr1 bnr2 bnr3 bnr4 bnr5 bnr6 ltnr bn0 bn1 bn2 bn3 bn4 bn5 bn6 ltn;(replace HLn:=Aside0.mk (HLn.out.below hB));(replace HLnl:=Aside0.mk (HLnl.out.below hB));(replace HLnr:=Aside0.mk (HLnr.out.below hB));(replace HB:=Aside0.mk (below_same HB.out hB));clear hB hc12))
    go_ret
    exact ⟨rfl,HB.out⟩
 have HL0:=Aside0.mk hl0
 have dz1:(a0_0==0)=false:=by simpa using hl0
 have dz2:=eq_false hl0
 clear hl0
 by_cases hc0:c=0
 case neg =>
  rw [if_neg hc0] at h
  injection h with h
  subst h
  have dc:(c != 0)=true:=by simpa using hc0
  clear hc0
  obtain ⟨⟨bn0,bn1,bn2,bn3,bn4,bn5,bn6⟩,_⟩:=HLn.out.1.cells
  have ltn:=HLn.out.1.lt
  have hc1:=node_Split.calls k a0_0 a0_1 a0_2 a0_3 A0_4 c0_4 l0_4 A0_5 c0_5 l0_5 A0_6 c0_6 l0_6 s1 0 _ HLn.out.2.1.1 HLn.out.2.1.2 HLn.out.2.2.1.1 HLn.out.2.2.1.2 HLn.out.2.2.2.1 HLn.out.2.2.2.2 HS.out
  go_enter Try.func5,Try.ntmps5
  go_wp2_with (first
   | (go_at_call 10;(with_reducible refine hc1.mono ?_);rintro r w2 ⟨rfl,hB⟩;clear bn0 bn1 bn2 bn3 bn4 bn5 bn6 ltn;(replace HLn:=Aside0.mk (HLn.out.below hB));(replace HB:=Aside0.mk (below_same HB.out hB));obtain ⟨⟨bn0,bn1,bn2,bn3,bn4,bn5,bn6⟩,_⟩:=HLn.out.1.cells;(have ltn:=HLn.out.1.lt);(have hc2:=left_calls k a0_0 a0_1 a0_2 a0_3 A0_4 c0_4 l0_4 A0_5 c0_5 l0_5 A0_6 c0_6 l0_6 s1 num nl1 nl2 num s1 nl5 nl6 nl7 0 _ HLn.out.2.1.1 HLn.out.2.1.2 HLn.out.2.2.1.1 HLn.out.2.2.1.2 HLn.out.2.2.2.1 HLn.out.2.2.2.2 HP.out);clear hB hc1)
   | (go_at_call 12;(with_reducible refine hc2.mono ?_);rintro r w3 ⟨v4,v5,v6,rfl,h4,h5,h6,hB⟩;clear bn0 bn1 bn2 bn3 bn4 bn5 bn6 ltn;obtain ⟨Anl4,cnl4,Anl5,cnl5,Anl6,cnl6,rfl,rfl,rfl,hv⟩:=ndv_of_CS h4 h5 h6;(replace HLn:=Aside0.mk (HLn.out.step hB (.cells #[.int .i64 nl1,.int .i64 nl2,.int .i64 num,.string s1,.slice Anl4 nl5.length cnl4,.slice Anl5 nl6.length cnl5,.slice Anl6 nl7.length cnl6] 25)));(replace HB:=Aside0.mk (below_next HB.out hB (.cells #[.int .i64 nl1,.int .i64 nl2,.int .i64 num,.string s1,.slice Anl4 nl5.length cnl4,.slice Anl5 nl6.length cnl5,.slice Anl6 nl7.length cnl6] 25)));(have HLnl:=Aside0.mk (hv.boxed nl1 nl2 num s1));obtain ⟨⟨bn0,bn1,bn2,bn3,bn4,bn5,bn6⟩,_⟩:=HLn.out.1.cells;(have ltn:=HLn.out.1.lt);(have hc3:=rest_calls k a0_0 a0_1 a0_2 a0_3 A0_4 c0_4 l0_4 A0_5 c0_5 l0_5 A0_6 c0_6 l0_6 s1 nr1 nr2 a0_2 a0_3 nr5 nr6 nr7 0 _ HLn.out.2.1.1 HLn.out.2.1.2 HLn.out.2.2.1.1 HLn.out.2.2.1.2 HLn.out.2.2.2.1 HLn.out.2.2.2.2 HQ.out);clear hB hv h4 h5 h6 hc2)
   | (go_at_call 14;(with_reducible refine hc3.mono ?_);rintro r w4 ⟨v4,v5,v6,rfl,h4,h5,h6,hB⟩;clear bn0 bn1 bn2 bn3 bn4 bn5 bn6 ltn;obtain ⟨Anr4,cnr4,Anr5,cnr5,Anr6,cnr6,rfl,rfl,rfl,hv⟩:=ndv_of_CS h4 h5 h6;(replace HLn:=Aside0.mk (HLn.out.step hB (.cells #[.int .i64 nr1,.int .i64 nr2,.int .i64 a0_2,.string a0_3,.slice Anr4 nr5.length cnr4,.slice Anr5 nr6.length cnr5,.slice Anr6 nr7.length cnr6] 25)));(replace HLnl:=Aside0.mk (HLnl.out.step hB (.cells #[.int .i64 nr1,.int .i64 nr2,.int .i64 a0_2,.string a0_3,.slice Anr4 nr5.length cnr4,.slice Anr5 nr6.length cnr5,.slice Anr6 nr7.length cnr6] 25)));(replace HB:=Aside0.mk (below_next HB.out hB (.cells #[.int .i64 nr1,.int .i64 nr2,.int .i64 a0_2,.string a0_3,.slice Anr4 nr5.length cnr4,.slice Anr5 nr6.length cnr5,.slice Anr6 nr7.length cnr6] 25)));(have HLnr:=Aside0.mk (hv.boxed nr1 nr2 a0_2 a0_3));obtain ⟨⟨bnl0,bnl1,bnl2,bnl3,bnl4,bnl5,bnl6⟩,_⟩:=HLnl.out.1.cells;(have ltnl:=HLnl.out.1.lt);obtain ⟨⟨bnr0,bnr1,bnr2,bnr3,bnr4,bnr5,bnr6⟩,_⟩:=HLnr.out.1.cells;(have ltnr:=HLnr.out.1.lt);obtain ⟨⟨bn0,bn1,bn2,bn3,bn4,bn5,bn6⟩,_⟩:=HLn.out.1.cells;(have ltn:=HLn.out.1.lt);(have hc4:=latticeref06_Right.calls k nl1 nl2 num s1 Anl4 cnl4 nl5 Anl5 cnl5 nl6 Anl6 cnl6 nl7 true _ HLnl.out.2.1.1 HLnl.out.2.1.2 HLnl.out.2.2.1.1 HLnl.out.2.2.1.2 HLnl.out.2.2.2.1 HLnl.out.2.2.2.2 HT.out);clear hB hv h4 h5 h6 hc3)
   | (go_at_call 24;(with_reducible refine hc4.mono ?_);rintro r w5 ⟨rfl,hB⟩;clear bnl0 bnl1 bnl2 bnl3 bnl4 bnl5 bnl6 ltnl bnr0 bnr1 bnr2 bnr3 bnr4 bnr5 bnr6 ltnr bn0 bn1 bn2 bn3 bn4 bn5 bn6 ltn;(replace HLn:=Aside0.mk (HLn.out.below hB));(replace HLnl:=Aside0.mk (HLnl.out.below hB));(replace HLnr:=Aside0.mk (HLnr.out.below hB));(replace HB:=Aside0.mk (below_same HB.out hB));obtain ⟨⟨bnl0,bnl1,bnl2,bnl3,bnl4,bnl5,bnl6⟩,_⟩:=HLnl.out.1.cells;(have ltnl:=HLnl.out.1.lt);obtain ⟨⟨bnr0,bnr1,bnr2,bnr3,bnr4,bnr5,bnr6⟩,_⟩:=HLnr.out.1.cells;(have ltnr:=HLnr.out.1.lt);obtain ⟨⟨bn0,bn1,bn2,bn3,bn4,bn5,bn6⟩,_⟩:=HLn.out.1.cells;(have ltn:=HLn.out.1.lt);(have hc5:=latticeref06_Right.calls k nr1 nr2 a0_2 a0_3 Anr4 cnr4 nr5 Anr5 cnr5 nr6 Anr6 cnr6 nr7 true _ HLnr.out.2.1.1 HLnr.out.2.1.2 HLnr.out.2.2.1.1 HLnr.out.2.2.1.2 HLnr.out.2.2.2.1 HLnr.out.2.2.2.2 HU.out);clear hB hc4)
   | (go_at_call 24;(with_reducible refine hc5.mono ?_);rintro r w6 ⟨rfl,hB⟩;clear bnl0 bnl1 bnl2 bnl3 bnl4 bnl5 bnl6 ltnl bnr0 bnr1 bnr2 bnr3 bnr4 bnr5 bnr6 ltnr bn0 bn1 bn2 bn3 bn4 bn5 bn6 ltn;(replace HLn:=Aside0.mk (HLn.out.below hB));(replace HLnl:=Aside0.mk (HLnl.out.below hB));(replace HLnr:=Aside0.mk (HLnr.out.below hB));(replace HB:=Aside0.mk (below_same HB.out hB));obtain ⟨⟨bnl0,bnl1,bnl2,bnl3,bnl4,bnl5,bnl6⟩,_⟩:=HLnl.out.1.cells;(have ltnl:=HLnl.out.1.lt);obtain ⟨⟨bnr0,bnr1,bnr2,bnr3,bnr4,bnr5,bnr6⟩,_⟩:=HLnr.out.1.cells;(have ltnr:=HLnr.out.1.lt);obtain ⟨⟨bn0,bn1,bn2,bn3,bn4,bn5,bn6⟩,_⟩:=HLn.out.1.cells;(have ltn:=HLn.out.1.lt);(have hc6:=check_nd kk c w6 HC.out);clear hB hc5)
   | (go_at_call 25;(with_reducible refine hc6.mono ?_);rintro r w7 ⟨rfl,hB⟩;clear bnl0 bnl1 bnl2 bnl3 bnl4 bnl5 bnl6 ltnl bnr0 bnr1 bnr2 bnr3 bnr4 bnr5 bnr6 ltnr bn0 bn1 bn2 bn3 bn4 bn5 bn6 ltn;(replace HLn:=Aside0.mk (HLn.out.below hB));(replace HLnl:=Aside0.mk (HLnl.out.below hB));(replace HLnr:=Aside0.mk (HLnr.out.below hB));(replace HB:=Aside0.mk (below_same HB.out hB));(have hc7:=speaks7_ok w7);clear hB hc6)
   | (go_at_call 17;(with_reducible refine hc7.mono ?_);rintro r w8 ⟨rfl,hB⟩;(replace HLn:=Aside0.mk (HLn.out.below hB));(replace HLnl:=Aside0.mk (HLnl.out.below hB));(replace HLnr:=Aside0.mk (HLnr.out.below hB));(replace HB:=Aside0.mk (below_same HB.out hB));clear hB hc7))
  go_ret
  exact ⟨rfl,HB.out⟩
 subst hc0
 rw [if_pos rfl] at h
 replace h:=Option.bind_eq_some_iff.1 h
 obtain ⟨fu,HF,h⟩:=h
 replace HF:=Aside0.mk HF
 cases fu with
 | true =>
  rw [if_pos rfl] at h
  injection h with h
  subst h
  obtain ⟨⟨bn0,bn1,bn2,bn3,bn4,bn5,bn6⟩,_⟩:=HLn.out.1.cells
  have ltn:=HLn.out.1.lt
  have hc1:=node_Split.calls k a0_0 a0_1 a0_2 a0_3 A0_4 c0_4 l0_4 A0_5 c0_5 l0_5 A0_6 c0_6 l0_6 s1 0 _ HLn.out.2.1.1 HLn.out.2.1.2 HLn.out.2.2.1.1 HLn.out.2.2.1.2 HLn.out.2.2.2.1 HLn.out.2.2.2.2 HS.out
  go_enter Try.func5,Try.ntmps5
  go_wp2_with (first
   | (go_at_call 10;(with_reducible refine hc1.mono ?_);rintro r w2 ⟨rfl,hB⟩;clear bn0 bn1 bn2 bn3 bn4 bn5 bn6 ltn;(replace HLn:=Aside0.mk (HLn.out.below hB));(replace HB:=Aside0.mk (below_same HB.out hB));obtain ⟨⟨bn0,bn1,bn2,bn3,bn4,bn5,bn6⟩,_⟩:=HLn.out.1.cells;(have ltn:=HLn.out.1.lt);(have hc2:=left_calls k a0_0 a0_1 a0_2 a0_3 A0_4 c0_4 l0_4 A0_5 c0_5 l0_5 A0_6 c0_6 l0_6 s1 num nl1 nl2 num s1 nl5 nl6 nl7 0 _ HLn.out.2.1.1 HLn.out.2.1.2 HLn.out.2.2.1.1 HLn.out.2.2.1.2 HLn.out.2.2.2.1 HLn.out.2.2.2.2 HP.out);clear hB hc1)
   | (go_at_call 12;(with_reducible refine hc2.mono ?_);rintro r w3 ⟨v4,v5,v6,rfl,h4,h5,h6,hB⟩;clear bn0 bn1 bn2 bn3 bn4 bn5 bn6 ltn;obtain ⟨Anl4,cnl4,Anl5,cnl5,Anl6,cnl6,rfl,rfl,rfl,hv⟩:=ndv_of_CS h4 h5 h6;(replace HLn:=Aside0.mk (HLn.out.step hB (.cells #[.int .i64 nl1,.int .i64 nl2,.int .i64 num,.string s1,.slice Anl4 nl5.length cnl4,.slice Anl5 nl6.length cnl5,.slice Anl6 nl7.length cnl6] 25)));(replace HB:=Aside0.mk (below_next HB.out hB (.cells #[.int .i64 nl1,.int .i64 nl2,.int .i64 num,.string s1,.slice Anl4 nl5.length cnl4,.slice Anl5 nl6.length cnl5,.slice Anl6 nl7.length cnl6] 25)));(have HLnl:=Aside0.mk (hv.boxed nl1 nl2 num s1));obtain ⟨⟨bn0,bn1,bn2,bn3,bn4,bn5,bn6⟩,_⟩:=HLn.out.1.cells;(have ltn:=HLn.out.1.lt);(have hc3:=rest_calls k a0_0 a0_1 a0_2 a0_3 A0_4 c0_4 l0_4 A0_5 c0_5 l0_5 A0_6 c0_6 l0_6 s1 nr1 nr2 a0_2 a0_3 nr5 nr6 nr7 0 _ HLn.out.2.1.1 HLn.out.2.1.2 HLn.out.2.2.1.1 HLn.out.2.2.1.2 HLn.out.2.2.2.1 HLn.out.2.2.2.2 HQ.out);clear hB hv h4 h5 h6 hc2)
   | (go_at_call 14;(with_reducible refine hc3.mono ?_);rintro r w4 ⟨v4,v5,v6,rfl,h4,h5,h6,hB⟩;clear bn0 bn1 bn2 bn3 bn4 bn5 bn6 ltn;obtain ⟨Anr4,cnr4,Anr5,cnr5,Anr6,cnr6,rfl,rfl,rfl,hv⟩:=ndv_of_CS h4 h5 h6;(replace HLn:=Aside0.mk (HLn.out.step hB (.cells #[.int .i64 nr1,.int .i64 nr2,.int .i64 a0_2,.string a0_3,.slice Anr4 nr5.length cnr4,.slice Anr5 nr6.length cnr5,.slice Anr6 nr7.length cnr6] 25)));(replace HLnl:=Aside0.mk (HLnl.out.step hB (.cells #[.int .i64 nr1,.int .i64 nr2,.int .i64 a0_2,.string a0_3,.slice Anr4 nr5.length cnr4,.slice Anr5 nr6.length cnr5,.slice Anr6 nr7.length cnr6] 25)));(replace HB:=Aside0.mk (below_next HB.out hB (.cells #[.int .i64 nr1,.int .i64 nr2,.int .i64 a0_2,.string a0_3,.slice Anr4 nr5.length cnr4,.slice Anr5 nr6.length cnr5,.slice Anr6 nr7.length cnr6] 25)));(have HLnr:=Aside0.mk (hv.boxed nr1 nr2 a0_2 a0_3));obtain ⟨⟨bnl0,bnl1,bnl2,bnl3,bnl4,bnl5,bnl6⟩,_⟩:=HLnl.out.1.cells;(have ltnl:=HLnl.out.1.lt);obtain ⟨⟨bnr0,bnr1,bnr2,bnr3,bnr4,bnr5,bnr6⟩,_⟩:=HLnr.out.1.cells;(have ltnr:=HLnr.out.1.lt);obtain ⟨⟨bn0,bn1,bn2,bn3,bn4,bn5,bn6⟩,_⟩:=HLn.out.1.cells;(have ltn:=HLn.out.1.lt);(have hc4:=latticeref06_Right.calls k nl1 nl2 num s1 Anl4 cnl4 nl5 Anl5 cnl5 nl6 Anl6 cnl6 nl7 true _ HLnl.out.2.1.1 HLnl.out.2.1.2 HLnl.out.2.2.1.1 HLnl.out.2.2.1.2 HLnl.out.2.2.2.1 HLnl.out.2.2.2.2 HT.out);clear hB hv h4 h5 h6 hc3)
   | (go_at_call 24;(with_reducible refine hc4.mono ?_);rintro r w5 ⟨rfl,hB⟩;clear bnl0 bnl1 bnl2 bnl3 bnl4 bnl5 bnl6 ltnl bnr0 bnr1 bnr2 bnr3 bnr4 bnr5 bnr6 ltnr bn0 bn1 bn2 bn3 bn4 bn5 bn6 ltn;(replace HLn:=Aside0.mk (HLn.out.below hB));(replace HLnl:=Aside0.mk (HLnl.out.below hB));(replace HLnr:=Aside0.mk (HLnr.out.below hB));(replace HB:=Aside0.mk (below_same HB.out hB));obtain ⟨⟨bnl0,bnl1,bnl2,bnl3,bnl4,bnl5,bnl6⟩,_⟩:=HLnl.out.1.cells;(have ltnl:=HLnl.out.1.lt);obtain ⟨⟨bnr0,bnr1,bnr2,bnr3,bnr4,bnr5,bnr6⟩,_⟩:=HLnr.out.1.cells;(have ltnr:=HLnr.out.1.lt);obtain ⟨⟨bn0,bn1,bn2,bn3,bn4,bn5,bn6⟩,_⟩:=HLn.out.1.cells;(have ltn:=HLn.out.1.lt);(have hc5:=latticeref06_Right.calls k nr1 nr2 a0_2 a0_3 Anr4 cnr4 nr5 Anr5 cnr5 nr6 Anr6 cnr6 nr7 true _ HLnr.out.2.1.1 HLnr.out.2.1.2 HLnr.out.2.2.1.1 HLnr.out.2.2.1.2 HLnr.out.2.2.2.1 HLnr.out.2.2.2.2 HU.out);clear hB hc4)
   | (go_at_call 24;(with_reducible refine hc5.mono ?_);rintro r w6 ⟨rfl,hB⟩;clear bnl0 bnl1 bnl2 bnl3 bnl4 bnl5 bnl6 ltnl bnr0 bnr1 bnr2 bnr3 bnr4 bnr5 bnr6 ltnr bn0 bn1 bn2 bn3 bn4 bn5 bn6 ltn;(replace HLn:=Aside0.mk (HLn.out.below hB));(replace HLnl:=Aside0.mk (HLnl.out.below hB));(replace HLnr:=Aside0.mk (HLnr.out.below hB));(replace HB:=Aside0.mk (below_same HB.out hB));obtain ⟨⟨bnl0,bnl1,bnl2,bnl3,bnl4,bnl5,bnl6⟩,_⟩:=HLnl.out.1.cells;(have ltnl:=HLnl.out.1.lt);obtain ⟨⟨bnr0,bnr1,bnr2,bnr3,bnr4,bnr5,bnr6⟩,_⟩:=HLnr.out.1.cells;(have ltnr:=HLnr.out.1.lt);obtain ⟨⟨bn0,bn1,bn2,bn3,bn4,bn5,bn6⟩,_⟩:=HLn.out.1.cells;(have ltn:=HLn.out.1.lt);(have hc6:=check_nd kk 0 w6 HC.out);clear hB hc5)
   | (go_at_call 25;(with_reducible refine hc6.mono ?_);rintro r w7 ⟨rfl,hB⟩;clear bnl0 bnl1 bnl2 bnl3 bnl4 bnl5 bnl6 ltnl bnr0 bnr1 bnr2 bnr3 bnr4 bnr5 bnr6 ltnr bn0 bn1 bn2 bn3 bn4 bn5 bn6 ltn;(replace HLn:=Aside0.mk (HLn.out.below hB));(replace HLnl:=Aside0.mk (HLnl.out.below hB));(replace HLnr:=Aside0.mk (HLnr.out.below hB));(replace HB:=Aside0.mk (below_same HB.out hB));obtain ⟨⟨bn0,bn1,bn2,bn3,bn4,bn5,bn6⟩,_⟩:=HLn.out.1.cells;(have ltn:=HLn.out.1.lt);(have hc7:=node_Further.calls a0_0 a0_1 a0_2 a0_3 A0_4 c0_4 l0_4 A0_5 c0_5 l0_5 A0_6 c0_6 l0_6 kk true _ HLn.out.2.1.1 HLn.out.2.1.2 HLn.out.2.2.1.1 HLn.out.2.2.1.2 HLn.out.2.2.2.1 HLn.out.2.2.2.2 HF.out);clear hB hc6)
   | (go_at_call 22;(with_reducible refine hc7.mono ?_);rintro r w8 ⟨rfl,hB⟩;clear bn0 bn1 bn2 bn3 bn4 bn5 bn6 ltn;(replace HLn:=Aside0.mk (HLn.out.below hB));(replace HLnl:=Aside0.mk (HLnl.out.below hB));(replace HLnr:=Aside0.mk (HLnr.out.below hB));(replace HB:=Aside0.mk (below_same HB.out hB));(have hc8:=speaks7_ok w8);clear hB hc7)
   | (go_at_call 17;(with_reducible refine hc8.mono ?_);rintro r w9 ⟨rfl,hB⟩;(replace HLn:=Aside0.mk (HLn.out.below hB));(replace HLnl:=Aside0.mk (HLnl.out.below hB));(replace HLnr:=Aside0.mk (HLnr.out.below hB));(replace HB:=Aside0.mk (below_same HB.out hB));clear hB hc8))
  go_ret
  exact ⟨rfl,HB.out⟩
 | false =>
  rw [if_neg (by decide)] at h
  replace h:=Option.bind_eq_some_iff.1 h
  obtain ⟨fl,HG,h⟩:=h
  replace HG:=Aside0.mk HG
  rw [if_neg HL0.out] at h
  by_cases hgt:a0_0 > 0
  case neg=>rw [if_neg hgt] at h;cases h
  rw [if_pos hgt] at h
  have dg1:decide (a0_0 > 0)=true:=decide_eq_true hgt
  have dg2:=eq_true hgt
  clear hgt
  unfold halvesI at h
  replace h:=Option.bind_eq_some_iff.1 h
  obtain ⟨⟨q1,q2⟩,HW,h⟩:=h
  replace HW:=Aside0.mk HW
  dsimp only at h
  cases fl with
  | true =>
   rw [if_pos rfl] at h
   replace h:=Option.bind_eq_some_iff.1 h
   obtain ⟨⟨x1,x2⟩,HX,h⟩:=h
   replace HX:=Aside0.mk HX
   by_cases hx:(x1,x2)=(q1,(0:Int))
   case neg=>rw [if_neg hx] at h;cases h
   rw [if_pos hx] at h
   simp only [Prod.mk.injEq] at hx
   obtain ⟨e1,e2⟩:=hx
   subst e1 e2
   injection h with h
   subst h
   obtain ⟨⟨bn0,bn1,bn2,bn3,bn4,bn5,bn6⟩,_⟩:=HLn.out.1.cells
   have ltn:=HLn.out.1.lt
   have hc1:=node_Split.calls k a0_0 a0_1 a0_2 a0_3 A0_4 c0_4 l0_4 A0_5 c0_5 l0_5 A0_6 c0_6 l0_6 s1 0 _ HLn.out.2.1.1 HLn.out.2.1.2 HLn.out.2.2.1.1 HLn.out.2.2.1.2 HLn.out.2.2.2.1 HLn.out.2.2.2.2 HS.out
   go_enter Try.func5,Try.ntmps5
   go_wp2_with (first
    | (go_at_call 10;(with_reducible refine hc1.mono ?_);rintro r w2 ⟨rfl,hB⟩;clear bn0 bn1 bn2 bn3 bn4 bn5 bn6 ltn;(replace HLn:=Aside0.mk (HLn.out.below hB));(replace HB:=Aside0.mk (below_same HB.out hB));obtain ⟨⟨bn0,bn1,bn2,bn3,bn4,bn5,bn6⟩,_⟩:=HLn.out.1.cells;(have ltn:=HLn.out.1.lt);(have hc2:=left_calls k a0_0 a0_1 a0_2 a0_3 A0_4 c0_4 l0_4 A0_5 c0_5 l0_5 A0_6 c0_6 l0_6 s1 num nl1 nl2 num s1 nl5 nl6 nl7 0 _ HLn.out.2.1.1 HLn.out.2.1.2 HLn.out.2.2.1.1 HLn.out.2.2.1.2 HLn.out.2.2.2.1 HLn.out.2.2.2.2 HP.out);clear hB hc1)
    | (go_at_call 12;(with_reducible refine hc2.mono ?_);rintro r w3 ⟨v4,v5,v6,rfl,h4,h5,h6,hB⟩;clear bn0 bn1 bn2 bn3 bn4 bn5 bn6 ltn;obtain ⟨Anl4,cnl4,Anl5,cnl5,Anl6,cnl6,rfl,rfl,rfl,hv⟩:=ndv_of_CS h4 h5 h6;(replace HLn:=Aside0.mk (HLn.out.step hB (.cells #[.int .i64 nl1,.int .i64 nl2,.int .i64 num,.string s1,.slice Anl4 nl5.length cnl4,.slice Anl5 nl6.length cnl5,.slice Anl6 nl7.length cnl6] 25)));(replace HB:=Aside0.mk (below_next HB.out hB (.cells #[.int .i64 nl1,.int .i64 nl2,.int .i64 num,.string s1,.slice Anl4 nl5.length cnl4,.slice Anl5 nl6.length cnl5,.slice Anl6 nl7.length cnl6] 25)));(have HLnl:=Aside0.mk (hv.boxed nl1 nl2 num s1));obtain ⟨⟨bn0,bn1,bn2,bn3,bn4,bn5,bn6⟩,_⟩:=HLn.out.1.cells;(have ltn:=HLn.out.1.lt);(have hc3:=rest_calls k a0_0 a0_1 a0_2 a0_3 A0_4 c0_4 l0_4 A0_5 c0_5 l0_5 A0_6 c0_6 l0_6 s1 nr1 nr2 a0_2 a0_3 nr5 nr6 nr7 0 _ HLn.out.2.1.1 HLn.out.2.1.2 HLn.out.2.2.1.1 HLn.out.2.2.1.2 HLn.out.2.2.2.1 HLn.out.2.2.2.2 HQ.out);clear hB hv h4 h5 h6 hc2)
    | (go_at_call 14;(with_reducible refine hc3.mono ?_);rintro r w4 ⟨v4,v5,v6,rfl,h4,h5,h6,hB⟩;clear bn0 bn1 bn2 bn3 bn4 bn5 bn6 ltn;obtain ⟨Anr4,cnr4,Anr5,cnr5,Anr6,cnr6,rfl,rfl,rfl,hv⟩:=ndv_of_CS h4 h5 h6;(replace HLn:=Aside0.mk (HLn.out.step hB (.cells #[.int .i64 nr1,.int .i64 nr2,.int .i64 a0_2,.string a0_3,.slice Anr4 nr5.length cnr4,.slice Anr5 nr6.length cnr5,.slice Anr6 nr7.length cnr6] 25)));(replace HLnl:=Aside0.mk (HLnl.out.step hB (.cells #[.int .i64 nr1,.int .i64 nr2,.int .i64 a0_2,.string a0_3,.slice Anr4 nr5.length cnr4,.slice Anr5 nr6.length cnr5,.slice Anr6 nr7.length cnr6] 25)));(replace HB:=Aside0.mk (below_next HB.out hB (.cells #[.int .i64 nr1,.int .i64 nr2,.int .i64 a0_2,.string a0_3,.slice Anr4 nr5.length cnr4,.slice Anr5 nr6.length cnr5,.slice Anr6 nr7.length cnr6] 25)));(have HLnr:=Aside0.mk (hv.boxed nr1 nr2 a0_2 a0_3));obtain ⟨⟨bnl0,bnl1,bnl2,bnl3,bnl4,bnl5,bnl6⟩,_⟩:=HLnl.out.1.cells;(have ltnl:=HLnl.out.1.lt);obtain ⟨⟨bnr0,bnr1,bnr2,bnr3,bnr4,bnr5,bnr6⟩,_⟩:=HLnr.out.1.cells;(have ltnr:=HLnr.out.1.lt);obtain ⟨⟨bn0,bn1,bn2,bn3,bn4,bn5,bn6⟩,_⟩:=HLn.out.1.cells;(have ltn:=HLn.out.1.lt);(have hc4:=latticeref06_Right.calls k nl1 nl2 num s1 Anl4 cnl4 nl5 Anl5 cnl5 nl6 Anl6 cnl6 nl7 true _ HLnl.out.2.1.1 HLnl.out.2.1.2 HLnl.out.2.2.1.1 HLnl.out.2.2.1.2 HLnl.out.2.2.2.1 HLnl.out.2.2.2.2 HT.out);clear hB hv h4 h5 h6 hc3)
    | (go_at_call 24;(with_reducible refine hc4.mono ?_);rintro r w5 ⟨rfl,hB⟩;clear bnl0 bnl1 bnl2 bnl3 bnl4 bnl5 bnl6 ltnl bnr0 bnr1 bnr2 bnr3 bnr4 bnr5 bnr6 ltnr bn0 bn1 bn2 bn3 bn4 bn5 bn6 ltn;(replace HLn:=Aside0.mk (HLn.out.below hB));(replace HLnl:=Aside0.mk (HLnl.out.below hB));(replace HLnr:=Aside0.mk (HLnr.out.below hB));(replace HB:=Aside0.mk (below_same HB.out hB));obtain ⟨⟨bnl0,bnl1,bnl2,bnl3,bnl4,bnl5,bnl6⟩,_⟩:=HLnl.out.1.cells;(have ltnl:=HLnl.out.1.lt);obtain ⟨⟨bnr0,bnr1,bnr2,bnr3,bnr4,bnr5,bnr6⟩,_⟩:=HLnr.out.1.cells;(have ltnr:=HLnr.out.1.lt);obtain ⟨⟨bn0,bn1,bn2,bn3,bn4,bn5,bn6⟩,_⟩:=HLn.out.1.cells;(have ltn:=HLn.out.1.lt);(have hc5:=latticeref06_Right.calls k nr1 nr2 a0_2 a0_3 Anr4 cnr4 nr5 Anr5 cnr5 nr6 Anr6 cnr6 nr7 true _ HLnr.out.2.1.1 HLnr.out.2.1.2 HLnr.out.2.2.1.1 HLnr.out.2.2.1.2 HLnr.out.2.2.2.1 HLnr.out.2.2.2.2 HU.out);clear hB hc4)
    | (go_at_call 24;(with_reducible refine hc5.mono ?_);rintro r w6 ⟨rfl,hB⟩;clear bnl0 bnl1 bnl2 bnl3 bnl4 bnl5 bnl6 ltnl bnr0 bnr1 bnr2 bnr3 bnr4 bnr5 bnr6 ltnr bn0 bn1 bn2 bn3 bn4 bn5 bn6 ltn;(replace HLn:=Aside0.mk (HLn.out.below hB));(replace HLnl:=Aside0.mk (HLnl.out.below hB));(replace HLnr:=Aside0.mk (HLnr.out.below hB));(replace HB:=Aside0.mk (below_same HB.out hB));obtain ⟨⟨bnl0,bnl1,bnl2,bnl3,bnl4,bnl5,bnl6⟩,_⟩:=HLnl.out.1.cells;(have ltnl:=HLnl.out.1.lt);obtain ⟨⟨bnr0,bnr1,bnr2,bnr3,bnr4,bnr5,bnr6⟩,_⟩:=HLnr.out.1.cells;(have ltnr:=HLnr.out.1.lt);obtain ⟨⟨bn0,bn1,bn2,bn3,bn4,bn5,bn6⟩,_⟩:=HLn.out.1.cells;(have ltn:=HLn.out.1.lt);(have hc6:=check_nd kk 0 w6 HC.out);clear hB hc5)
    | (go_at_call 25;(with_reducible refine hc6.mono ?_);rintro r w7 ⟨rfl,hB⟩;clear bnl0 bnl1 bnl2 bnl3 bnl4 bnl5 bnl6 ltnl bnr0 bnr1 bnr2 bnr3 bnr4 bnr5 bnr6 ltnr bn0 bn1 bn2 bn3 bn4 bn5 bn6 ltn;(replace HLn:=Aside0.mk (HLn.out.below hB));(replace HLnl:=Aside0.mk (HLnl.out.below hB));(replace HLnr:=Aside0.mk (HLnr.out.below hB));(replace HB:=Aside0.mk (below_same HB.out hB));obtain ⟨⟨bn0,bn1,bn2,bn3,bn4,bn5,bn6⟩,_⟩:=HLn.out.1.cells;(have ltn:=HLn.out.1.lt);(have hc7:=node_Further.calls a0_0 a0_1 a0_2 a0_3 A0_4 c0_4 l0_4 A0_5 c0_5 l0_5 A0_6 c0_6 l0_6 kk false _ HLn.out.2.1.1 HLn.out.2.1.2 HLn.out.2.2.1.1 HLn.out.2.2.1.2 HLn.out.2.2.2.1 HLn.out.2.2.2.2 HF.out);clear hB hc6)
    | (go_at_call 22;(with_reducible refine hc7.mono ?_);rintro r w8 ⟨rfl,hB⟩;clear bn0 bn1 bn2 bn3 bn4 bn5 bn6 ltn;(replace HLn:=Aside0.mk (HLn.out.below hB));(replace HLnl:=Aside0.mk (HLnl.out.below hB));(replace HLnr:=Aside0.mk (HLnr.out.below hB));(replace HB:=Aside0.mk (below_same HB.out hB));obtain ⟨⟨bn0,bn1,bn2,bn3,bn4,bn5,bn6⟩,_⟩:=HLn.out.1.cells;(have ltn:=HLn.out.1.lt);(have hc8:=node_Kid.calls k a0_0 a0_1 a0_2 a0_3 A0_4 c0_4 l0_4 A0_5 c0_5 l0_5 A0_6 c0_6 l0_6 kk x1 q2 _ HLn.out.2.1.1 HLn.out.2.1.2 HLn.out.2.2.1.1 HLn.out.2.2.1.2 HLn.out.2.2.2.1 HLn.out.2.2.2.2 HW.out);clear hB hc7)
    | (go_at_call 20;(with_reducible refine hc8.mono ?_);rintro r w9 ⟨rfl,hB⟩;clear bn0 bn1 bn2 bn3 bn4 bn5 bn6 ltn;(replace HLn:=Aside0.mk (HLn.out.below hB));(replace HLnl:=Aside0.mk (HLnl.out.below hB));(replace HLnr:=Aside0.mk (HLnr.out.below hB));(replace HB:=Aside0.mk (below_same HB.out hB));obtain ⟨⟨bnl0,bnl1,bnl2,bnl3,bnl4,bnl5,bnl6⟩,_⟩:=HLnl.out.1.cells;(have ltnl:=HLnl.out.1.lt);(have hc9:=node_Further.calls nl1 nl2 num s1 Anl4 cnl4 nl5 Anl5 cnl5 nl6 Anl6 cnl6 nl7 kk true _ HLnl.out.2.1.1 HLnl.out.2.1.2 HLnl.out.2.2.1.1 HLnl.out.2.2.1.2 HLnl.out.2.2.2.1 HLnl.out.2.2.2.2 HG.out);clear hB hc8)
    | (go_at_call 22;(with_reducible refine hc9.mono ?_);rintro r w10 ⟨rfl,hB⟩;clear bnl0 bnl1 bnl2 bnl3 bnl4 bnl5 bnl6 ltnl;(replace HLn:=Aside0.mk (HLn.out.below hB));(replace HLnl:=Aside0.mk (HLnl.out.below hB));(replace HLnr:=Aside0.mk (HLnr.out.below hB));(replace HB:=Aside0.mk (below_same HB.out hB));obtain ⟨⟨bnr0,bnr1,bnr2,bnr3,bnr4,bnr5,bnr6⟩,_⟩:=HLnr.out.1.cells;(have ltnr:=HLnr.out.1.lt);(have hc10:=node_Kid.calls k nr1 nr2 a0_2 a0_3 Anr4 cnr4 nr5 Anr5 cnr5 nr6 Anr6 cnr6 nr7 kk x1 0 _ HLnr.out.2.1.1 HLnr.out.2.1.2 HLnr.out.2.2.1.1 HLnr.out.2.2.1.2 HLnr.out.2.2.2.1 HLnr.out.2.2.2.2 HX.out);clear hB hc9)
    | (go_at_call 20;(with_reducible refine hc10.mono ?_);rintro r w11 ⟨rfl,hB⟩;clear bnr0 bnr1 bnr2 bnr3 bnr4 bnr5 bnr6 ltnr;(replace HLn:=Aside0.mk (HLn.out.below hB));(replace HLnl:=Aside0.mk (HLnl.out.below hB));(replace HLnr:=Aside0.mk (HLnr.out.below hB));(replace HB:=Aside0.mk (below_same HB.out hB));(have hc11:=speaks7_ok w11);clear hB hc10)
    | (go_at_call 17;(with_reducible refine hc11.mono ?_);rintro r w12 ⟨rfl,hB⟩;(replace HLn:=Aside0.mk (HLn.out.below hB));(replace HLnl:=Aside0.mk (HLnl.out.below hB));(replace HLnr:=Aside0.mk (HLnr.out.below hB));(replace HB:=Aside0.mk (below_same HB.out hB));clear hB hc11))
   go_ret
   exact ⟨rfl,HB.out⟩
  | false =>
   rw [if_neg (by decide)] at h
   replace h:=Option.bind_eq_some_iff.1 h
   obtain ⟨⟨x1,x2⟩,HX,h⟩:=h
   replace HX:=Aside0.mk HX
   by_cases hx:(x1,x2)=(q1,(0:Int))
   case neg=>rw [if_neg hx] at h;cases h
   rw [if_pos hx] at h
   simp only [Prod.mk.injEq] at hx
   obtain ⟨e1,e2⟩:=hx
   subst e1 e2
   injection h with h
   subst h
   obtain ⟨⟨bn0,bn1,bn2,bn3,bn4,bn5,bn6⟩,_⟩:=HLn.out.1.cells
   have ltn:=HLn.out.1.lt
   have hc1:=node_Split.calls k a0_0 a0_1 a0_2 a0_3 A0_4 c0_4 l0_4 A0_5 c0_5 l0_5 A0_6 c0_6 l0_6 s1 0 _ HLn.out.2.1.1 HLn.out.2.1.2 HLn.out.2.2.1.1 HLn.out.2.2.1.2 HLn.out.2.2.2.1 HLn.out.2.2.2.2 HS.out
   go_enter Try.func5,Try.ntmps5
   go_wp2_with (first
    | (go_at_call 10;(with_reducible refine hc1.mono ?_);rintro r w2 ⟨rfl,hB⟩;clear bn0 bn1 bn2 bn3 bn4 bn5 bn6 ltn;(replace HLn:=Aside0.mk (HLn.out.below hB));(replace HB:=Aside0.mk (below_same HB.out hB));obtain ⟨⟨bn0,bn1,bn2,bn3,bn4,bn5,bn6⟩,_⟩:=HLn.out.1.cells;(have ltn:=HLn.out.1.lt);(have hc2:=left_calls k a0_0 a0_1 a0_2 a0_3 A0_4 c0_4 l0_4 A0_5 c0_5 l0_5 A0_6 c0_6 l0_6 s1 num nl1 nl2 num s1 nl5 nl6 nl7 0 _ HLn.out.2.1.1 HLn.out.2.1.2 HLn.out.2.2.1.1 HLn.out.2.2.1.2 HLn.out.2.2.2.1 HLn.out.2.2.2.2 HP.out);clear hB hc1)
    | (go_at_call 12;(with_reducible refine hc2.mono ?_);rintro r w3 ⟨v4,v5,v6,rfl,h4,h5,h6,hB⟩;clear bn0 bn1 bn2 bn3 bn4 bn5 bn6 ltn;obtain ⟨Anl4,cnl4,Anl5,cnl5,Anl6,cnl6,rfl,rfl,rfl,hv⟩:=ndv_of_CS h4 h5 h6;(replace HLn:=Aside0.mk (HLn.out.step hB (.cells #[.int .i64 nl1,.int .i64 nl2,.int .i64 num,.string s1,.slice Anl4 nl5.length cnl4,.slice Anl5 nl6.length cnl5,.slice Anl6 nl7.length cnl6] 25)));(replace HB:=Aside0.mk (below_next HB.out hB (.cells #[.int .i64 nl1,.int .i64 nl2,.int .i64 num,.string s1,.slice Anl4 nl5.length cnl4,.slice Anl5 nl6.length cnl5,.slice Anl6 nl7.length cnl6] 25)));(have HLnl:=Aside0.mk (hv.boxed nl1 nl2 num s1));obtain ⟨⟨bn0,bn1,bn2,bn3,bn4,bn5,bn6⟩,_⟩:=HLn.out.1.cells;(have ltn:=HLn.out.1.lt);(have hc3:=rest_calls k a0_0 a0_1 a0_2 a0_3 A0_4 c0_4 l0_4 A0_5 c0_5 l0_5 A0_6 c0_6 l0_6 s1 nr1 nr2 a0_2 a0_3 nr5 nr6 nr7 0 _ HLn.out.2.1.1 HLn.out.2.1.2 HLn.out.2.2.1.1 HLn.out.2.2.1.2 HLn.out.2.2.2.1 HLn.out.2.2.2.2 HQ.out);clear hB hv h4 h5 h6 hc2)
    | (go_at_call 14;(with_reducible refine hc3.mono ?_);rintro r w4 ⟨v4,v5,v6,rfl,h4,h5,h6,hB⟩;clear bn0 bn1 bn2 bn3 bn4 bn5 bn6 ltn;obtain ⟨Anr4,cnr4,Anr5,cnr5,Anr6,cnr6,rfl,rfl,rfl,hv⟩:=ndv_of_CS h4 h5 h6;(replace HLn:=Aside0.mk (HLn.out.step hB (.cells #[.int .i64 nr1,.int .i64 nr2,.int .i64 a0_2,.string a0_3,.slice Anr4 nr5.length cnr4,.slice Anr5 nr6.length cnr5,.slice Anr6 nr7.length cnr6] 25)));(replace HLnl:=Aside0.mk (HLnl.out.step hB (.cells #[.int .i64 nr1,.int .i64 nr2,.int .i64 a0_2,.string a0_3,.slice Anr4 nr5.length cnr4,.slice Anr5 nr6.length cnr5,.slice Anr6 nr7.length cnr6] 25)));(replace HB:=Aside0.mk (below_next HB.out hB (.cells #[.int .i64 nr1,.int .i64 nr2,.int .i64 a0_2,.string a0_3,.slice Anr4 nr5.length cnr4,.slice Anr5 nr6.length cnr5,.slice Anr6 nr7.length cnr6] 25)));(have HLnr:=Aside0.mk (hv.boxed nr1 nr2 a0_2 a0_3));obtain ⟨⟨bnl0,bnl1,bnl2,bnl3,bnl4,bnl5,bnl6⟩,_⟩:=HLnl.out.1.cells;(have ltnl:=HLnl.out.1.lt);obtain ⟨⟨bnr0,bnr1,bnr2,bnr3,bnr4,bnr5,bnr6⟩,_⟩:=HLnr.out.1.cells;(have ltnr:=HLnr.out.1.lt);obtain ⟨⟨bn0,bn1,bn2,bn3,bn4,bn5,bn6⟩,_⟩:=HLn.out.1.cells;(have ltn:=HLn.out.1.lt);(have hc4:=latticeref06_Right.calls k nl1 nl2 num s1 Anl4 cnl4 nl5 Anl5 cnl5 nl6 Anl6 cnl6 nl7 true _ HLnl.out.2.1.1 HLnl.out.2.1.2 HLnl.out.2.2.1.1 HLnl.out.2.2.1.2 HLnl.out.2.2.2.1 HLnl.out.2.2.2.2 HT.out);clear hB hv h4 h5 h6 hc3)
    | (go_at_call 24;(with_reducible refine hc4.mono ?_);rintro r w5 ⟨rfl,hB⟩;clear bnl0 bnl1 bnl2 bnl3 bnl4 bnl5 bnl6 ltnl bnr0 bnr1 bnr2 bnr3 bnr4 bnr5 bnr6 ltnr bn0 bn1 bn2 bn3 bn4 bn5 bn6 ltn;(replace HLn:=Aside0.mk (HLn.out.below hB));(replace HLnl:=Aside0.mk (HLnl.out.below hB));(replace HLnr:=Aside0.mk (HLnr.out.below hB));(replace HB:=Aside0.mk (below_same HB.out hB));obtain ⟨⟨bnl0,bnl1,bnl2,bnl3,bnl4,bnl5,bnl6⟩,_⟩:=HLnl.out.1.cells;(have ltnl:=HLnl.out.1.lt);obtain ⟨⟨bnr0,bnr1,bnr2,bnr3,bnr4,bnr5,bnr6⟩,_⟩:=HLnr.out.1.cells;(have ltnr:=HLnr.out.1.lt);obtain ⟨⟨bn0,bn1,bn2,bn3,bn4,bn5,bn6⟩,_⟩:=HLn.out.1.cells;(have ltn:=HLn.out.1.lt);(have hc5:=latticeref06_Right.calls k nr1 nr2 a0_2 a0_3 Anr4 cnr4 nr5 Anr5 cnr5 nr6 Anr6 cnr6 nr7 true _ HLnr.out.2.1.1 HLnr.out.2.1.2 HLnr.out.2.2.1.1 HLnr.out.2.2.1.2 HLnr.out.2.2.2.1 HLnr.out.2.2.2.2 HU.out);clear hB hc4)
    | (go_at_call 24;(with_reducible refine hc5.mono ?_);rintro r w6 ⟨rfl,hB⟩;clear bnl0 bnl1 bnl2 bnl3 bnl4 bnl5 bnl6 ltnl bnr0 bnr1 bnr2 bnr3 bnr4 bnr5 bnr6 ltnr bn0 bn1 bn2 bn3 bn4 bn5 bn6 ltn;(replace HLn:=Aside0.mk (HLn.out.below hB));(replace HLnl:=Aside0.mk (HLnl.out.below hB));(replace HLnr:=Aside0.mk (HLnr.out.below hB));(replace HB:=Aside0.mk (below_same HB.out hB));obtain ⟨⟨bnl0,bnl1,bnl2,bnl3,bnl4,bnl5,bnl6⟩,_⟩:=HLnl.out.1.cells;(have ltnl:=HLnl.out.1.lt);obtain ⟨⟨bnr0,bnr1,bnr2,bnr3,bnr4,bnr5,bnr6⟩,_⟩:=HLnr.out.1.cells;(have ltnr:=HLnr.out.1.lt);obtain ⟨⟨bn0,bn1,bn2,bn3,bn4,bn5,bn6⟩,_⟩:=HLn.out.1.cells;(have ltn:=HLn.out.1.lt);(have hc6:=check_nd kk 0 w6 HC.out);clear hB hc5)
    | (go_at_call 25;(with_reducible refine hc6.mono ?_);rintro r w7 ⟨rfl,hB⟩;clear bnl0 bnl1 bnl2 bnl3 bnl4 bnl5 bnl6 ltnl bnr0 bnr1 bnr2 bnr3 bnr4 bnr5 bnr6 ltnr bn0 bn1 bn2 bn3 bn4 bn5 bn6 ltn;(replace HLn:=Aside0.mk (HLn.out.below hB));(replace HLnl:=Aside0.mk (HLnl.out.below hB));(replace HLnr:=Aside0.mk (HLnr.out.below hB));(replace HB:=Aside0.mk (below_same HB.out hB));obtain ⟨⟨bn0,bn1,bn2,bn3,bn4,bn5,bn6⟩,_⟩:=HLn.out.1.cells;(have ltn:=HLn.out.1.lt);(have hc7:=node_Further.calls a0_0 a0_1 a0_2 a0_3 A0_4 c0_4 l0_4 A0_5 c0_5 l0_5 A0_6 c0_6 l0_6 kk false _ HLn.out.2.1.1 HLn.out.2.1.2 HLn.out.2.2.1.1 HLn.out.2.2.1.2 HLn.out.2.2.2.1 HLn.out.2.2.2.2 HF.out);clear hB hc6)
    | (go_at_call 22;(with_reducible refine hc7.mono ?_);rintro r w8 ⟨rfl,hB⟩;clear bn0 bn1 bn2 bn3 bn4 bn5 bn6 ltn;(replace HLn:=Aside0.mk (HLn.out.below hB));(replace HLnl:=Aside0.mk (HLnl.out.below hB));(replace HLnr:=Aside0.mk (HLnr.out.below hB));(replace HB:=Aside0.mk (below_same HB.out hB));obtain ⟨⟨bn0,bn1,bn2,bn3,bn4,bn5,bn6⟩,_⟩:=HLn.out.1.cells;(have ltn:=HLn.out.1.lt);(have hc8:=node_Kid.calls k a0_0 a0_1 a0_2 a0_3 A0_4 c0_4 l0_4 A0_5 c0_5 l0_5 A0_6 c0_6 l0_6 kk x1 q2 _ HLn.out.2.1.1 HLn.out.2.1.2 HLn.out.2.2.1.1 HLn.out.2.2.1.2 HLn.out.2.2.2.1 HLn.out.2.2.2.2 HW.out);clear hB hc7)
    | (go_at_call 20;(with_reducible refine hc8.mono ?_);rintro r w9 ⟨rfl,hB⟩;clear bn0 bn1 bn2 bn3 bn4 bn5 bn6 ltn;(replace HLn:=Aside0.mk (HLn.out.below hB));(replace HLnl:=Aside0.mk (HLnl.out.below hB));(replace HLnr:=Aside0.mk (HLnr.out.below hB));(replace HB:=Aside0.mk (below_same HB.out hB));obtain ⟨⟨bnl0,bnl1,bnl2,bnl3,bnl4,bnl5,bnl6⟩,_⟩:=HLnl.out.1.cells;(have ltnl:=HLnl.out.1.lt);(have hc9:=node_Further.calls nl1 nl2 num s1 Anl4 cnl4 nl5 Anl5 cnl5 nl6 Anl6 cnl6 nl7 kk false _ HLnl.out.2.1.1 HLnl.out.2.1.2 HLnl.out.2.2.1.1 HLnl.out.2.2.1.2 HLnl.out.2.2.2.1 HLnl.out.2.2.2.2 HG.out);clear hB hc8)
    | (go_at_call 22;(with_reducible refine hc9.mono ?_);rintro r w10 ⟨rfl,hB⟩;clear bnl0 bnl1 bnl2 bnl3 bnl4 bnl5 bnl6 ltnl;(replace HLn:=Aside0.mk (HLn.out.below hB));(replace HLnl:=Aside0.mk (HLnl.out.below hB));(replace HLnr:=Aside0.mk (HLnr.out.below hB));(replace HB:=Aside0.mk (below_same HB.out hB));obtain ⟨⟨bnl0,bnl1,bnl2,bnl3,bnl4,bnl5,bnl6⟩,_⟩:=HLnl.out.1.cells;(have ltnl:=HLnl.out.1.lt);(have hc10:=node_Kid.calls k nl1 nl2 num s1 Anl4 cnl4 nl5 Anl5 cnl5 nl6 Anl6 cnl6 nl7 kk x1 0 _ HLnl.out.2.1.1 HLnl.out.2.1.2 HLnl.out.2.2.1.1 HLnl.out.2.2.1.2 HLnl.out.2.2.2.1 HLnl.out.2.2.2.2 HX.out);clear hB hc9)
    | (go_at_call 20;(with_reducible refine hc10.mono ?_);rintro r w11 ⟨rfl,hB⟩;clear bnl0 bnl1 bnl2 bnl3 bnl4 bnl5 bnl6 ltnl;(replace HLn:=Aside0.mk (HLn.out.below hB));(replace HLnl:=Aside0.mk (HLnl.out.below hB));(replace HLnr:=Aside0.mk (HLnr.out.below hB));(replace HB:=Aside0.mk (below_same HB.out hB));(have hc11:=speaks7_ok w11);clear hB hc10)
    | (go_at_call 17;(with_reducible refine hc11.mono ?_);rintro r w12 ⟨rfl,hB⟩;(replace HLn:=Aside0.mk (HLn.out.below hB));(replace HLnl:=Aside0.mk (HLnl.out.below hB));(replace HLnr:=Aside0.mk (HLnr.out.below hB));(replace HB:=Aside0.mk (below_same HB.out hB));clear hB hc11))
   go_ret
   exact ⟨rfl,HB.out⟩
end Go.Proofs.Ytcocmpblmkdmjaa.Pr
