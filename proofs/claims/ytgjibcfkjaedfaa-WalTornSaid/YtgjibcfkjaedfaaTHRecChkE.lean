-- Parts melded by a program of this session.
import Derived.Test.YtgjibcfkjaedfaaTHRecChkP
namespace Go.Proofs.Ytgjibcfkjaedfaa.Rec
open Go.RowKit Go.Proofs.YtgjibcfkjaedfaaW.PrintWords Go.Proofs.YtgjibcfkjaedfaaW.PrintLast Go.Proofs.YtgjibcfkjaedfaaW.PrintMore Go.Proofs.Ytgjibcfkjaedfaa.Wire Go.Proofs.Ytgjibcfkjaedfaa.Crc Go.Proofs.Ytgjibcfkjaedfaa.Pr Go.Proofs.Ytgjibcfkjaedfaa.Page
open Go.Proofs.Ytgjibcfkjaedfaa.Back (AllB)
open Go.Proofs.Ytgjibcfkjaedfaa.Pure
set_option linter.unusedVariables false
set_option linter.unusedSimpArgs false
set_option maxHeartbeats 16000000 in
set_option maxRecDepth 100000 in
theorem chk7 (lsn epoch page other req:Int) (key value:ByteArray) (hv:value.size≤140737488351232) (ha:1≤lsn∧lsn≤1099511627776∧0≤epoch∧epoch≤1099511627776) (w:World) :
  Calls Try.prog 55 #[.agg #[.int .i64 lsn,.int .i64 epoch,.int .i64 7,.int .i64 page,.int .i64 other,.int .i64 req,.string key,.string value]] w fun e w'=>e=.returned (.int .i64 (if rightB lsn epoch 7 page other req key value=true then 0 else 90))∧Below w.heap.size w w':=by
 obtain ⟨kc,hkc0⟩:∃ kc,ckey key=kc:=⟨_,rfl⟩
 have hkc:=fun W=>key_Check.calls key kc W (by rw [← hkc0];exact keyCheck key)
 obtain ⟨vc,hvc0⟩:∃ vc,(if badV value=true then (51:Int) else 0)=vc:=⟨_,rfl⟩
 have hvc:=fun W=>key_Value.calls value vc W (by rw [← hvc0];exact value_f value)
 obtain ⟨kb,hkb⟩:∃ kb,(kc==0)=kb:=⟨_,rfl⟩
 obtain ⟨vb,hvb⟩:∃ vb,(vc==0)=vb:=⟨_,rfl⟩
 have HKB:Aside0 (keyB key=kb):=⟨by unfold keyB;rw [hkc0,← hkb];rfl⟩
 have HVB:Aside0 (valB value=vb):=⟨by unfold valB;rw [← hvb,← hvc0];cases badV value <;> rfl⟩
 clear hkc0 hvc0
 obtain ⟨pb,hpb⟩:∃ b,pagedB page=b:=⟨_,rfl⟩
 obtain ⟨ob,hob⟩:∃ b,pagedB other=b:=⟨_,rfl⟩
 have hpg:=fun W=>record_paged.calls page pb W (by rw [← hpb];exact paged_f page)
 have hpo:=fun W=>record_paged.calls other ob W (by rw [← hob];exact paged_f other)
 obtain ⟨im,him⟩:∃ b,imageB value=b:=⟨_,rfl⟩
 have HIM:=Aside0.mk (fun W=>image_ok value hv W)
 rw [him] at HIM
 have HPB:=Aside0.mk hpb
 have HOB:=Aside0.mk hob
 have HIB:=Aside0.mk him
 clear hpb hob him hv
 have a1:(1≤lsn)=True:=eq_true (by omega)
 have a2:(lsn≤1099511627776)=True:=eq_true (by omega)
 have a3:(0≤epoch)=True:=eq_true (by omega)
 have a4:(epoch≤1099511627776)=True:=eq_true (by omega)
 have a5:decide (1≤lsn)=true:=decide_eq_true (by omega)
 have a6:decide (lsn≤1099511627776)=true:=decide_eq_true (by omega)
 have a7:decide (0≤epoch)=true:=decide_eq_true (by omega)
 have a8:decide (epoch≤1099511627776)=true:=decide_eq_true (by omega)
 have HBV:Aside0 (value.toList=[]→vb=true):=⟨fun h=>by
  rw [← HVB.out]
  have:=(tl_nil value).1 h
  unfold valB badV
  rw [decide_eq_false (by omega)]
  rfl⟩
 obtain ⟨D,hR⟩:∃ D:Int,(if rightB lsn epoch 7 page other req key value=true then 0 else 90)=D:=⟨_,rfl⟩
 have HR:Aside0 (D=if (decide (page=0)&&((decide (other=1)&&vb) || (decide (other=2)&&noText value))&&decide (1≤req∧req≤1099511627776)&&kb)=true then 0 else 90):=⟨by rw [← hR];unfold rightB;rw [decide_eq_true ha,Bool.true_and,if_pos rfl,HVB.out,HKB.out]⟩
 rw [hR]
 clear hR ha HKB HVB HPB HOB HIB
 have HB:=Aside0.mk (below_alloc (Below.refl w.heap.size w) (.cells #[.int .i64 lsn,.int .i64 epoch,.int .i64 7,.int .i64 page,.int .i64 other,.int .i64 req,.string key,.string value] 53))
 have hrc:=rc_new w lsn epoch 7 page other req key value
 have HRC:=Aside0.mk hrc
 obtain ⟨⟨b0,b1,b2,b3,b4,b5,b6,b7⟩,_⟩:=hrc.cells
 clear hrc
 by_cases ht:value.toList=[]
 ·have hvt:=HBV.out ht
  have t1:(value.toList==[])=true:=beq_iff_eq.2 ht
  subst hvt
  go_enter Try.func55,Try.ntmps55
  go_wp2_with (first|(go_at_call 72;(with_reducible refine (hkc _).mono ?_);rintro e w2 ⟨rfl,⟨nd,rfl⟩⟩)|(go_at_call 71;(with_reducible refine (hvc _).mono ?_);rintro e w2 ⟨rfl,⟨nd,rfl⟩⟩)|(go_at_call 69;(with_reducible refine (hpg _).mono ?_);rintro e w2 ⟨rfl,⟨nd,rfl⟩⟩)|(go_at_call 69;(with_reducible refine (hpo _).mono ?_);rintro e w2 ⟨rfl,⟨nd,rfl⟩⟩))
  all_goals
   go_ret
   refine ⟨?_,?_⟩
   ·rw [HR.out]
    congr 1
    congr 1
    first
     | (simp [*,noText];done)
     | (simp [*,noText];intros;omega)
   ·repeat (first|exact HB.out|exact below_alloc (Below.refl _ _) _|refine below_drewN0 ?_ _)
 ·have t1:(value.toList==[])=false:=beq_eq_false_iff_ne.2 ht
  go_enter Try.func55,Try.ntmps55
  go_wp2_with (first|(go_at_call 72;(with_reducible refine (hkc _).mono ?_);rintro e w2 ⟨rfl,⟨nd,rfl⟩⟩)|(go_at_call 71;(with_reducible refine (hvc _).mono ?_);rintro e w2 ⟨rfl,⟨nd,rfl⟩⟩)|(go_at_call 69;(with_reducible refine (hpg _).mono ?_);rintro e w2 ⟨rfl,⟨nd,rfl⟩⟩)|(go_at_call 69;(with_reducible refine (hpo _).mono ?_);rintro e w2 ⟨rfl,⟨nd,rfl⟩⟩))
  all_goals
   go_ret
   refine ⟨?_,?_⟩
   ·rw [HR.out]
    congr 1
    congr 1
    first
     | (simp [*,noText];done)
     | (simp [*,noText];intros;omega)
   ·repeat (first|exact HB.out|exact below_alloc (Below.refl _ _) _|refine below_drewN0 ?_ _)
end Go.Proofs.Ytgjibcfkjaedfaa.Rec


-- A part of the text RecChkD, thinned by a program of this session.
namespace Go.Proofs.Ytgjibcfkjaedfaa.Rec
open Go.RowKit Go.Proofs.YtgjibcfkjaedfaaW.PrintWords Go.Proofs.YtgjibcfkjaedfaaW.PrintLast Go.Proofs.YtgjibcfkjaedfaaW.PrintMore Go.Proofs.Ytgjibcfkjaedfaa.Wire Go.Proofs.Ytgjibcfkjaedfaa.Crc Go.Proofs.Ytgjibcfkjaedfaa.Pr Go.Proofs.Ytgjibcfkjaedfaa.Page
open Go.Proofs.Ytgjibcfkjaedfaa.Back (AllB)
open Go.Proofs.Ytgjibcfkjaedfaa.Pure
set_option linter.unusedVariables false
set_option linter.unusedSimpArgs false
set_option maxHeartbeats 16000000 in
set_option maxRecDepth 100000 in
theorem chkN (lsn epoch kind page other req:Int) (key value:ByteArray) (hv:value.size≤140737488351232) (ha:¬ (1≤lsn∧lsn≤1099511627776∧0≤epoch∧epoch≤1099511627776)) (w:World) :
  Calls Try.prog 55 #[.agg #[.int .i64 lsn,.int .i64 epoch,.int .i64 kind,.int .i64 page,.int .i64 other,.int .i64 req,.string key,.string value]] w fun e w'=>e=.returned (.int .i64 (90))∧Below w.heap.size w w':=by
 obtain ⟨kc,hkc0⟩:∃ kc,ckey key=kc:=⟨_,rfl⟩
 have hkc:=fun W=>key_Check.calls key kc W (by rw [← hkc0];exact keyCheck key)
 obtain ⟨vc,hvc0⟩:∃ vc,(if badV value=true then (51:Int) else 0)=vc:=⟨_,rfl⟩
 have hvc:=fun W=>key_Value.calls value vc W (by rw [← hvc0];exact value_f value)
 obtain ⟨kb,hkb⟩:∃ kb,(kc==0)=kb:=⟨_,rfl⟩
 obtain ⟨vb,hvb⟩:∃ vb,(vc==0)=vb:=⟨_,rfl⟩
 have HKB:Aside0 (keyB key=kb):=⟨by unfold keyB;rw [hkc0,← hkb];rfl⟩
 have HVB:Aside0 (valB value=vb):=⟨by unfold valB;rw [← hvb,← hvc0];cases badV value <;> rfl⟩
 clear hkc0 hvc0
 obtain ⟨pb,hpb⟩:∃ b,pagedB page=b:=⟨_,rfl⟩
 obtain ⟨ob,hob⟩:∃ b,pagedB other=b:=⟨_,rfl⟩
 have hpg:=fun W=>record_paged.calls page pb W (by rw [← hpb];exact paged_f page)
 have hpo:=fun W=>record_paged.calls other ob W (by rw [← hob];exact paged_f other)
 obtain ⟨im,him⟩:∃ b,imageB value=b:=⟨_,rfl⟩
 have HIM:=Aside0.mk (fun W=>image_ok value hv W)
 rw [him] at HIM
 have HPB:=Aside0.mk hpb
 have HOB:=Aside0.mk hob
 have HIB:=Aside0.mk him
 clear hpb hob him hv
 clear HKB HVB HPB HOB HIB
 have HB:=Aside0.mk (below_alloc (Below.refl w.heap.size w) (.cells #[.int .i64 lsn,.int .i64 epoch,.int .i64 kind,.int .i64 page,.int .i64 other,.int .i64 req,.string key,.string value] 53))
 have hrc:=rc_new w lsn epoch kind page other req key value
 have HRC:=Aside0.mk hrc
 obtain ⟨⟨b0,b1,b2,b3,b4,b5,b6,b7⟩,_⟩:=hrc.cells
 clear hrc
 by_cases c0:1≤lsn
 rotate_left
 ·have e0:(1≤lsn)=False:=eq_false c0
  have d0:decide (1≤lsn)=false:=decide_eq_false c0
  clear ha c0
  go_enter Try.func55,Try.ntmps55
  go_wp2_with (first|(go_at_call 72;(with_reducible refine (hkc _).mono ?_);rintro e w2 ⟨rfl,⟨nd,rfl⟩⟩)|(go_at_call 71;(with_reducible refine (hvc _).mono ?_);rintro e w2 ⟨rfl,⟨nd,rfl⟩⟩)|(go_at_call 69;(with_reducible refine (hpg _).mono ?_);rintro e w2 ⟨rfl,⟨nd,rfl⟩⟩)|(go_at_call 69;(with_reducible refine (hpo _).mono ?_);rintro e w2 ⟨rfl,⟨nd,rfl⟩⟩))
  all_goals
   go_ret
   refine ⟨?_,?_⟩
   ·rfl
   ·repeat (first|exact HB.out|exact below_alloc (Below.refl _ _) _|refine below_drewN0 ?_ _)
 by_cases c1:lsn≤1099511627776
 rotate_left
 ·have e0:(1≤lsn)=True:=eq_true c0
  have d0:decide (1≤lsn)=true:=decide_eq_true c0
  have e1:(lsn≤1099511627776)=False:=eq_false c1
  have d1:decide (lsn≤1099511627776)=false:=decide_eq_false c1
  clear ha c0 c1
  go_enter Try.func55,Try.ntmps55
  go_wp2_with (first|(go_at_call 72;(with_reducible refine (hkc _).mono ?_);rintro e w2 ⟨rfl,⟨nd,rfl⟩⟩)|(go_at_call 71;(with_reducible refine (hvc _).mono ?_);rintro e w2 ⟨rfl,⟨nd,rfl⟩⟩)|(go_at_call 69;(with_reducible refine (hpg _).mono ?_);rintro e w2 ⟨rfl,⟨nd,rfl⟩⟩)|(go_at_call 69;(with_reducible refine (hpo _).mono ?_);rintro e w2 ⟨rfl,⟨nd,rfl⟩⟩))
  all_goals
   go_ret
   refine ⟨?_,?_⟩
   ·rfl
   ·repeat (first|exact HB.out|exact below_alloc (Below.refl _ _) _|refine below_drewN0 ?_ _)
 by_cases c2:0≤epoch
 rotate_left
 ·have e0:(1≤lsn)=True:=eq_true c0
  have d0:decide (1≤lsn)=true:=decide_eq_true c0
  have e1:(lsn≤1099511627776)=True:=eq_true c1
  have d1:decide (lsn≤1099511627776)=true:=decide_eq_true c1
  have e2:(0≤epoch)=False:=eq_false c2
  have d2:decide (0≤epoch)=false:=decide_eq_false c2
  clear ha c0 c1 c2
  go_enter Try.func55,Try.ntmps55
  go_wp2_with (first|(go_at_call 72;(with_reducible refine (hkc _).mono ?_);rintro e w2 ⟨rfl,⟨nd,rfl⟩⟩)|(go_at_call 71;(with_reducible refine (hvc _).mono ?_);rintro e w2 ⟨rfl,⟨nd,rfl⟩⟩)|(go_at_call 69;(with_reducible refine (hpg _).mono ?_);rintro e w2 ⟨rfl,⟨nd,rfl⟩⟩)|(go_at_call 69;(with_reducible refine (hpo _).mono ?_);rintro e w2 ⟨rfl,⟨nd,rfl⟩⟩))
  all_goals
   go_ret
   refine ⟨?_,?_⟩
   ·rfl
   ·repeat (first|exact HB.out|exact below_alloc (Below.refl _ _) _|refine below_drewN0 ?_ _)
 by_cases c3:epoch≤1099511627776
 rotate_left
 ·have e0:(1≤lsn)=True:=eq_true c0
  have d0:decide (1≤lsn)=true:=decide_eq_true c0
  have e1:(lsn≤1099511627776)=True:=eq_true c1
  have d1:decide (lsn≤1099511627776)=true:=decide_eq_true c1
  have e2:(0≤epoch)=True:=eq_true c2
  have d2:decide (0≤epoch)=true:=decide_eq_true c2
  have e3:(epoch≤1099511627776)=False:=eq_false c3
  have d3:decide (epoch≤1099511627776)=false:=decide_eq_false c3
  clear ha c0 c1 c2 c3
  go_enter Try.func55,Try.ntmps55
  go_wp2_with (first|(go_at_call 72;(with_reducible refine (hkc _).mono ?_);rintro e w2 ⟨rfl,⟨nd,rfl⟩⟩)|(go_at_call 71;(with_reducible refine (hvc _).mono ?_);rintro e w2 ⟨rfl,⟨nd,rfl⟩⟩)|(go_at_call 69;(with_reducible refine (hpg _).mono ?_);rintro e w2 ⟨rfl,⟨nd,rfl⟩⟩)|(go_at_call 69;(with_reducible refine (hpo _).mono ?_);rintro e w2 ⟨rfl,⟨nd,rfl⟩⟩))
  all_goals
   go_ret
   refine ⟨?_,?_⟩
   ·rfl
   ·repeat (first|exact HB.out|exact below_alloc (Below.refl _ _) _|refine below_drewN0 ?_ _)
 exact absurd ⟨c0,c1,c2,c3⟩ ha
end Go.Proofs.Ytgjibcfkjaedfaa.Rec
