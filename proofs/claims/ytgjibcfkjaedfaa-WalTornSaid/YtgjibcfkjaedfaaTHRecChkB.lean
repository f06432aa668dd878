-- A part of the text RecChkB, thinned by a program of this session.
import Derived.Test.YtgjibcfkjaedfaaTHRecChkP
namespace Go.Proofs.Ytgjibcfkjaedfaa.Rec
open Go.RowKit Go.Proofs.YtgjibcfkjaedfaaW.PrintWords Go.Proofs.YtgjibcfkjaedfaaW.PrintLast Go.Proofs.YtgjibcfkjaedfaaW.PrintMore Go.Proofs.Ytgjibcfkjaedfaa.Wire Go.Proofs.Ytgjibcfkjaedfaa.Crc Go.Proofs.Ytgjibcfkjaedfaa.Pr Go.Proofs.Ytgjibcfkjaedfaa.Page
open Go.Proofs.Ytgjibcfkjaedfaa.Back (AllB)
open Go.Proofs.Ytgjibcfkjaedfaa.Pure
set_option linter.unusedVariables false
set_option linter.unusedSimpArgs false
set_option maxHeartbeats 16000000 in
set_option maxRecDepth 100000 in
theorem chk4 (lsn epoch page other req:Int) (key value:ByteArray) (hv:value.size≤140737488351232) (ha:1≤lsn∧lsn≤1099511627776∧0≤epoch∧epoch≤1099511627776) (w:World) :
  Calls Try.prog 55 #[.agg #[.int .i64 lsn,.int .i64 epoch,.int .i64 4,.int .i64 page,.int .i64 other,.int .i64 req,.string key,.string value]] w fun e w'=>e=.returned (.int .i64 (if rightB lsn epoch 4 page other req key value=true then 0 else 90))∧Below w.heap.size w w':=by
 obtain ⟨kc,hkc0⟩:∃ kc,ckey key=kc:=⟨_,rfl⟩
 have hkc:=fun W=>key_Check.calls key kc W (by rw [← hkc0];exact keyCheck key)
 obtain ⟨vc,hvc0⟩:∃ vc,(if badV value=true then (51:Int) else 0)=vc:=⟨_,rfl⟩
 have hvc:=fun W=>key_Value.calls value vc W (by rw [← hvc0];exact value_f value)
 obtain ⟨kb,hkb⟩:∃ kb,(kc==0)=kb:=⟨_,rfl⟩
 obtain ⟨vb,hvb⟩:∃ vb,(vc==0)=vb:=⟨_,rfl⟩
 have HKB:Aside0 (keyB key=kb):=⟨by unfold keyB;rw [hkc0,← hkb];rfl⟩
 have HVB:Aside0 (valB value=vb):=⟨by unfold valB;rw [← hvb,← hvc0];cases badV value <;> rfl⟩
 clear hkc0 hvc0
 obtain ⟨pb,hpb⟩:∃ b,pagedB page=b:=⟨_,rfl⟩
 obtain ⟨ob,hob⟩:∃ b,pagedB other=b:=⟨_,rfl⟩
 have hpg:=fun W=>record_paged.calls page pb W (by rw [← hpb];exact paged_f page)
 have hpo:=fun W=>record_paged.calls other ob W (by rw [← hob];exact paged_f other)
 obtain ⟨im,him⟩:∃ b,imageB value=b:=⟨_,rfl⟩
 have HIM:=Aside0.mk (fun W=>image_ok value hv W)
 rw [him] at HIM
 have HPB:=Aside0.mk hpb
 have HOB:=Aside0.mk hob
 have HIB:=Aside0.mk him
 clear hpb hob him hv
 have a1:(1≤lsn)=True:=eq_true (by omega)
 have a2:(lsn≤1099511627776)=True:=eq_true (by omega)
 have a3:(0≤epoch)=True:=eq_true (by omega)
 have a4:(epoch≤1099511627776)=True:=eq_true (by omega)
 have a5:decide (1≤lsn)=true:=decide_eq_true (by omega)
 have a6:decide (lsn≤1099511627776)=true:=decide_eq_true (by omega)
 have a7:decide (0≤epoch)=true:=decide_eq_true (by omega)
 have a8:decide (epoch≤1099511627776)=true:=decide_eq_true (by omega)
 obtain ⟨D,hR⟩:∃ D:Int,(if rightB lsn epoch 4 page other req key value=true then 0 else 90)=D:=⟨_,rfl⟩
 have HR:Aside0 (D=if (decide (req=0)&&(pb&&decide (other=0)&&noText key&&im))=true then 0 else 90):=⟨by rw [← hR];unfold rightB;rw [decide_eq_true ha,Bool.true_and];simp only [HKB.out,HVB.out,HPB.out,HOB.out,HIB.out];rfl⟩
 rw [hR]
 clear hR ha HKB HVB HPB HOB HIB
 by_cases hq:req=0
 ·subst hq
  have HB:=Aside0.mk (below_alloc (Below.refl w.heap.size w) (.cells #[.int .i64 lsn,.int .i64 epoch,.int .i64 4,.int .i64 page,.int .i64 other,.int .i64 0,.string key,.string value] 53))
  have hrc:=rc_new w lsn epoch 4 page other 0 key value
  have HRC:=Aside0.mk hrc
  obtain ⟨⟨b0,b1,b2,b3,b4,b5,b6,b7⟩,_⟩:=hrc.cells
  clear hrc
  by_cases ho:other=0
  ·subst ho
   go_enter Try.func55,Try.ntmps55
   go_wp2_with (first|(go_at_call 72;(with_reducible refine (hkc _).mono ?_);rintro e w2 ⟨rfl,⟨nd,rfl⟩⟩)|(go_at_call 71;(with_reducible refine (hvc _).mono ?_);rintro e w2 ⟨rfl,⟨nd,rfl⟩⟩)|(go_at_call 69;(with_reducible refine (hpg _).mono ?_);rintro e w2 ⟨rfl,⟨nd,rfl⟩⟩)|(go_at_call 69;(with_reducible refine (hpo _).mono ?_);rintro e w2 ⟨rfl,⟨nd,rfl⟩⟩)|(go_at_call 70;(with_reducible refine (HIM.out _).mono ?_);rintro e w4 ⟨rfl,hB⟩;clear b0 b1 b2 b3 b4 b5 b6 b7;(have hb4:=below_past hB);(replace HRC:=Aside0.mk (HRC.out.below hb4));(replace HB:=Aside0.mk (below_from2 HB.out (Nat.le_refl _) hb4));obtain ⟨⟨b0,b1,b2,b3,b4,b5,b6,b7⟩,_⟩:=HRC.out.cells;clear hb4 hB))
   all_goals
    go_ret
    refine ⟨?_,?_⟩
    ·rw [HR.out]
     congr 1
     congr 1
     first
      | (simp [*,noText];done)
      | (simp [*,noText];intros;omega)
    ·repeat (first|exact HB.out|exact below_alloc (Below.refl _ _) _|refine below_drewN0 ?_ _)
  ·have o1:(other==0)=false:=beq_eq_false_iff_ne.2 ho
   have o2:=eq_false ho
   go_enter Try.func55,Try.ntmps55
   go_wp2_with (first|(go_at_call 72;(with_reducible refine (hkc _).mono ?_);rintro e w2 ⟨rfl,⟨nd,rfl⟩⟩)|(go_at_call 71;(with_reducible refine (hvc _).mono ?_);rintro e w2 ⟨rfl,⟨nd,rfl⟩⟩)|(go_at_call 69;(with_reducible refine (hpg _).mono ?_);rintro e w2 ⟨rfl,⟨nd,rfl⟩⟩)|(go_at_call 69;(with_reducible refine (hpo _).mono ?_);rintro e w2 ⟨rfl,⟨nd,rfl⟩⟩)|(go_at_call 70;(with_reducible refine (HIM.out _).mono ?_);rintro e w4 ⟨rfl,hB⟩;clear b0 b1 b2 b3 b4 b5 b6 b7;(have hb4:=below_past hB);(replace HRC:=Aside0.mk (HRC.out.below hb4));(replace HB:=Aside0.mk (below_from2 HB.out (Nat.le_refl _) hb4));obtain ⟨⟨b0,b1,b2,b3,b4,b5,b6,b7⟩,_⟩:=HRC.out.cells;clear hb4 hB))
   all_goals
    go_ret
    refine ⟨?_,?_⟩
    ·rw [HR.out]
     congr 1
     congr 1
     first
      | (simp [*,noText];done)
      | (simp [*,noText];intros;omega)
    ·repeat (first|exact HB.out|exact below_alloc (Below.refl _ _) _|refine below_drewN0 ?_ _)
 ·obtain rfl:D=90:=by rw [HR.out,decide_eq_false hq];rfl
  clear HR
  have q1:(req != 0)=true:=bne_iff_ne.2 hq
  have q2:=eq_false hq
  clear hq
  have HB:=Aside0.mk (below_alloc (Below.refl w.heap.size w) (.cells #[.int .i64 lsn,.int .i64 epoch,.int .i64 4,.int .i64 page,.int .i64 other,.int .i64 req,.string key,.string value] 53))
  have hrc:=rc_new w lsn epoch 4 page other req key value
  have HRC:=Aside0.mk hrc
  obtain ⟨⟨b0,b1,b2,b3,b4,b5,b6,b7⟩,_⟩:=hrc.cells
  clear hrc
  by_cases ho:other=0
  ·subst ho
   go_enter Try.func55,Try.ntmps55
   go_wp2_with (first|(go_at_call 72;(with_reducible refine (hkc _).mono ?_);rintro e w2 ⟨rfl,⟨nd,rfl⟩⟩)|(go_at_call 71;(with_reducible refine (hvc _).mono ?_);rintro e w2 ⟨rfl,⟨nd,rfl⟩⟩)|(go_at_call 69;(with_reducible refine (hpg _).mono ?_);rintro e w2 ⟨rfl,⟨nd,rfl⟩⟩)|(go_at_call 69;(with_reducible refine (hpo _).mono ?_);rintro e w2 ⟨rfl,⟨nd,rfl⟩⟩)|(go_at_call 70;(with_reducible refine (HIM.out _).mono ?_);rintro e w4 ⟨rfl,hB⟩;clear b0 b1 b2 b3 b4 b5 b6 b7;(have hb4:=below_past hB);(replace HRC:=Aside0.mk (HRC.out.below hb4));(replace HB:=Aside0.mk (below_from2 HB.out (Nat.le_refl _) hb4));obtain ⟨⟨b0,b1,b2,b3,b4,b5,b6,b7⟩,_⟩:=HRC.out.cells;clear hb4 hB))
   all_goals
    go_ret
    refine ⟨?_,?_⟩
    ·rfl
    ·repeat (first|exact HB.out|exact below_alloc (Below.refl _ _) _|refine below_drewN0 ?_ _)
  ·have o1:(other==0)=false:=beq_eq_false_iff_ne.2 ho
   have o2:=eq_false ho
   go_enter Try.func55,Try.ntmps55
   go_wp2_with (first|(go_at_call 72;(with_reducible refine (hkc _).mono ?_);rintro e w2 ⟨rfl,⟨nd,rfl⟩⟩)|(go_at_call 71;(with_reducible refine (hvc _).mono ?_);rintro e w2 ⟨rfl,⟨nd,rfl⟩⟩)|(go_at_call 69;(with_reducible refine (hpg _).mono ?_);rintro e w2 ⟨rfl,⟨nd,rfl⟩⟩)|(go_at_call 69;(with_reducible refine (hpo _).mono ?_);rintro e w2 ⟨rfl,⟨nd,rfl⟩⟩)|(go_at_call 70;(with_reducible refine (HIM.out _).mono ?_);rintro e w4 ⟨rfl,hB⟩;clear b0 b1 b2 b3 b4 b5 b6 b7;(have hb4:=below_past hB);(replace HRC:=Aside0.mk (HRC.out.below hb4));(replace HB:=Aside0.mk (below_from2 HB.out (Nat.le_refl _) hb4));obtain ⟨⟨b0,b1,b2,b3,b4,b5,b6,b7⟩,_⟩:=HRC.out.cells;clear hb4 hB))
   all_goals
    go_ret
    refine ⟨?_,?_⟩
    ·rfl
    ·repeat (first|exact HB.out|exact below_alloc (Below.refl _ _) _|refine below_drewN0 ?_ _)
set_option maxHeartbeats 16000000 in
set_option maxRecDepth 100000 in
theorem chk5 (lsn epoch page other req:Int) (key value:ByteArray) (hv:value.size≤140737488351232) (ha:1≤lsn∧lsn≤1099511627776∧0≤epoch∧epoch≤1099511627776) (w:World) :
  Calls Try.prog 55 #[.agg #[.int .i64 lsn,.int .i64 epoch,.int .i64 5,.int .i64 page,.int .i64 other,.int .i64 req,.string key,.string value]] w fun e w'=>e=.returned (.int .i64 (if rightB lsn epoch 5 page other req key value=true then 0 else 90))∧Below w.heap.size w w':=by
 obtain ⟨kc,hkc0⟩:∃ kc,ckey key=kc:=⟨_,rfl⟩
 have hkc:=fun W=>key_Check.calls key kc W (by rw [← hkc0];exact keyCheck key)
 obtain ⟨vc,hvc0⟩:∃ vc,(if badV value=true then (51:Int) else 0)=vc:=⟨_,rfl⟩
 have hvc:=fun W=>key_Value.calls value vc W (by rw [← hvc0];exact value_f value)
 obtain ⟨kb,hkb⟩:∃ kb,(kc==0)=kb:=⟨_,rfl⟩
 obtain ⟨vb,hvb⟩:∃ vb,(vc==0)=vb:=⟨_,rfl⟩
 have HKB:Aside0 (keyB key=kb):=⟨by unfold keyB;rw [hkc0,← hkb];rfl⟩
 have HVB:Aside0 (valB value=vb):=⟨by unfold valB;rw [← hvb,← hvc0];cases badV value <;> rfl⟩
 clear hkc0 hvc0
 obtain ⟨pb,hpb⟩:∃ b,pagedB page=b:=⟨_,rfl⟩
 obtain ⟨ob,hob⟩:∃ b,pagedB other=b:=⟨_,rfl⟩
 have hpg:=fun W=>record_paged.calls page pb W (by rw [← hpb];exact paged_f page)
 have hpo:=fun W=>record_paged.calls other ob W (by rw [← hob];exact paged_f other)
 obtain ⟨im,him⟩:∃ b,imageB value=b:=⟨_,rfl⟩
 have HIM:=Aside0.mk (fun W=>image_ok value hv W)
 rw [him] at HIM
 have HPB:=Aside0.mk hpb
 have HOB:=Aside0.mk hob
 have HIB:=Aside0.mk him
 clear hpb hob him hv
 have a1:(1≤lsn)=True:=eq_true (by omega)
 have a2:(lsn≤1099511627776)=True:=eq_true (by omega)
 have a3:(0≤epoch)=True:=eq_true (by omega)
 have a4:(epoch≤1099511627776)=True:=eq_true (by omega)
 have a5:decide (1≤lsn)=true:=decide_eq_true (by omega)
 have a6:decide (lsn≤1099511627776)=true:=decide_eq_true (by omega)
 have a7:decide (0≤epoch)=true:=decide_eq_true (by omega)
 have a8:decide (epoch≤1099511627776)=true:=decide_eq_true (by omega)
 obtain ⟨D,hR⟩:∃ D:Int,(if rightB lsn epoch 5 page other req key value=true then 0 else 90)=D:=⟨_,rfl⟩
 have HR:Aside0 (D=if (decide (req=0)&&(pb&&ob&&kb&&noText value))=true then 0 else 90):=⟨by rw [← hR];unfold rightB;rw [decide_eq_true ha,Bool.true_and];simp only [HKB.out,HVB.out,HPB.out,HOB.out,HIB.out];rfl⟩
 rw [hR]
 clear hR ha HKB HVB HPB HOB HIB
 by_cases hq:req=0
 ·subst hq
  have HB:=Aside0.mk (below_alloc (Below.refl w.heap.size w) (.cells #[.int .i64 lsn,.int .i64 epoch,.int .i64 5,.int .i64 page,.int .i64 other,.int .i64 0,.string key,.string value] 53))
  have hrc:=rc_new w lsn epoch 5 page other 0 key value
  have HRC:=Aside0.mk hrc
  obtain ⟨⟨b0,b1,b2,b3,b4,b5,b6,b7⟩,_⟩:=hrc.cells
  clear hrc
  go_enter Try.func55,Try.ntmps55
  go_wp2_with (first|(go_at_call 72;(with_reducible refine (hkc _).mono ?_);rintro e w2 ⟨rfl,⟨nd,rfl⟩⟩)|(go_at_call 71;(with_reducible refine (hvc _).mono ?_);rintro e w2 ⟨rfl,⟨nd,rfl⟩⟩)|(go_at_call 69;(with_reducible refine (hpg _).mono ?_);rintro e w2 ⟨rfl,⟨nd,rfl⟩⟩)|(go_at_call 69;(with_reducible refine (hpo _).mono ?_);rintro e w2 ⟨rfl,⟨nd,rfl⟩⟩))
  all_goals
   go_ret
   refine ⟨?_,?_⟩
   ·rw [HR.out]
    congr 1
    congr 1
    first
     | (simp [*,noText];done)
     | (simp [*,noText];intros;omega)
   ·repeat (first|exact HB.out|exact below_alloc (Below.refl _ _) _|refine below_drewN0 ?_ _)
 ·obtain rfl:D=90:=by rw [HR.out,decide_eq_false hq];rfl
  clear HR
  have q1:(req != 0)=true:=bne_iff_ne.2 hq
  have q2:=eq_false hq
  clear hq
  have HB:=Aside0.mk (below_alloc (Below.refl w.heap.size w) (.cells #[.int .i64 lsn,.int .i64 epoch,.int .i64 5,.int .i64 page,.int .i64 other,.int .i64 req,.string key,.string value] 53))
  have hrc:=rc_new w lsn epoch 5 page other req key value
  have HRC:=Aside0.mk hrc
  obtain ⟨⟨b0,b1,b2,b3,b4,b5,b6,b7⟩,_⟩:=hrc.cells
  clear hrc
  go_enter Try.func55,Try.ntmps55
  go_wp2_with (first|(go_at_call 72;(with_reducible refine (hkc _).mono ?_);rintro e w2 ⟨rfl,⟨nd,rfl⟩⟩)|(go_at_call 71;(with_reducible refine (hvc _).mono ?_);rintro e w2 ⟨rfl,⟨nd,rfl⟩⟩)|(go_at_call 69;(with_reducible refine (hpg _).mono ?_);rintro e w2 ⟨rfl,⟨nd,rfl⟩⟩)|(go_at_call 69;(with_reducible refine (hpo _).mono ?_);rintro e w2 ⟨rfl,⟨nd,rfl⟩⟩))
  all_goals
   go_ret
   refine ⟨?_,?_⟩
   ·rfl
   ·repeat (first|exact HB.out|exact below_alloc (Below.refl _ _) _|refine below_drewN0 ?_ _)
set_option maxHeartbeats 16000000 in
set_option maxRecDepth 100000 in
theorem chk6 (lsn epoch page other req:Int) (key value:ByteArray) (hv:value.size≤140737488351232) (ha:1≤lsn∧lsn≤1099511627776∧0≤epoch∧epoch≤1099511627776) (w:World) :
  Calls Try.prog 55 #[.agg #[.int .i64 lsn,.int .i64 epoch,.int .i64 6,.int .i64 page,.int .i64 other,.int .i64 req,.string key,.string value]] w fun e w'=>e=.returned (.int .i64 (if rightB lsn epoch 6 page other req key value=true then 0 else 90))∧Below w.heap.size w w':=by
 obtain ⟨kc,hkc0⟩:∃ kc,ckey key=kc:=⟨_,rfl⟩
 have hkc:=fun W=>key_Check.calls key kc W (by rw [← hkc0];exact keyCheck key)
 obtain ⟨vc,hvc0⟩:∃ vc,(if badV value=true then (51:Int) else 0)=vc:=⟨_,rfl⟩
 have hvc:=fun W=>key_Value.calls value vc W (by rw [← hvc0];exact value_f value)
 obtain ⟨kb,hkb⟩:∃ kb,(kc==0)=kb:=⟨_,rfl⟩
 obtain ⟨vb,hvb⟩:∃ vb,(vc==0)=vb:=⟨_,rfl⟩
 have HKB:Aside0 (keyB key=kb):=⟨by unfold keyB;rw [hkc0,← hkb];rfl⟩
 have HVB:Aside0 (valB value=vb):=⟨by unfold valB;rw [← hvb,← hvc0];cases badV value <;> rfl⟩
 clear hkc0 hvc0
 obtain ⟨pb,hpb⟩:∃ b,pagedB page=b:=⟨_,rfl⟩
 obtain ⟨ob,hob⟩:∃ b,pagedB other=b:=⟨_,rfl⟩
 have hpg:=fun W=>record_paged.calls page pb W (by rw [← hpb];exact paged_f page)
 have hpo:=fun W=>record_paged.calls other ob W (by rw [← hob];exact paged_f other)
 obtain ⟨im,him⟩:∃ b,imageB value=b:=⟨_,rfl⟩
 have HIM:=Aside0.mk (fun W=>image_ok value hv W)
 rw [him] at HIM
 have HPB:=Aside0.mk hpb
 have HOB:=Aside0.mk hob
 have HIB:=Aside0.mk him
 clear hpb hob him hv
 have a1:(1≤lsn)=True:=eq_true (by omega)
 have a2:(lsn≤1099511627776)=True:=eq_true (by omega)
 have a3:(0≤epoch)=True:=eq_true (by omega)
 have a4:(epoch≤1099511627776)=True:=eq_true (by omega)
 have a5:decide (1≤lsn)=true:=decide_eq_true (by omega)
 have a6:decide (lsn≤1099511627776)=true:=decide_eq_true (by omega)
 have a7:decide (0≤epoch)=true:=decide_eq_true (by omega)
 have a8:decide (epoch≤1099511627776)=true:=decide_eq_true (by omega)
 obtain ⟨D,hR⟩:∃ D:Int,(if rightB lsn epoch 6 page other req key value=true then 0 else 90)=D:=⟨_,rfl⟩
 have HR:Aside0 (D=if (decide (req=0)&&(pb&&ob&&kb&&noText value))=true then 0 else 90):=⟨by rw [← hR];unfold rightB;rw [decide_eq_true ha,Bool.true_and];simp only [HKB.out,HVB.out,HPB.out,HOB.out,HIB.out];rfl⟩
 rw [hR]
 clear hR ha HKB HVB HPB HOB HIB
 by_cases hq:req=0
 ·subst hq
  have HB:=Aside0.mk (below_alloc (Below.refl w.heap.size w) (.cells #[.int .i64 lsn,.int .i64 epoch,.int .i64 6,.int .i64 page,.int .i64 other,.int .i64 0,.string key,.string value] 53))
  have hrc:=rc_new w lsn epoch 6 page other 0 key value
  have HRC:=Aside0.mk hrc
  obtain ⟨⟨b0,b1,b2,b3,b4,b5,b6,b7⟩,_⟩:=hrc.cells
  clear hrc
  go_enter Try.func55,Try.ntmps55
  go_wp2_with (first|(go_at_call 72;(with_reducible refine (hkc _).mono ?_);rintro e w2 ⟨rfl,⟨nd,rfl⟩⟩)|(go_at_call 71;(with_reducible refine (hvc _).mono ?_);rintro e w2 ⟨rfl,⟨nd,rfl⟩⟩)|(go_at_call 69;(with_reducible refine (hpg _).mono ?_);rintro e w2 ⟨rfl,⟨nd,rfl⟩⟩)|(go_at_call 69;(with_reducible refine (hpo _).mono ?_);rintro e w2 ⟨rfl,⟨nd,rfl⟩⟩))
  all_goals
   go_ret
   refine ⟨?_,?_⟩
   ·rw [HR.out]
    congr 1
    congr 1
    first
     | (simp [*,noText];done)
     | (simp [*,noText];intros;omega)
   ·repeat (first|exact HB.out|exact below_alloc (Below.refl _ _) _|refine below_drewN0 ?_ _)
 ·obtain rfl:D=90:=by rw [HR.out,decide_eq_false hq];rfl
  clear HR
  have q1:(req != 0)=true:=bne_iff_ne.2 hq
  have q2:=eq_false hq
  clear hq
  have HB:=Aside0.mk (below_alloc (Below.refl w.heap.size w) (.cells #[.int .i64 lsn,.int .i64 epoch,.int .i64 6,.int .i64 page,.int .i64 other,.int .i64 req,.string key,.string value] 53))
  have hrc:=rc_new w lsn epoch 6 page other req key value
  have HRC:=Aside0.mk hrc
  obtain ⟨⟨b0,b1,b2,b3,b4,b5,b6,b7⟩,_⟩:=hrc.cells
  clear hrc
  go_enter Try.func55,Try.ntmps55
  go_wp2_with (first|(go_at_call 72;(with_reducible refine (hkc _).mono ?_);rintro e w2 ⟨rfl,⟨nd,rfl⟩⟩)|(go_at_call 71;(with_reducible refine (hvc _).mono ?_);rintro e w2 ⟨rfl,⟨nd,rfl⟩⟩)|(go_at_call 69;(with_reducible refine (hpg _).mono ?_);rintro e w2 ⟨rfl,⟨nd,rfl⟩⟩)|(go_at_call 69;(with_reducible refine (hpo _).mono ?_);rintro e w2 ⟨rfl,⟨nd,rfl⟩⟩))
  all_goals
   go_ret
   refine ⟨?_,?_⟩
   ·rfl
   ·repeat (first|exact HB.out|exact below_alloc (Below.refl _ _) _|refine below_drewN0 ?_ _)
end Go.Proofs.Ytgjibcfkjaedfaa.Rec
