-- A part of the text RecRight, thinned by a program of this session.
import Derived.Test.YtgjibcfkjaedfaaTHRecIR
namespace Go.Proofs.Ytgjibcfkjaedfaa.Rec
open Go.RowKit Go.Proofs.YtgjibcfkjaedfaaW.PrintWords Go.Proofs.YtgjibcfkjaedfaaW.PrintLast Go.Proofs.YtgjibcfkjaedfaaW.PrintMore Go.Proofs.Ytgjibcfkjaedfaa.Wire Go.Proofs.Ytgjibcfkjaedfaa.Crc Go.Proofs.Ytgjibcfkjaedfaa.Pr Go.Proofs.Ytgjibcfkjaedfaa.Page
open Go.Proofs.Ytgjibcfkjaedfaa.Back (AllB)
open Go.Proofs.Ytgjibcfkjaedfaa.Pure
set_option linter.unusedVariables false
set_option linter.unusedSimpArgs false
set_option maxHeartbeats 1000000 in
theorem paged_any (n:Int) (w:World):Calls Try.prog 65 #[.int .i64 n] w fun e w'=>e=.returned (.bool (pagedB n))∧Drawn0 w w':=by
  unfold pagedB
  by_cases h1:1≤n
  · by_cases h2:n≤4096
    · rw [decide_eq_true ⟨h1,h2⟩]
      go_enter Try.func65,Try.ntmps65
      go_wp2
      repeat (go_quiet (fail);try go_wp2)
      go_ret
      exact ⟨rfl,by repeat (first|exact Drawn0.refl _|apply Drawn0.step)⟩
    · rw [decide_eq_false (fun h=>h2 h.2)]
      go_enter Try.func65,Try.ntmps65
      go_wp2
      repeat (go_quiet (fail);try go_wp2)
      go_ret
      exact ⟨rfl,by repeat (first|exact Drawn0.refl _|apply Drawn0.step)⟩
  · rw [decide_eq_false (fun h=>h1 h.1)]
    go_enter Try.func65,Try.ntmps65
    go_wp2
    repeat (go_quiet (fail);try go_wp2)
    go_ret
    exact ⟨rfl,by repeat (first|exact Drawn0.refl _|apply Drawn0.step)⟩
set_option maxHeartbeats 16000000 in
set_option maxRecDepth 100000 in
theorem refright4_ok (lsn epoch page other:Int) (key value:ByteArray) (hv:value.size≤140737488351232) {kc vc:Int} {kb:Bool} (hkc:∀ W:World,Calls Try.prog 63 #[.string key] W fun e w'=>e=.returned (.int .i64 kc)∧Drawn0 W w') (hkb:(kc==0)=kb) (HKB:keyB key=kb)
    (a1:(lsn < 1)=False) (a2:(lsn > 1099511627776)=False) (a3:(epoch < 0)=False) (a4:(epoch > 1099511627776)=False) (a5:((1099511627776:Int) < lsn)=False) (a6:((1099511627776:Int) < epoch)=False)
    (hvc:∀ W:World,Calls Try.prog 64 #[.string value] W fun e w'=>e=.returned (.int .i64 vc)∧Drawn0 W w') (w:World) :
    Calls Try.prog 41 #[.agg #[.int .i64 lsn,.int .i64 epoch,.int .i64 4,.int .i64 page,.int .i64 other,.int .i64 0,.string key,.string value]] w fun e w'=>e=.returned (.bool (pagedB page&&decide (other=0)&&noText key&&imageB value))∧Below w.heap.size w w':=by
    have HB:=Aside0.mk (below_alloc (Below.refl w.heap.size w) (.cells #[.int .i64 lsn,.int .i64 epoch,.int .i64 4,.int .i64 page,.int .i64 other,.int .i64 0,.string key,.string value] 53))
    have hrc:=rc_new w lsn epoch 4 page other 0 key value
    have HRC:=Aside0.mk hrc
    obtain ⟨⟨b0,b1,b2,b3,b4,b5,b6,b7⟩,_⟩:=hrc.cells
    clear hrc HKB
    obtain ⟨pb,hpb⟩:∃ b,pagedB page=b:=⟨_,rfl⟩
    have hpg:=fun W=>paged_any page W
    rw [hpb] at hpg
    rw [hpb]
    clear hpb
    have kbv:=fun W=>print_bytes (P:=Try.prog) 9 67 5 Try.underlying9 Try.underlying67 Try.underlying5 value W
    have hlv:=bytesOf_length value
    have HDE:=Aside0.mk (fun W=>refdec_ok (some ⟨W.heap.size,0,none⟩) (grownCap W value.size 0 5) (bytesOf value) _ (C_bytes W 5 value (by omega)) (by rw [hlv];exact grownCap_ge _ _ _ _) (bytesOf_allB value))
    rw [decR_eq (bytesOf_allB value)] at HDE
    rw [hlv] at HDE
    have HIM:Aside0 (imageB value=(decide ((decF (bytesOf value)).2=0)&&decide ((decF (bytesOf value)).1.2.1=0))):=⟨rfl⟩
    clear hlv
    generalize decF (bytesOf value)=D at HDE HIM
    obtain ⟨⟨x0,x1,x2,x3,l4,l5,l6⟩,f⟩:=D
    dsimp only at HDE HIM
    go_enter Try.func41,Try.ntmps41
    go_wp2_with (first|(go_at_call 63;(with_reducible refine (hkc _).mono ?_);rintro e w2 ⟨rfl,⟨nd,rfl⟩⟩)|(go_at_call 64;(with_reducible refine (hvc _).mono ?_);rintro e w3 ⟨rfl,hD3⟩;clear b0 b1 b2 b3 b4 b5 b6 b7;(have hb3:Below (w.alloc (.cells #[.int .i64 lsn,.int .i64 epoch,.int .i64 4,.int .i64 page,.int .i64 other,.int .i64 0,.string key,.string value] 53)).heap.size (w.alloc (.cells #[.int .i64 lsn,.int .i64 epoch,.int .i64 4,.int .i64 page,.int .i64 other,.int .i64 0,.string key,.string value] 53)) w3:=below_from2 (pw_below_drewN (Below.refl _ _) nd) (Nat.le_refl _) hD3.below);(replace HRC:=Aside0.mk (HRC.out.below hb3));(replace HB:=Aside0.mk (below_from2 HB.out (Nat.le_refl _) hb3));obtain ⟨⟨b0,b1,b2,b3,b4,b5,b6,b7⟩,_⟩:=HRC.out.cells;(have hde:=HDE.out w3);clear hb3 hD3)|(go_at_call 65;(with_reducible refine (hpg _).mono ?_);rintro e w2 ⟨rfl,⟨nd,rfl⟩⟩)|(go_at_call 66;(with_reducible refine hde.mono ?_);rintro e w4 ⟨u,rfl,hr,hB⟩;clear b0 b1 b2 b3 b4 b5 b6 b7;(replace HRC:=Aside0.mk ((HRC.out.below (bytes_below0 w3 5 value)).below hB));(replace HB:=Aside0.mk (below_from2 (below_from2 HB.out (Nat.le_refl _) (bytes_below0 w3 5 value)) (Nat.le_refl _) hB));obtain ⟨A4,c4,A5,c5,A6,c6,rfl,_⟩:=hr;obtain ⟨⟨b0,b1,b2,b3,b4,b5,b6,b7⟩,_⟩:=HRC.out.cells;(have lt4:=HRC.out.lt);(have hbx:=blk_newN w4 (.cells #[.int .i64 x0,.int .i64 x1,.int .i64 x2,.string x3,.slice A4 l4.length c4,.slice A5 l5.length c5,.slice A6 l6.length c6] 113));obtain ⟨⟨n0,n1,n2,n3,n4,n5,n6⟩,_⟩:=NdAt.cells hbx;(replace HB:=Aside0.mk (below_alloc HB.out (.cells #[.int .i64 x0,.int .i64 x1,.int .i64 x2,.string x3,.slice A4 l4.length c4,.slice A5 l5.length c5,.slice A6 l6.length c6] 113)));clear hB hde hbx))
    all_goals
      go_ret
      refine ⟨?_,?_⟩
      · congr 1
        congr 1
        rw [HIM.out]
        first
          | (simp [*,noText];done)
          | (simp [*,noText];rfl)
          | (simp [*,noText];intros;omega)
      · repeat (first|exact HB.out|refine below_drewN0 ?_ _)
set_option maxHeartbeats 16000000 in
set_option maxRecDepth 100000 in
theorem refright_ok (lsn epoch kind page other req:Int) (key value:ByteArray) (hv:value.size≤140737488351232) (w:World) :
    Calls Try.prog 41 #[.agg #[.int .i64 lsn,.int .i64 epoch,.int .i64 kind,.int .i64 page,.int .i64 other,.int .i64 req,.string key,.string value]] w fun e w'=>e=.returned (.bool (rightB lsn epoch kind page other req key value))∧Below w.heap.size w w':=by
  have HB:=Aside0.mk (below_alloc (Below.refl w.heap.size w) (.cells #[.int .i64 lsn,.int .i64 epoch,.int .i64 kind,.int .i64 page,.int .i64 other,.int .i64 req,.string key,.string value] 53))
  have hrc:=rc_new w lsn epoch kind page other req key value
  have HRC:=Aside0.mk hrc
  obtain ⟨⟨b0,b1,b2,b3,b4,b5,b6,b7⟩,_⟩:=hrc.cells
  clear hrc
  obtain ⟨kc,hkc0⟩:∃ kc,ckey key=kc:=⟨_,rfl⟩
  have hkc:=fun W=>latticeref05_Check.calls key kc W (by rw [← hkc0];exact refCheck key)
  obtain ⟨vc,hvc0⟩:∃ vc,(if badV value=true then (51:Int) else 0)=vc:=⟨_,rfl⟩
  have hvc:=fun W=>latticeref05_Value.calls value vc W (by rw [← hvc0];exact refValue value)
  obtain ⟨kb,hkb⟩:∃ kb,(kc==0)=kb:=⟨_,rfl⟩
  obtain ⟨vb,hvb⟩:∃ vb,(vc==0)=vb:=⟨_,rfl⟩
  have HKB:Aside0 (keyB key=kb):=⟨by unfold keyB;rw [hkc0,← hkb];rfl⟩
  have HVB:Aside0 (valB value=vb):=⟨by unfold valB;rw [← hvb,← hvc0];cases badV value <;> rfl⟩
  clear hkc0 hvc0
  by_cases ha:1≤lsn∧lsn≤1099511627776∧0≤epoch∧epoch≤1099511627776
  · have a1:(lsn < 1)=False:=eq_false (by omega)
    have a2:(lsn > 1099511627776)=False:=eq_false (by omega)
    have a3:(epoch < 0)=False:=eq_false (by omega)
    have a4:(epoch > 1099511627776)=False:=eq_false (by omega)
    have a5:((1099511627776:Int) < lsn)=False:=eq_false (by omega)
    have a6:((1099511627776:Int) < epoch)=False:=eq_false (by omega)
    by_cases k7:kind=7
    · subst k7
      obtain ⟨R,hR⟩:∃ R,rightB lsn epoch 7 page other req key value=R:=⟨_,rfl⟩
      have HR:Aside0 (R=(decide (page=0)&&((decide (other=1)&&vb) || (decide (other=2)&&noText value))&&decide (1≤req∧req≤1099511627776)&&kb)):=⟨by rw [← hR];unfold rightB;rw [decide_eq_true ha,Bool.true_and,if_pos rfl,HVB.out,HKB.out]⟩
      rw [hR]
      clear hR ha
      go_enter Try.func41,Try.ntmps41
      go_wp2_with (first|(go_at_call 63;(with_reducible refine (hkc _).mono ?_);rintro e w2 ⟨rfl,⟨nd,rfl⟩⟩)|(go_at_call 64;(with_reducible refine (hvc _).mono ?_);rintro e w2 ⟨rfl,⟨nd,rfl⟩⟩))
      all_goals
        go_ret
        refine ⟨?_,?_⟩
        · rw [HR.out]
          congr 1
          congr 1
          first
            | (simp [*,noText];done)
            | (simp [*,noText];intros;omega)
        · repeat (first|exact below_alloc (Below.refl _ _) _|refine below_drewN0 ?_ _)
    · have k7a:(kind==7)=false:=beq_eq_false_iff_ne.mpr k7
      have k7b:=eq_false k7
      by_cases hq:req=0
      · subst hq
        obtain ⟨pb,hpb⟩:∃ b,pagedB page=b:=⟨_,rfl⟩
        obtain ⟨ob,hob⟩:∃ b,pagedB other=b:=⟨_,rfl⟩
        have hpg:=fun W=>paged_any page W
        have hpo:=fun W=>paged_any other W
        rw [hpb] at hpg
        rw [hob] at hpo
        have HPB:=Aside0.mk hpb
        have HOB:=Aside0.mk hob
        clear hpb hob
        have hR0:rightB lsn epoch kind page other 0 key value=(if kind=1 then decide (page=0)&&decide (other=0)&&noText key&&noText value
     else if kind=2 then pb&&decide (other=0)&&kb&&vb
     else if kind=3 then pb&&decide (other=0)&&kb&&noText value
     else if kind=4 then pb&&decide (other=0)&&noText key&&imageB value
     else if kind=5∨kind=6 then pb&&ob&&kb&&noText value
     else false):=by
          unfold rightB
          rw [decide_eq_true ha,Bool.true_and,if_neg k7,decide_eq_true rfl,Bool.true_and,HVB.out,HKB.out,HPB.out,HOB.out]
        obtain ⟨R,hR⟩:∃ R,rightB lsn epoch kind page other 0 key value=R:=⟨_,rfl⟩
        rw [hR] at hR0 ⊢
        have HR0:=Aside0.mk hR0
        clear hR hR0 ha k7
        by_cases k1:kind=1
        · subst k1
          go_enter Try.func41,Try.ntmps41
          go_wp2_with (first|(go_at_call 63;(with_reducible refine (hkc _).mono ?_);rintro e w2 ⟨rfl,⟨nd,rfl⟩⟩)|(go_at_call 64;(with_reducible refine (hvc _).mono ?_);rintro e w2 ⟨rfl,⟨nd,rfl⟩⟩)|(go_at_call 65;(with_reducible refine (hpg _).mono ?_);rintro e w2 ⟨rfl,⟨nd,rfl⟩⟩)|(go_at_call 65;(with_reducible refine (hpo _).mono ?_);rintro e w2 ⟨rfl,⟨nd,rfl⟩⟩))
          all_goals
            go_ret
            refine ⟨?_,?_⟩
            · rw [HR0.out]
              congr 1
              congr 1
              first
                | (simp [*,noText];done)
                | (simp [*,noText];intros;omega)
            · repeat (first|exact below_alloc (Below.refl _ _) _|refine below_drewN0 ?_ _)
        have k1a:(kind==1)=false:=beq_eq_false_iff_ne.mpr k1
        have k1b:=eq_false k1
        clear k1
        by_cases k2:kind=2
        · subst k2
          go_enter Try.func41,Try.ntmps41
          go_wp2_with (first|(go_at_call 63;(with_reducible refine (hkc _).mono ?_);rintro e w2 ⟨rfl,⟨nd,rfl⟩⟩)|(go_at_call 64;(with_reducible refine (hvc _).mono ?_);rintro e w2 ⟨rfl,⟨nd,rfl⟩⟩)|(go_at_call 65;(with_reducible refine (hpg _).mono ?_);rintro e w2 ⟨rfl,⟨nd,rfl⟩⟩)|(go_at_call 65;(with_reducible refine (hpo _).mono ?_);rintro e w2 ⟨rfl,⟨nd,rfl⟩⟩))
          all_goals
            go_ret
            refine ⟨?_,?_⟩
            · rw [HR0.out]
              congr 1
              congr 1
              first
                | (simp [*,noText];done)
                | (simp [*,noText];intros;omega)
            · repeat (first|exact below_alloc (Below.refl _ _) _|refine below_drewN0 ?_ _)
        have k2a:(kind==2)=false:=beq_eq_false_iff_ne.mpr k2
        have k2b:=eq_false k2
        clear k2
        by_cases k3:kind=3
        · subst k3
          go_enter Try.func41,Try.ntmps41
          go_wp2_with (first|(go_at_call 63;(with_reducible refine (hkc _).mono ?_);rintro e w2 ⟨rfl,⟨nd,rfl⟩⟩)|(go_at_call 64;(with_reducible refine (hvc _).mono ?_);rintro e w2 ⟨rfl,⟨nd,rfl⟩⟩)|(go_at_call 65;(with_reducible refine (hpg _).mono ?_);rintro e w2 ⟨rfl,⟨nd,rfl⟩⟩)|(go_at_call 65;(with_reducible refine (hpo _).mono ?_);rintro e w2 ⟨rfl,⟨nd,rfl⟩⟩))
          all_goals
            go_ret
            refine ⟨?_,?_⟩
            · rw [HR0.out]
              congr 1
              congr 1
              first
                | (simp [*,noText];done)
                | (simp [*,noText];intros;omega)
            · repeat (first|exact below_alloc (Below.refl _ _) _|refine below_drewN0 ?_ _)
        have k3a:(kind==3)=false:=beq_eq_false_iff_ne.mpr k3
        have k3b:=eq_false k3
        clear k3
        by_cases k5:kind=5
        · subst k5
          go_enter Try.func41,Try.ntmps41
          go_wp2_with (first|(go_at_call 63;(with_reducible refine (hkc _).mono ?_);rintro e w2 ⟨rfl,⟨nd,rfl⟩⟩)|(go_at_call 64;(with_reducible refine (hvc _).mono ?_);rintro e w2 ⟨rfl,⟨nd,rfl⟩⟩)|(go_at_call 65;(with_reducible refine (hpg _).mono ?_);rintro e w2 ⟨rfl,⟨nd,rfl⟩⟩)|(go_at_call 65;(with_reducible refine (hpo _).mono ?_);rintro e w2 ⟨rfl,⟨nd,rfl⟩⟩))
          all_goals
            go_ret
            refine ⟨?_,?_⟩
            · rw [HR0.out]
              congr 1
              congr 1
              first
                | (simp [*,noText];done)
                | (simp [*,noText];intros;omega)
            · repeat (first|exact below_alloc (Below.refl _ _) _|refine below_drewN0 ?_ _)
        have k5a:(kind==5)=false:=beq_eq_false_iff_ne.mpr k5
        have k5b:=eq_false k5
        clear k5
        by_cases k6:kind=6
        · subst k6
          go_enter Try.func41,Try.ntmps41
          go_wp2_with (first|(go_at_call 63;(with_reducible refine (hkc _).mono ?_);rintro e w2 ⟨rfl,⟨nd,rfl⟩⟩)|(go_at_call 64;(with_reducible refine (hvc _).mono ?_);rintro e w2 ⟨rfl,⟨nd,rfl⟩⟩)|(go_at_call 65;(with_reducible refine (hpg _).mono ?_);rintro e w2 ⟨rfl,⟨nd,rfl⟩⟩)|(go_at_call 65;(with_reducible refine (hpo _).mono ?_);rintro e w2 ⟨rfl,⟨nd,rfl⟩⟩))
          all_goals
            go_ret
            refine ⟨?_,?_⟩
            · rw [HR0.out]
              congr 1
              congr 1
              first
                | (simp [*,noText];done)
                | (simp [*,noText];intros;omega)
            · repeat (first|exact below_alloc (Below.refl _ _) _|refine below_drewN0 ?_ _)
        have k6a:(kind==6)=false:=beq_eq_false_iff_ne.mpr k6
        have k6b:=eq_false k6
        clear k6
        by_cases k4:kind=4
        · subst k4
          rw [HR0.out,if_neg (by decide),if_neg (by decide),if_neg (by decide),if_pos rfl,← HPB.out]
          exact refright4_ok lsn epoch page other key value hv hkc hkb HKB.out a1 a2 a3 a4 a5 a6 hvc w
        have k4a:(kind==4)=false:=beq_eq_false_iff_ne.mpr k4
        have k4b:=eq_false k4
        clear k4
        go_enter Try.func41,Try.ntmps41
        go_wp2_with (first|(go_at_call 63;(with_reducible refine (hkc _).mono ?_);rintro e w2 ⟨rfl,⟨nd,rfl⟩⟩)|(go_at_call 64;(with_reducible refine (hvc _).mono ?_);rintro e w2 ⟨rfl,⟨nd,rfl⟩⟩)|(go_at_call 65;(with_reducible refine (hpg _).mono ?_);rintro e w2 ⟨rfl,⟨nd,rfl⟩⟩)|(go_at_call 65;(with_reducible refine (hpo _).mono ?_);rintro e w2 ⟨rfl,⟨nd,rfl⟩⟩))
        all_goals
          go_ret
          refine ⟨?_,?_⟩
          · rw [HR0.out]
            congr 1
            congr 1
            first
              | (simp [*,noText];done)
              | (simp [*,noText];intros;omega)
          · repeat (first|exact below_alloc (Below.refl _ _) _|refine below_drewN0 ?_ _)
      · have hR:rightB lsn epoch kind page other req key value=false:=by
          unfold rightB
          rw [decide_eq_true ha,Bool.true_and,if_neg k7,decide_eq_false hq,Bool.false_and]
        rw [hR]
        have q1:(req==0)=false:=beq_eq_false_iff_ne.mpr hq
        have q2:(req != 0)=true:=bne_iff_ne.mpr hq
        have q3:=eq_false hq
        clear hR ha hq k7
        go_enter Try.func41,Try.ntmps41
        go_wp2_with (first|(go_at_call 63;(with_reducible refine (hkc _).mono ?_);rintro e w2 ⟨rfl,⟨nd,rfl⟩⟩)|(go_at_call 64;(with_reducible refine (hvc _).mono ?_);rintro e w2 ⟨rfl,⟨nd,rfl⟩⟩))
        go_ret
        exact ⟨rfl,by repeat (first|exact below_alloc (Below.refl _ _) _|refine below_drewN0 ?_ _)⟩
  · have hR:rightB lsn epoch kind page other req key value=false:=by
      unfold rightB
      rw [decide_eq_false ha,Bool.false_and]
    rw [hR]
    clear hR
    by_cases c1:lsn < 1
    · have d1:=eq_true c1
      clear ha c1
      go_enter Try.func41,Try.ntmps41
      go_wp2
      go_ret
      exact ⟨rfl,below_alloc (Below.refl _ _) _⟩
    · by_cases c2:lsn > 1099511627776
      · have d1:=eq_false c1
        have d2:=eq_true c2
        clear ha c1 c2
        go_enter Try.func41,Try.ntmps41
        go_wp2
        go_ret
        exact ⟨rfl,below_alloc (Below.refl _ _) _⟩
      · by_cases c3:epoch < 0
        · have d1:=eq_false c1
          have d2:=eq_false c2
          have d3:=eq_true c3
          clear ha c1 c2 c3
          go_enter Try.func41,Try.ntmps41
          go_wp2
          go_ret
          exact ⟨rfl,below_alloc (Below.refl _ _) _⟩
        · have d1:=eq_false c1
          have d2:=eq_false c2
          have d3:=eq_false c3
          have d4:(epoch > 1099511627776)=True:=eq_true (by omega)
          clear ha c1 c2 c3
          go_enter Try.func41,Try.ntmps41
          go_wp2
          go_ret
          exact ⟨rfl,below_alloc (Below.refl _ _) _⟩
end Go.Proofs.Ytgjibcfkjaedfaa.Rec
