-- A part of the text Prx3, thinned by a program of this session.
import Derived.Test.YtgjibcfkjaedfaaTHPrx0
namespace Go.Proofs.Ytgjibcfkjaedfaa.Pr
open Go.RowKit Go.Proofs.YtgjibcfkjaedfaaW.PrintWords Go.Proofs.YtgjibcfkjaedfaaW.PrintLast Go.Proofs.YtgjibcfkjaedfaaW.PrintMore
attribute [local go_sem] max2_int min2_int max_two min_two max_three min_three max_four min_four
set_option linter.unusedVariables false
set_option linter.unusedSimpArgs false
def record_paged.f (a0:Int):Option (Bool):=if a0≥1 then (some (decide (a0≤4096))) else (some false)
set_option maxHeartbeats 8000000 in
set_option maxRecDepth 100000 in
theorem record_paged.calls (a0:Int) (r:Bool) (w:World) (h:record_paged.f a0=some r) :
  Calls Try.prog 69 #[.int .i64 a0] w fun e w'=>e=.returned (.bool r)∧Drawn0 w w':=by
 have H:(if a0≥1 then (some (decide (a0≤4096))) else (some false))=some r:=h
 clear h
 by_cases c2:a0≥1
 ·rw [if_pos c2] at H
  have c2b0:decide (1≤a0)=true:=decide_eq_true c2
  clear c2
  obtain rfl:=Option.some.inj H
  go_enter Try.func69,Try.ntmps69
  go_wp2
  go_ret
  exact ⟨by first|rfl|(simp;done)|(simp [*];done),by repeat (first|exact Drawn0.refl _|apply Drawn0.step)⟩
 ·rw [if_neg c2] at H
  have c2b0:decide (1≤a0)=false:=decide_eq_false c2
  clear c2
  obtain rfl:=Option.some.inj H
  go_enter Try.func69,Try.ntmps69
  go_wp2
  go_ret
  exact ⟨by first|rfl|(simp;done)|(simp [*];done),by repeat (first|exact Drawn0.refl _|apply Drawn0.step)⟩
def key_Check.f (a0:ByteArray):Option (Int):=if a0.toList=([]:List UInt8) then (some 50) else (if (a0.size:Int) > 16 then (some 50) else (some 0))
set_option maxHeartbeats 8000000 in
set_option maxRecDepth 100000 in
theorem key_Check.calls (a0:ByteArray) (r:Int) (w:World) (h:key_Check.f a0=some r) :
  Calls Try.prog 72 #[.string a0] w fun e w'=>e=.returned (.int .i64 r)∧Drawn0 w w':=by
 have H:(if a0.toList=([]:List UInt8) then (some 50) else (if (a0.size:Int) > 16 then (some 50) else (some 0)))=some r:=h
 clear h
 by_cases c2:a0.toList=([]:List UInt8)
 ·rw [if_pos c2] at H
  have c2b0:(a0.toList==([]:List UInt8))=true:=beq_iff_eq.mpr c2
  have c2b1:(a0.toList != ([]:List UInt8))=false:=bne_eq_false_iff_eq.mpr c2
  clear c2
  obtain rfl:=Option.some.inj H
  go_enter Try.func72,Try.ntmps72
  go_wp2
  go_ret
  exact ⟨by first|rfl|(simp;done)|(simp [*];done),by repeat (first|exact Drawn0.refl _|apply Drawn0.step)⟩
 ·rw [if_neg c2] at H
  have c2b0:(a0.toList==([]:List UInt8))=false:=beq_eq_false_iff_ne.mpr c2
  have c2b1:(a0.toList != ([]:List UInt8))=true:=bne_iff_ne.mpr c2
  by_cases c3:(a0.size:Int) > 16
  ·rw [if_pos c3] at H
   have c3b0:decide (16 < (a0.size:Int))=true:=decide_eq_true c3
   have c3b1:decide (16 < a0.size)=true:=decide_eq_true (by omega)
   clear c3
   obtain rfl:=Option.some.inj H
   go_enter Try.func72,Try.ntmps72
   go_wp2
   go_ret
   exact ⟨by first|rfl|(simp;done)|(simp [*];done),by repeat (first|exact Drawn0.refl _|apply Drawn0.step)⟩
  ·rw [if_neg c3] at H
   have c3b0:decide (16 < (a0.size:Int))=false:=decide_eq_false c3
   have c3b1:decide (16 < a0.size)=false:=decide_eq_false (by omega)
   clear c3
   obtain rfl:=Option.some.inj H
   go_enter Try.func72,Try.ntmps72
   go_wp2
   go_ret
   exact ⟨by first|rfl|(simp;done)|(simp [*];done),by repeat (first|exact Drawn0.refl _|apply Drawn0.step)⟩
def page_in.f (a0:Int) (a1:Int):Option (Bool):=if a0≥0 then (some (decide (a0≤a1))) else (some false)
set_option maxHeartbeats 8000000 in
set_option maxRecDepth 100000 in
theorem page_in.calls (a0:Int) (a1:Int) (r:Bool) (w:World) (h:page_in.f a0 a1=some r) :
  Calls Try.prog 115 #[.int .i64 a0,.int .i64 a1] w fun e w'=>e=.returned (.bool r)∧Drawn0 w w':=by
 have H:(if a0≥0 then (some (decide (a0≤a1))) else (some false))=some r:=h
 clear h
 by_cases c3:a0≥0
 ·rw [if_pos c3] at H
  have c3b0:decide (0≤a0)=true:=decide_eq_true c3
  clear c3
  obtain rfl:=Option.some.inj H
  go_enter Try.func115,Try.ntmps115
  go_wp2
  go_ret
  exact ⟨by first|rfl|(simp;done)|(simp [*];done),by repeat (first|exact Drawn0.refl _|apply Drawn0.step)⟩
 ·rw [if_neg c3] at H
  have c3b0:decide (0≤a0)=false:=decide_eq_false c3
  clear c3
  obtain rfl:=Option.some.inj H
  go_enter Try.func115,Try.ntmps115
  go_wp2
  go_ret
  exact ⟨by first|rfl|(simp;done)|(simp [*];done),by repeat (first|exact Drawn0.refl _|apply Drawn0.step)⟩
def badV (v:ByteArray):Bool:=decide ((v.size:Int) > 32)
def badK (k:Int):Bool:=decide (k < 1) || decide (k > 4096)
theorem parts_val (x:ByteArray) (w:World):Calls Try.prog 118 #[.string x] w fun e w'=>e=.returned (.bool (badV x))∧Drawn0 w w':=by
 have hb:∃ b,badV x=b∧decide ((x.size:Int) > 32)=b:=⟨_,rfl,rfl⟩
 obtain ⟨b,h1,h2⟩:=hb
 rw [h1]
 clear h1
 cases b
 all_goals
  go_enter Try.func118,Try.ntmps118
  go_wp2
  go_ret
  exact ⟨rfl,⟨⟨0,rfl⟩⟩⟩
theorem parts_kid (x:Int) (w:World):Calls Try.prog 120 #[.int .i64 x] w fun e w'=>e=.returned (.bool (badK x))∧Drawn0 w w':=by
 unfold badK
 rcases h1:decide (x < 1)
 all_goals
  go_enter Try.func120,Try.ntmps120
  go_wp2
  go_ret
  exact ⟨rfl,⟨⟨0,rfl⟩⟩⟩
def firstB {α:Type} (p:α→Bool):List α→Int
 | [] => -1
 | x::r=>if p x=true then 0 else (if firstB p r = -1 then -1 else firstB p r+1)
theorem firstB_hit {α:Type} (p:α→Bool) (z:α):∀ (l:List α) (i:Nat),i < l.length→p (rdOf z l i)=true→(∀ j,j < i→p (rdOf z l j)=false)→firstB p l=i
 | [],i,h,_,_=>by simp at h
 | x::r,0,h,h1,h2=>by
  have:p x=true:=h1
  simp [firstB,this]
 | x::r,i+1,h,h1,h2=>by
  have h0:p x=false:=h2 0 (by omega)
  have ih:=firstB_hit p z r i (by simpa using h) (by simpa [rdOf] using h1) (fun j hj=>by simpa [rdOf] using h2 (j+1) (by omega))
  simp only [firstB,h0,ih]
  rw [if_neg (by decide),if_neg (by omega)]
  omega
theorem firstB_miss {α:Type} (p:α→Bool) (z:α):∀ (l:List α),(∀ j,j < l.length→p (rdOf z l (j:Nat))=false)→firstB p l = -1
 | [],_=>rfl
 | x::r,h=>by
  have h0:p x=false:=h 0 (by simp)
  have ih:=firstB_miss p z r (fun j hj=>by simpa [rdOf] using h (j+1) (by simpa using hj))
  simp [firstB,h0,ih]
theorem firstB_any {α:Type} (p:α→Bool):∀ (l:List α),decide (firstB p l≥0)=l.any p
 | []=>rfl
 | x::r=>by
  have ih:=firstB_any p r
  rw [List.any_cons,← ih]
  cases h:p x
  ·by_cases k:firstB p r = -1
   ·simp [firstB,h,k]
   ·by_cases k2:firstB p r≥0
    ·have:firstB p r+1≥0:=by omega
     simp [firstB,h,k,k2,this]
    ·exfalso
     have h3:∀ l:List α,firstB p l = -1∨0≤firstB p l:=by
      intro l
      induction l with
      | nil=>exact .inl rfl
      | cons y t iht =>
       simp only [firstB]
       split
       ·exact .inr (Int.le_refl _)
       ·split
        ·exact .inl rfl
        ·exact .inr (by omega)
     rcases h3 r with h4|h4
     ·exact k h4
     ·exact k2 h4
  ·simp [firstB,h]
set_option maxHeartbeats 4000000 in
set_option maxRecDepth 100000 in
theorem indexV_calls (A:Option Addr) (c:Nat) (l:List ByteArray) (w:World) (hr:Kd.C Kd.string w A l.length l) :
  Calls Try.prog 122 #[.slice A l.length c,.func (.func 118) #[] #[]] w fun e w'=>e=.returned (.int .i64 (firstB badV l))∧Drawn0 w w':=by
 have hlen:l.length≤9223372036854775807:=hr.2.1
 have HR:=Aside0.mk hr
 clear hr
 have eg:∀ args w,(callFunc 118 args).run Try.prog w=.ok (.enter 118 args) w:=Go.Proofs.enters_of Try.func118 (by kernel_rfl) rfl
 go_enter Try.func122,Try.ntmps122
 go_wp2
 go_loopg [5,8] l.length (fun gg _ s8 wr=>∃ kk q:Nat,kk≤l.length∧l.length - kk≤gg∧s8=.int .i64 kk∧wr=w.drewN q∧Aside0 (∀ j,j < kk→badV (rdOf ByteArray.empty l (j:Nat))=false))
 case atStart=>exact ⟨0,0,Nat.zero_le _,by omega,rfl,rfl,⟨fun j hj=>absurd hj (Nat.not_lt_zero _)⟩⟩
 case round =>
  obtain ⟨kk,q,hkk,hg,rfl,rfl,AS⟩:=hrel
  by_cases hlt:kk < l.length
  ·have hltz:(kk:Int) < (l.length:Int):=by omega
   obtain ⟨ad,rfl,hcell⟩:=Kd.at_string HR.out (kk:Int) (by omega) (by omega)
   rw [Int.toNat_natCast] at hcell
   generalize hy:rdOf ByteArray.empty l (kk:Int)=y at hcell
   have HY:=Aside0.mk hy
   clear hy
   obtain ⟨ab,ao,aa⟩:=ad
   have hcall:=parts_val y
   cases hq:badV y with
   | true =>
    rw [hq] at hcall
    go_wp2_with (go_at_fn 118;refine (hcall _).mono ?_;rintro e w' ⟨rfl,⟨q',rfl⟩⟩)
    go_ret
    refine ⟨?_,⟨⟨_,rfl⟩⟩⟩
    rw [firstB_hit badV ByteArray.empty l kk hlt (by rw [HY.out];exact hq) AS.out]
    rfl
   | false =>
    rw [hq] at hcall
    go_wp2_with (go_at_fn 118;refine (hcall _).mono ?_;rintro e w' ⟨rfl,⟨q',rfl⟩⟩)
    go_roundg (l.length - (kk+1))
    case measure=>omega
    case rel =>
     refine ⟨kk+1,_,by omega,by omega,by go_num,rfl,⟨fun j hj=>?_⟩⟩
     by_cases e:j=kk
     ·subst e
      rw [HY.out];exact hq
     ·exact AS.out j (by omega)
  ·have hltz:¬ (kk:Int) < (l.length:Int):=by omega
   go_wp2
   go_ret
   have:kk=l.length:=by omega
   subst this
   exact ⟨by rw [firstB_miss badV ByteArray.empty l AS.out];rfl,⟨⟨q,rfl⟩⟩⟩
set_option maxHeartbeats 4000000 in
set_option maxRecDepth 100000 in
theorem indexK_calls (A:Option Addr) (c:Nat) (l:List Int) (w:World) (hr:Kd.C (Kd.int .i64) w A l.length l) :
  Calls Try.prog 123 #[.slice A l.length c,.func (.func 120) #[] #[]] w fun e w'=>e=.returned (.int .i64 (firstB badK l))∧Drawn0 w w':=by
 have hlen:l.length≤9223372036854775807:=hr.2.1
 have HR:=Aside0.mk hr
 clear hr
 have eg:∀ args w,(callFunc 120 args).run Try.prog w=.ok (.enter 120 args) w:=Go.Proofs.enters_of Try.func120 (by kernel_rfl) rfl
 go_enter Try.func123,Try.ntmps123
 go_wp2
 go_loopg [5,8] l.length (fun gg _ s8 wr=>∃ kk q:Nat,kk≤l.length∧l.length - kk≤gg∧s8=.int .i64 kk∧wr=w.drewN q∧Aside0 (∀ j,j < kk→badK (rdOf 0 l (j:Nat))=false))
 case atStart=>exact ⟨0,0,Nat.zero_le _,by omega,rfl,rfl,⟨fun j hj=>absurd hj (Nat.not_lt_zero _)⟩⟩
 case round =>
  obtain ⟨kk,q,hkk,hg,rfl,rfl,AS⟩:=hrel
  by_cases hlt:kk < l.length
  ·have hltz:(kk:Int) < (l.length:Int):=by omega
   obtain ⟨ad,rfl,hcell⟩:=Kd.at_int HR.out (kk:Int) (by omega) (by omega)
   rw [Int.toNat_natCast] at hcell
   have hy:rdOf 0 l (kk:Int)=rd l (kk:Int):=rfl
   generalize rd l (kk:Int)=y at hcell hy
   have HY:=Aside0.mk hy
   clear hy
   obtain ⟨ab,ao,aa⟩:=ad
   have hcall:=parts_kid y
   cases hq:badK y with
   | true =>
    rw [hq] at hcall
    go_wp2_with (go_at_fn 120;refine (hcall _).mono ?_;rintro e w' ⟨rfl,⟨q',rfl⟩⟩)
    go_ret
    refine ⟨?_,⟨⟨_,rfl⟩⟩⟩
    rw [firstB_hit badK 0 l kk hlt (by rw [HY.out];exact hq) AS.out]
    rfl
   | false =>
    rw [hq] at hcall
    go_wp2_with (go_at_fn 120;refine (hcall _).mono ?_;rintro e w' ⟨rfl,⟨q',rfl⟩⟩)
    go_roundg (l.length - (kk+1))
    case measure=>omega
    case rel =>
     refine ⟨kk+1,_,by omega,by omega,by go_num,rfl,⟨fun j hj=>?_⟩⟩
     by_cases e:j=kk
     ·subst e
      rw [HY.out];exact hq
     ·exact AS.out j (by omega)
  ·have hltz:¬ (kk:Int) < (l.length:Int):=by omega
   go_wp2
   go_ret
   have:kk=l.length:=by omega
   subst this
   exact ⟨by rw [firstB_miss badK 0 l AS.out];rfl,⟨⟨q,rfl⟩⟩⟩
theorem containsV_calls (A:Option Addr) (c:Nat) (l:List ByteArray) (w:World) (hr:Kd.C Kd.string w A l.length l) :
  Calls Try.prog 119 #[.slice A l.length c,.func (.func 118) #[] #[]] w fun e w'=>e=.returned (.bool (l.any badV))∧Drawn0 w w':=by
 have h:=indexV_calls A c l w hr
 rw [← firstB_any]
 generalize firstB badV l=i at h ⊢
 have hlen:l.length≤9223372036854775807:=hr.2.1
 clear hr
 go_enter Try.func119,Try.ntmps119
 go_wp2_with (go_at_call 122;refine h.mono ?_;rintro e w' ⟨rfl,⟨q,rfl⟩⟩)
 go_ret
 exact ⟨rfl,⟨⟨_,rfl⟩⟩⟩
theorem containsK_calls (A:Option Addr) (c:Nat) (l:List Int) (w:World) (hr:Kd.C (Kd.int .i64) w A l.length l) :
  Calls Try.prog 121 #[.slice A l.length c,.func (.func 120) #[] #[]] w fun e w'=>e=.returned (.bool (l.any badK))∧Drawn0 w w':=by
 have h:=indexK_calls A c l w hr
 rw [← firstB_any]
 generalize firstB badK l=i at h ⊢
 have hlen:l.length≤9223372036854775807:=hr.2.1
 clear hr
 go_enter Try.func121,Try.ntmps121
 go_wp2_with (go_at_call 123;refine h.mono ?_;rintro e w' ⟨rfl,⟨q,rfl⟩⟩)
 go_ret
 exact ⟨rfl,⟨⟨_,rfl⟩⟩⟩
def partsB (lv:Int) (keys vals:List ByteArray) (kids:List Int):Bool :=
 if lv=0 then decide (vals.length=keys.length)&&(decide (kids.length=0)&&!(vals.any badV)) else decide (kids.length=keys.length+1)&&(decide (vals.length=0)&&!(kids.any badK))
def page_parts.f (a0_0 a0_1 a0_2:Int) (a0_3:ByteArray) (l0_4 l0_5:List ByteArray) (l0_6:List Int):Option Bool:=if l0_4.length < 9223372036854775807 then some (partsB a0_0 l0_4 l0_5 l0_6) else none
set_option maxHeartbeats 4000000 in
set_option maxRecDepth 100000 in
theorem page_parts.calls (a0_0:Int) (a0_1:Int) (a0_2:Int) (a0_3:ByteArray) (A0_4:Option Addr) (c0_4:Nat) (l0_4:List ByteArray) (A0_5:Option Addr) (c0_5:Nat) (l0_5:List ByteArray) (A0_6:Option Addr) (c0_6:Nat) (l0_6:List Int) (r:Bool) (w:World) (hr0_4:Kd.C Kd.string w A0_4 l0_4.length l0_4) (hc0_4:l0_4.length≤c0_4) (hr0_5:Kd.C Kd.string w A0_5 l0_5.length l0_5) (hc0_5:l0_5.length≤c0_5) (hr0_6:Kd.C (Kd.int .i64) w A0_6 l0_6.length l0_6) (hc0_6:l0_6.length≤c0_6) (h:page_parts.f a0_0 a0_1 a0_2 a0_3 l0_4 l0_5 l0_6=some r) :
  Calls Try.prog 116 #[.agg #[.int .i64 a0_0,.int .i64 a0_1,.int .i64 a0_2,.string a0_3,.slice A0_4 l0_4.length c0_4,.slice A0_5 l0_5.length c0_5,.slice A0_6 l0_6.length c0_6]] w fun e w'=>e=.returned (.bool r)∧Below w.heap.size w w':=by
 unfold page_parts.f at h
 split at h
 ·rename_i hk4
  injection h with h
  subst h
  have hv:=containsV_calls A0_5 c0_5 l0_5 _ (Kd.C_below hr0_5 (below_alloc (Below.refl _ _) (.cells #[.int .i64 a0_0,.int .i64 a0_1,.int .i64 a0_2,.string a0_3,.slice A0_4 l0_4.length c0_4,.slice A0_5 l0_5.length c0_5,.slice A0_6 l0_6.length c0_6] 113)))
  have hk:=containsK_calls A0_6 c0_6 l0_6 _ (Kd.C_below hr0_6 (below_alloc (Below.refl _ _) (.cells #[.int .i64 a0_0,.int .i64 a0_1,.int .i64 a0_2,.string a0_3,.slice A0_4 l0_4.length c0_4,.slice A0_5 l0_5.length c0_5,.slice A0_6 l0_6.length c0_6] 113)))
  have HB:=Aside0.mk (below_alloc (Below.refl w.heap.size w) (.cells #[.int .i64 a0_0,.int .i64 a0_1,.int .i64 a0_2,.string a0_3,.slice A0_4 l0_4.length c0_4,.slice A0_5 l0_5.length c0_5,.slice A0_6 l0_6.length c0_6] 113))
  have hl5:l0_5.length≤9223372036854775807:=hr0_5.2.1
  have hl6:l0_6.length≤9223372036854775807:=hr0_6.2.1
  have hw1:IntKind.i64.wrap ((l0_4.length:Int)+1)=(l0_4.length:Int)+1:=by
   rw [IntKind.wrap_i64]
   omega
  unfold partsB
  generalize l0_5.any badV=bv at hv ⊢
  generalize l0_6.any badK=bk at hk ⊢
  have hl4:l0_4.length≤9223372036854775807:=by omega
  clear hr0_4 hr0_5 hr0_6 hc0_4 hc0_5 hc0_6
  generalize l0_4.length=n4 at *
  generalize l0_5.length=n5 at *
  generalize l0_6.length=n6 at *
  by_cases h0:a0_0=0
  ·rw [if_pos h0]
   have d0:(a0_0==0)=true:=beq_iff_eq.mpr h0
   clear h0 hk
   by_cases h1:n5=n4
   ·rw [decide_eq_true h1]
    have d1:((n5:Int)==(n4:Int))=true:=beq_iff_eq.mpr (by omega)
    have d1n:(n5==n4)=true:=beq_iff_eq.mpr h1
    clear h1
    by_cases h2:n6=0
    ·rw [decide_eq_true h2]
     have d2:((n6:Int)==0)=true:=beq_iff_eq.mpr (by omega)
     have d2n:(n6==0)=true:=beq_iff_eq.mpr h2
     clear h2
     go_enter Try.func116,Try.ntmps116
     go_wp2_with (go_at_call 119;refine hv.mono ?_;rintro e w' ⟨rfl,⟨q,rfl⟩⟩)
     go_ret
     exact ⟨rfl,pw_below_drewN HB.out _⟩
    ·rw [decide_eq_false h2]
     have d2:((n6:Int)==0)=false:=beq_eq_false_iff_ne.mpr (by omega)
     have d2n:(n6==0)=false:=beq_eq_false_iff_ne.mpr h2
     clear h2
     go_enter Try.func116,Try.ntmps116
     go_wp2
     go_ret
     exact ⟨rfl,HB.out⟩
   ·rw [decide_eq_false h1]
    have d1:((n5:Int)==(n4:Int))=false:=beq_eq_false_iff_ne.mpr (by omega)
    have d1n:(n5==n4)=false:=beq_eq_false_iff_ne.mpr h1
    clear h1
    go_enter Try.func116,Try.ntmps116
    go_wp2
    go_ret
    exact ⟨rfl,HB.out⟩
  ·rw [if_neg h0]
   have d0:(a0_0==0)=false:=beq_eq_false_iff_ne.mpr h0
   clear h0 hv
   by_cases h1:n6=n4+1
   ·rw [decide_eq_true h1]
    have d1:((n6:Int)==(n4:Int)+1)=true:=beq_iff_eq.mpr (by omega)
    clear h1
    by_cases h2:n5=0
    ·rw [decide_eq_true h2]
     have d2:((n5:Int)==0)=true:=beq_iff_eq.mpr (by omega)
     have d2n:(n5==0)=true:=beq_iff_eq.mpr h2
     clear h2
     go_enter Try.func116,Try.ntmps116
     go_wp2_with (go_at_call 121;refine hk.mono ?_;rintro e w' ⟨rfl,⟨q,rfl⟩⟩)
     go_ret
     exact ⟨rfl,pw_below_drewN HB.out _⟩
    ·rw [decide_eq_false h2]
     have d2:((n5:Int)==0)=false:=beq_eq_false_iff_ne.mpr (by omega)
     have d2n:(n5==0)=false:=beq_eq_false_iff_ne.mpr h2
     clear h2
     go_enter Try.func116,Try.ntmps116
     go_wp2
     go_ret
     exact ⟨rfl,HB.out⟩
   ·rw [decide_eq_false h1]
    have d1:((n6:Int)==(n4:Int)+1)=false:=beq_eq_false_iff_ne.mpr (by omega)
    clear h1
    go_enter Try.func116,Try.ntmps116
    go_wp2
    go_ret
    exact ⟨rfl,HB.out⟩
 ·cases h
end Go.Proofs.Ytgjibcfkjaedfaa.Pr
