-- A part of the text RefRd, thinned by a program of this session.
import Derived.Test.YtgjibcfkjaedfaaTHRead
namespace Go.Proofs.Ytgjibcfkjaedfaa.Wire
open Go.RowKit Go.Proofs.YtgjibcfkjaedfaaW.PrintWords Go.Proofs.YtgjibcfkjaedfaaW.PrintLast Go.Proofs.YtgjibcfkjaedfaaW.PrintMore
open Go.Proofs.Ytgjibcfkjaedfaa.Back (numB numB_small numB_eight AllB hor hor_lt hor_last hor_at hor_drop_le pow_le7)
set_option linter.unusedVariables false
set_option linter.unusedSimpArgs false
abbrev RfAt:=RdT 136
theorem sized_ref (size:Int) (w:World):Calls Try.prog 101 #[.int .i64 size] w fun e w'=>e=.returned (.bool (sizedB size))∧Drawn0 w w':=by
 by_cases h1:size=1
 ·rw [sizedB_yes (.inl h1)]
  subst h1
  go_enter Try.func101,Try.ntmps101
  go_wp2
  repeat (go_quiet (fail);try go_wp2)
  go_ret
  exact ⟨rfl,by repeat (first|exact Drawn0.refl _|apply Drawn0.step)⟩
 ·by_cases h2:size=2
  ·rw [sizedB_yes (.inr (.inl h2))]
   subst h2
   go_enter Try.func101,Try.ntmps101
   go_wp2
   repeat (go_quiet (fail);try go_wp2)
   go_ret
   exact ⟨rfl,by repeat (first|exact Drawn0.refl _|apply Drawn0.step)⟩
  ·by_cases h4:size=4
   ·rw [sizedB_yes (.inr (.inr (.inl h4)))]
    subst h4
    go_enter Try.func101,Try.ntmps101
    go_wp2
    repeat (go_quiet (fail);try go_wp2)
    go_ret
    exact ⟨rfl,by repeat (first|exact Drawn0.refl _|apply Drawn0.step)⟩
   ·by_cases h8:size=8
    ·rw [sizedB_yes (.inr (.inr (.inr h8)))]
     subst h8
     go_enter Try.func101,Try.ntmps101
     go_wp2
     repeat (go_quiet (fail);try go_wp2)
     go_ret
     exact ⟨rfl,by repeat (first|exact Drawn0.refl _|apply Drawn0.step)⟩
    ·rw [sizedB_no (by omega)]
     have c1:(size==1)=false:=beq_eq_false_iff_ne.mpr h1
     have c2:(size==2)=false:=beq_eq_false_iff_ne.mpr h2
     have c4:(size==4)=false:=beq_eq_false_iff_ne.mpr h4
     have c8:(size==8)=false:=beq_eq_false_iff_ne.mpr h8
     clear h1 h2 h4 h8
     go_enter Try.func101,Try.ntmps101
     go_wp2
     repeat (go_quiet (fail);try go_wp2)
     go_ret
     exact ⟨rfl,by repeat (first|exact Drawn0.refl _|apply Drawn0.step)⟩
set_option maxHeartbeats 4000000 in
set_option maxRecDepth 100000 in
theorem rfnum_ok (g:Nat) (xs:List Int) (wrong size:Int) (F:Nat→Prop) (w:World) (hr:RfAt w g xs wrong F) (hl:xs.length≤140737488355328) (hb:AllB xs) :
  Calls Try.prog 84 #[.pointer (some ⟨g,0,none⟩),.int .i64 size] w fun e w'=>e=.returned (.tuple #[.int .i64 (rdNum xs wrong size).1.1,.int .i64 (rdNum xs wrong size).1.2])∧RfAt w' g (rdNum xs wrong size).2.1 (rdNum xs wrong size).2.2 F∧Chg w w' (At g):=by
 have hcall:=fun W=>sized_ref size W
 unfold rdNum
 cases hs:sizedB size with
 | false =>
  rw [if_pos rfl]
  rw [hs] at hcall
  have HR:=Aside0.mk hr
  clear hr hs
  go_enter Try.func84,Try.ntmps84
  go_wp2_with (go_at_call 101;refine (hcall _).mono ?_;rintro e w' ⟨rfl,⟨nd,rfl⟩⟩)
  go_ret2
  exact ⟨rfl,HR.out.chg ((Chg.refl w (fun _=>False)).drewN _) (fun _ _ h=>h),(Chg.refl _ _).drewN _⟩
 | true =>
  rw [if_neg (by decide)]
  rw [hs] at hcall
  have hs0:size=1∨size=2∨size=4∨size=8:=of_decide_eq_true hs
  obtain ⟨s,hsz⟩:∃ s:Nat,size=s:=⟨size.toNat,by omega⟩
  subst hsz
  rw [Int.toNat_natCast]
  obtain ⟨A,c,h1,h2,h3,h4,h5,h6⟩:=hr
  obtain ⟨hc0,hc1,hf0,hf1⟩:=two_cells h1
  have hgl:=blk_lt h1
  by_cases hw:wrong=0
  ·rw [if_neg (by omega)]
   subst hw
   by_cases hlt:(xs.length:Int) < s
   ·rw [if_pos hlt]
    have HR:=Aside0.mk (rd_wrong (show RfAt w g xs 0 F from ⟨A,c,h1,h2,h3,h4,h5,h6⟩) 10)
    have d2:xs.length < s:=by omega
    clear h1 h2 h3 h4 h6 hs hs0
    go_enter Try.func84,Try.ntmps84
    go_wp2_with (go_at_call 101;refine (hcall _).mono ?_;rintro e w' ⟨rfl,⟨nd,rfl⟩⟩)
    go_quiet (fail)
    go_wp2
    go_ret2
    exact ⟨rfl,HR.out.1.chg ((Chg.refl _ (fun _=>False)).drewN _ |>.drewN _) (fun _ _ h=>h),(HR.out.2.drewN _).drewN _⟩
   ·rw [if_neg hlt]
    have hle:s≤xs.length:=by omega
    have d2:¬ xs.length < s:=by omega
    have hsI:(s:Int)≤(xs.length:Int):=by omega
    have hs8:s≤8:=by omega
    have hs1:1≤s:=by omega
    obtain ⟨ad,rfl⟩:∃ ad,A=some ad:=by
     obtain ⟨ad,e,_⟩:=h3.2.2 (by omega)
     exact ⟨ad,e⟩
    have htk:(xs.take s).length=s:=by rw [List.length_take];omega
    have hbt:AllB (xs.take s):=fun x hx=>hb x (List.mem_of_mem_take hx)
    have hg7:s=8→(xs.take s).getD 7 0=xs.getD 7 0:=by
     intro e
     subst e
     simp only [List.getD_eq_getElem?_getD]
     rw [List.getElem?_take_of_lt (by omega)]
    have hcell:∀ m:Nat,m < xs.length→w.cell? (ad.add m)=some (.int .u8 (xs.getD m 0)):=by
     intro m hm
     obtain ⟨ad',e,hc⟩:=C_cells h3 (by omega)
     injection e with e
     subst e
     refine hc m _ ?_
     simp only [nums,List.getElem?_map,List.getElem?_eq_getElem hm,List.getD_eq_getElem?_getD,Option.map_some,Option.getD_some]
    have hkind:(s=8∧127 < xs.getD 7 0∧numB (xs.take s) < 0)∨(hor (xs.take s) < 9223372036854775808∧numB (xs.take s)=hor (xs.take s)∧(s=8→xs.getD 7 0≤127)):=by
     by_cases e8:s=8
     ·obtain ⟨q1,q2⟩:=numB_eight hbt (htk.trans e8)
      rw [hg7 e8] at q1 q2
      by_cases hx:xs.getD 7 0≤127
      ·refine .inr ⟨(hor_last (htk.trans e8) hbt).2 (by rw [hg7 e8];exact hx),q1 hx,fun _=>hx⟩
      ·exact .inl ⟨e8,by omega,q2 (by omega)⟩
     ·refine .inr ⟨?_,numB_small hbt (by omega),fun h=>absurd h e8⟩
      have:=Nat.lt_of_lt_of_le (hor_lt hbt) (pow_le7 (n:=(xs.take s).length) (by omega))
      omega
    rcases hkind with ⟨rfl,hx,hneg⟩|⟨hfit,hnb,h7⟩
    ·rw [if_pos hneg]
     have HR:=Aside0.mk (rd_wrong (show RfAt w g xs 0 F from ⟨some ad,c,h1,h2,h3,h4,h5,h6⟩) 1)
     obtain ⟨m,hm⟩:∃ m:Nat,m=7:=⟨_,rfl⟩
     have hx7:=hcell m (by omega)
     have hl7:(m:Int) < (xs.length:Int):=by omega
     have hl0:(0:Int)≤(m:Int):=by omega
     have hlm:((m:Int)==7)=true:=beq_iff_eq.mpr (by omega)
     rw [← hm] at hx
     generalize xs.getD m 0=x7 at hx hx7
     have HM:=Aside0.mk hm
     clear h1 h2 h3 h4 h6 hs hs0 hcell hneg hbt htk hg7 hm
     go_enter Try.func84,Try.ntmps84
     go_wp2_with (go_at_call 101;refine (hcall _).mono ?_;rintro e w' ⟨rfl,⟨nd,rfl⟩⟩)
     go_loopw [6,7] (fun v6 v7 wr=>v6=.int .i64 0∧v7=.int .i64 (m:Int)∧wr=w.drewN nd) (fun _ _ _=>0)
     case atStart=>exact ⟨rfl,by rw [HM.out];rfl,rfl⟩
     case round =>
      obtain ⟨rfl,rfl,rfl⟩:=hrel
      go_wp2
      go_quiet (fail)
      go_wp2
      go_ret2
      exact ⟨rfl,HR.out.1.chg ((Chg.refl _ (fun _=>False)).drewN _ |>.drewN _) (fun _ _ h=>h),(HR.out.2.drewN _).drewN _⟩
    ·rw [if_neg (by omega),hnb]
     have hstep:∀ m:Nat,m < s→(hor ((xs.take s).drop m):Int)=(hor ((xs.take s).drop (m+1)):Int)*256+xs.getD m 0∧hor ((xs.take s).drop m)≤hor (xs.take s)∧0≤xs.getD m 0∧xs.getD m 0 < 256:=by
      intro m hm
      have e:=hor_at (l:=xs.take s) (m:=m) (by omega)
      have e2:(xs.take s).getD m 0=xs.getD m 0:=by
       simp only [List.getD_eq_getElem?_getD]
       rw [List.getElem?_take_of_lt hm]
      have hx:0≤xs.getD m 0∧xs.getD m 0 < 256:=by
       rw [List.getD_eq_getElem?_getD,List.getElem?_eq_getElem (by omega),Option.getD_some]
       exact hb _ (List.getElem_mem _)
      rw [e2] at e
      exact ⟨by omega,hor_drop_le _ _,hx⟩
     have hend:hor ((xs.take s).drop s)=0:=by
      rw [List.drop_of_length_le (by omega)]
      rfl
     have hcut2:∀ W:World,(Instr.slice 67 (.slice (some ad) xs.length c) (some (.int .i64 (s:Int))) none none).run Try.prog W=.ok (.slice (if c=s then some ad else some (ad.add s)) (xs.length - s) (c - s)) W:=by
      intro W
      have h:=cut_from (P:=Try.prog) 67 5 .i64 Try.underlying67 (info_parts info8).choose_spec.1 1 (info_parts info8).choose_spec.2.2.1 (some ad) xs.length c (s:Int) (by omega) (by omega) W
      rw [Int.toNat_natCast,Nat.mul_one] at h
      exact h
     obtain ⟨A4,hA4⟩:∃ a,a=(if c=s then some ad else some (ad.add s)):=⟨_,rfl⟩
     obtain ⟨n4,hn4⟩:∃ a,a=xs.length - s:=⟨_,rfl⟩
     obtain ⟨c4,hc4⟩:∃ a,a=c - s:=⟨_,rfl⟩
     rw [← hA4,← hn4,← hc4] at hcut2
     have fin:∀ q,RfAt ((w.drewN q).setCell ⟨g,0,none⟩ (.slice A4 n4 c4)) g (xs.drop s) 0 F∧Chg w ((w.drewN q).setCell ⟨g,0,none⟩ (.slice A4 n4 c4)) (At g):=by
      intro q
      have hW:=(Chg.refl w (fun _=>False)).drewN q
      have hd:=rd_drop (m:=s) (hW.blk h1 (fun h=>h)) h2 (C_chg h3 hW (fun _ _ _ h=>h)) h4 h5 h6 hle (by omega)
      rw [hA4,hn4,hc4]
      exact ⟨hd.1,(hW.mono (fun _ h=>h.elim)).trans hd.2 (fun _ h=>.inl h)⟩
     have FIN:=Aside0.mk fin
     have HSTEP:=Aside0.mk hstep
     have HCELL:=Aside0.mk hcell
     have HEND:=Aside0.mk hend
     have H7:=Aside0.mk h7
     generalize hN:hor (xs.take s)=N at hfit HSTEP ⊢
     have HN:=Aside0.mk hN
     clear hN
     clear h1 h2 h3 h4 h6 hs hs0 hcell hbt htk hg7 hb hnb hstep fin hend h7 hA4 hn4 hc4 hlt
     go_enter Try.func84,Try.ntmps84
     go_wp2_with (go_at_call 101;refine (hcall _).mono ?_;rintro e w' ⟨rfl,⟨nd,rfl⟩⟩)
     go_loopw [6,7] (fun v6 v7 wr=>∃ k:Nat,k≤s∧v7=.int .i64 ((s:Int) - 1 - k)∧v6=.int .i64 (hor ((xs.take s).drop (s - k)):Int)∧∃ q,wr=w.drewN q) (fun _ v7 _=>(intOf v7+1).toNat)
     case atStart=>exact ⟨0,Nat.zero_le _,by go_num,by rw [Nat.sub_zero,HEND.out];rfl,nd,rfl⟩
     case round =>
      obtain ⟨k,hk,rfl,rfl,q,rfl⟩:=hrel
      by_cases hks:k < s
      ·obtain ⟨m,hm⟩:∃ m:Nat,m=s - 1 - k:=⟨_,rfl⟩
       have em:((s:Int) - 1 - k)=(m:Int):=by omega
       have em2:s - k=m+1:=by omega
       rw [em,em2]
       have hmI:(0:Int)≤(m:Int):=by omega
       have hmL:(m:Int) < (xs.length:Int):=by omega
       have hcm:=HCELL.out m (by omega)
       obtain ⟨e1,e2,e3,e4⟩:=HSTEP.out m (by omega)
       have H77:m=7→xs.getD m 0≤127:=fun e=>by subst e;exact H7.out (by omega)
       generalize hor ((xs.take s).drop (m+1))=a at e1
       generalize hE:hor ((xs.take s).drop m)=b at e1 e2
       generalize xs.getD m 0=x at hcm e1 e3 e4 H77
       have HE:=Aside0.mk hE
       have HM:=Aside0.mk hm
       have E1:=Aside0.mk e1
       have hw1:IntKind.i64.wrap ((a:Int)*256)=(a:Int)*256:=by rw [IntKind.wrap_i64];omega
       have hw2:IntKind.i64.wrap ((a:Int)*256+x)=(a:Int)*256+x:=by rw [IntKind.wrap_i64];omega
       have hw3:IntKind.i64.wrap x=x:=by rw [IntKind.wrap_i64];omega
       clear hE hm e1
       by_cases h7:m=7
       ·have d7:((m:Int)==7)=true:=beq_iff_eq.mpr (by omega)
        have dx:decide (x > 127)=false:=decide_eq_false (by have:=H77 h7;omega)
        clear H77 h7
        go_wp2
        go_roundw
        case rel=>exact ⟨k+1,by omega,by (have:=HM.out;have e2:((m:Int) - 1)=(s:Int) - 1 - ((k+1:Nat):Int):=(by omega);rw [e2]),by have:=HM.out;rw [show s - (k+1)=m by omega,HE.out,← E1.out],_,rfl⟩
        case measure=>simp [intOf]
       ·have d7:((m:Int)==7)=false:=beq_eq_false_iff_ne.mpr (by omega)
        clear H77 h7
        go_wp2
        go_roundw
        case rel=>exact ⟨k+1,by omega,by (have:=HM.out;have e2:((m:Int) - 1)=(s:Int) - 1 - ((k+1:Nat):Int):=(by omega);rw [e2]),by have:=HM.out;rw [show s - (k+1)=m by omega,HE.out,← E1.out],_,rfl⟩
        case measure=>simp [intOf]
      ·obtain rfl:k=s:=by omega
       have e0:((k:Int) - 1 - k) = -1:=by omega
       rw [e0,Nat.sub_self,List.drop_zero]
       have hfin:=FIN.out q
       go_wp2
       go_ret2
       rw [HN.out]
       exact ⟨rfl,hfin⟩
  ·rw [if_pos hw]
   have HR:=Aside0.mk (show RfAt w g xs wrong F from ⟨A,c,h1,h2,h3,h4,h5,h6⟩)
   have d1:(wrong==0)=false:=beq_eq_false_iff_ne.mpr hw
   have d2:(wrong != 0)=true:=bne_iff_ne.mpr hw
   clear h1 h2 h3 h4 h6 hs
   go_enter Try.func84,Try.ntmps84
   go_wp2_with (go_at_call 101;refine (hcall _).mono ?_;rintro e w' ⟨rfl,⟨nd,rfl⟩⟩)
   go_quiet (fail)
   go_wp2
   go_ret2
   exact ⟨rfl,HR.out.chg (((Chg.refl w (fun _=>False)).drewN _).drewN _) (fun _ _ h=>h),((Chg.refl _ _).drewN _).drewN _⟩
set_option maxHeartbeats 1000000 in
theorem rfend_ok (g:Nat) (xs:List Int) (wrong:Int) (F:Nat→Prop) (w:World) (hr:RfAt w g xs wrong F) :
  Calls Try.prog 86 #[.pointer (some ⟨g,0,none⟩)] w fun e w'=>e=.returned (.int .i64 (rdEnd xs wrong))∧Drawn0 w w':=by
 obtain ⟨A,c,h1,_⟩:=hr
 obtain ⟨hc0,hc1,_⟩:=two_cells h1
 clear h1
 unfold rdEnd
 by_cases hw:wrong=0
 ·subst hw
  rw [if_neg (by decide)]
  cases xs with
  | nil =>
   rw [if_pos rfl]
   go_enter Try.func86,Try.ntmps86
   go_wp2
   repeat (go_quiet (fail);try go_wp2)
   go_ret
   exact ⟨rfl,by repeat (first|exact Drawn0.refl _|apply Drawn0.step)⟩
  | cons x l =>
   rw [if_neg (by simp)]
   have hp:0 < (x::l).length:=by simp
   generalize (x::l).length=n at hc0 hp
   go_enter Try.func86,Try.ntmps86
   go_wp2
   repeat (go_quiet (fail);try go_wp2)
   go_ret
   exact ⟨rfl,by repeat (first|exact Drawn0.refl _|apply Drawn0.step)⟩
 ·rw [if_pos hw]
  have d1:(wrong==0)=false:=beq_eq_false_iff_ne.mpr hw
  have d2:(wrong != 0)=true:=bne_iff_ne.mpr hw
  clear hw
  go_enter Try.func86,Try.ntmps86
  go_wp2
  repeat (go_quiet (fail);try go_wp2)
  go_ret
  exact ⟨rfl,by repeat (first|exact Drawn0.refl _|apply Drawn0.step)⟩
set_option maxRecDepth 100000 in
set_option maxHeartbeats 4000000 in
theorem rftext_ok (g:Nat) (xs:List Int) (wrong most:Int) (F:Nat→Prop) (w:World) (hr:RfAt w g xs wrong F) (hl:xs.length≤140737488355328) (hb:AllB xs) :
  Calls Try.prog 85 #[.pointer (some ⟨g,0,none⟩),.int .i64 most] w fun e w'=>e=.returned (.tuple #[.string (strOfNums (rdText xs wrong most).1.1),.int .i64 (rdText xs wrong most).1.2])∧RfAt w' g (rdText xs wrong most).2.1 (rdText xs wrong most).2.2 F∧Chg w w' (At g):=by
 unfold rdText
 by_cases h0:most < 0
 ·rw [if_pos h0]
  have d0:decide (most < 0)=true:=decide_eq_true h0
  have HR:=Aside0.mk hr
  clear hr h0
  go_enter Try.func85,Try.ntmps85
  go_wp2
  go_ret2
  exact ⟨rfl,HR.out,Chg.refl _ _⟩
 rw [if_neg h0]
 have d0:decide (most < 0)=false:=decide_eq_false h0
 obtain ⟨A,c,h1,h2,h3,h4,h5,h6⟩:=hr
 obtain ⟨hc0,hc1,hf0,hf1⟩:=two_cells h1
 have hgl:=blk_lt h1
 have HR0:=Aside0.mk (show RfAt w g xs wrong F from ⟨A,c,h1,h2,h3,h4,h5,h6⟩)
 by_cases hw:wrong=0
 ·rw [if_neg (by omega)]
  subst hw
  by_cases hlt:xs.length < 2
  ·rw [if_pos hlt]
   have HR:=Aside0.mk (rd_wrong HR0.out 10)
   clear h1 h2 h3 h4 h6 HR0 h0
   go_enter Try.func85,Try.ntmps85
   go_wp2
   go_quiet (fail)
   go_wp2
   go_ret2
   exact ⟨rfl,HR.out.1.chg ((Chg.refl _ (fun _=>False)).drewN _) (fun _ _ h=>h),HR.out.2.drewN _⟩
  rw [if_neg hlt]
  have hle:2≤xs.length:=by omega
  have hlI:(2:Int)≤(xs.length:Int):=by omega
  obtain ⟨ad,rfl⟩:∃ ad,A=some ad:=by
   obtain ⟨ad,e,_⟩:=h3.2.2 (by omega)
   exact ⟨ad,e⟩
  have hC:=C_cells h3 (by omega)
  obtain ⟨ad',e,hcell⟩:=hC
  injection e with e
  subst e
  obtain ⟨x,y,l,rfl⟩:∃ x y l,xs=x::y::l:=by
   match xs,hle with
   | x::y::l,_=>exact ⟨x,y,l,rfl⟩
  have hxb:=hb x (by simp)
  have hyb:=hb y (by simp)
  have hx0:w.cell? ad=some (.int .u8 x):=by
   have:=hcell 0 (.int .u8 x) rfl
   rwa [Addr.add_zero'] at this
  have hx1:w.cell? ⟨ad.block,ad.off+1,none⟩=some (.int .u8 y):=by
   have:=hcell 1 (.int .u8 y) rfl
   rwa [Addr.add_succ'] at this
  have hnum:numB ((x::y::l).take 2)=x+256*y:=by
   have:=numB_small (xs:=(x::y::l).take 2) (by intro z hz;exact hb z (List.mem_of_mem_take hz)) (by simp)
   rw [this]
   show ((hor [x,y]:Nat):Int)=_
   simp only [hor]
   omega
  rw [hnum]
  obtain ⟨n,hn⟩:∃ n:Nat,x+256*y=n:=⟨(x+256*y).toNat,by omega⟩
  have hw1:IntKind.i64.wrap (256*y)=256*y:=by rw [IntKind.wrap_i64];omega
  have hw2:IntKind.i64.wrap (x+256*y)=(n:Int):=by rw [IntKind.wrap_i64];omega
  have hw3:IntKind.i64.wrap x=x:=by rw [IntKind.wrap_i64];omega
  have hw4:IntKind.i64.wrap y=y:=by rw [IntKind.wrap_i64];omega
  have hw5:IntKind.i64.wrap (2+(n:Int))=2+(n:Int):=by rw [IntKind.wrap_i64];omega
  rw [hn,Int.toNat_natCast]
  generalize hxs:x::y::l=xs at *
  by_cases hcut:((xs.length - 2:Nat):Int) < n
  ·rw [if_pos hcut]
   have HR:=Aside0.mk (rd_wrong HR0.out 10)
   have e1:decide ((xs.length:Int) < 2+(n:Int))=true:=decide_eq_true (by omega)
   clear h1 h2 h3 h4 h6 HR0 h0 hcell hnum hn hb hxs hcut
   go_enter Try.func85,Try.ntmps85
   go_wp2
   repeat (go_quiet (fail);try go_wp2)
   go_ret2
   exact ⟨rfl,HR.out.1.chg (((Chg.refl _ (fun _=>False)).drewN _).drewN _) (fun _ _ h=>h),(HR.out.2.drewN _).drewN _⟩
  ·rw [if_neg hcut]
   have e1:decide ((xs.length:Int) < 2+(n:Int))=false:=decide_eq_false (by omega)
   have hn2:(n:Int)+2≤(xs.length:Int):=by omega
   by_cases hmost:most < n
   ·rw [if_pos hmost]
    have HR:=Aside0.mk (rd_wrong HR0.out 2)
    have e2:decide ((n:Int) > most)=true:=decide_eq_true (by omega)
    clear h1 h2 h3 h4 h6 HR0 h0 hcell hnum hn hb hxs hcut
    go_enter Try.func85,Try.ntmps85
    go_wp2
    repeat (go_quiet (fail);try go_wp2)
    go_ret2
    exact ⟨rfl,HR.out.1.chg (((Chg.refl _ (fun _=>False)).drewN _).drewN _) (fun _ _ h=>h),(HR.out.2.drewN _).drewN _⟩
   ·rw [if_neg hmost]
    have e2:decide ((n:Int) > most)=false:=decide_eq_false (by omega)
    have hcut1:∀ W:World,(Instr.slice 67 (.slice (some ad) xs.length c) (some (.int .i64 2)) (some (.int .i64 (2+(n:Int)))) none).run Try.prog W=.ok (.slice (if c=2 then some ad else some (ad.add 2)) n (c - 2)) W:=by
     intro W
     have h:=cut_mid (P:=Try.prog) 67 5 .i64 .i64 Try.underlying67 (info_parts info8).choose_spec.1 1 (info_parts info8).choose_spec.2.2.1 (some ad) xs.length c 2 (2+(n:Int)) (by omega) (by omega) (by omega) h2 W
     have e3:(2+(n:Int)).toNat - (2:Int).toNat=n:=by omega
     rw [e3] at h
     exact h
    have hcut2:∀ W:World,(Instr.slice 67 (.slice (some ad) xs.length c) (some (.int .i64 (2+(n:Int)))) none none).run Try.prog W=.ok (.slice (if c=2+n then some ad else some (ad.add (2+n))) (xs.length - (2+n)) (c - (2+n))) W:=by
     intro W
     have h:=cut_from (P:=Try.prog) 67 5 .i64 Try.underlying67 (info_parts info8).choose_spec.1 1 (info_parts info8).choose_spec.2.2.1 (some ad) xs.length c (2+(n:Int)) (by omega) (by omega) W
     rw [show (2+(n:Int)).toNat=2+n by omega,Nat.mul_one] at h
     exact h
    have htext:∀ W:World,Chg w W (fun _=>False)→(convert 67 9 (.slice (if c=2 then some ad else some (ad.add 2)) n (c - 2))).run Try.prog W=.ok (.string (strOfNums ((xs.drop 2).take n))) W:=by
     intro W hW
     have hd:=Kd.C_take (Kd.C_drop h3 hle h2) (m:=n) (by rw [List.length_drop];omega)
     have e4:((xs.drop 2).take n).length=n:=by rw [List.length_take,List.length_drop];omega
     rw [e4] at hd
     exact Kd.C_string Try.underlying67 Try.underlying5 Try.underlying9 (C_chg hd hW (fun _ _ _ h=>h))
    obtain ⟨A3,hA3⟩:∃ a,a=(if c=2 then some ad else some (ad.add 2)):=⟨_,rfl⟩
    obtain ⟨c3,hc3⟩:∃ a,a=c - 2:=⟨_,rfl⟩
    obtain ⟨A4,hA4⟩:∃ a,a=(if c=2+n then some ad else some (ad.add (2+n))):=⟨_,rfl⟩
    obtain ⟨n4,hn4⟩:∃ a,a=xs.length - (2+n):=⟨_,rfl⟩
    obtain ⟨c4,hc4⟩:∃ a,a=c - (2+n):=⟨_,rfl⟩
    rw [← hA3,← hc3] at hcut1 htext
    rw [← hA4,← hn4,← hc4] at hcut2
    have fin:∀ W,Chg w W (fun _=>False)→RfAt (W.setCell ⟨g,0,none⟩ (.slice A4 n4 c4)) g (xs.drop (2+n)) 0 F∧Chg w (W.setCell ⟨g,0,none⟩ (.slice A4 n4 c4)) (At g):=by
     intro W hW
     have hd:=rd_drop (m:=2+n) (hW.blk h1 (fun h=>h)) h2 (C_chg h3 hW (fun _ _ _ h=>h)) h4 h5 (fun k hk=>Nat.lt_of_lt_of_le (h6 k hk) hW.size) (by omega) (by omega)
     rw [hA4,hn4,hc4]
     exact ⟨hd.1,(hW.mono (fun _ h=>h.elim)).trans hd.2 (fun _ h=>.inl h)⟩
    have FIN:=Aside0.mk fin
    have htx:=fun q=>htext (w.drewN q) ((Chg.refl _ _).drewN _)
    clear h1 h2 h3 h4 h6 HR0 h0 hcell hnum hn hb hxs hcut htext fin hA3 hc3 hA4 hn4 hc4
    go_enter Try.func85,Try.ntmps85
    go_wp2
    repeat (go_quiet (fail);try go_wp2)
    go_ret2
    exact ⟨rfl,FIN.out _ ((Chg.refl _ _).drewN _)⟩
 ·rw [if_pos hw]
  have d1:(wrong==0)=false:=beq_eq_false_iff_ne.mpr hw
  have d2:(wrong != 0)=true:=bne_iff_ne.mpr hw
  clear h1 h2 h3 h4 h6 h0 hw
  go_enter Try.func85,Try.ntmps85
  go_wp2
  go_quiet (fail)
  go_wp2
  go_ret2
  exact ⟨rfl,HR0.out.chg (((Chg.refl w (fun _=>False)).drewN _)) (fun _ _ h=>h),((Chg.refl _ _).drewN _)⟩
end Go.Proofs.Ytgjibcfkjaedfaa.Wire
