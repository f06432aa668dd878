-- A part of the text RecDec, thinned by a program of this session.
import Derived.Test.YtgjibcfkjaedfaaTHRecRead
namespace Go.Proofs.Ytgjibcfkjaedfaa.Rec
open Go.RowKit Go.Proofs.YtgjibcfkjaedfaaW.PrintWords Go.Proofs.YtgjibcfkjaedfaaW.PrintLast Go.Proofs.YtgjibcfkjaedfaaW.PrintMore Go.Proofs.Ytgjibcfkjaedfaa.Wire Go.Proofs.Ytgjibcfkjaedfaa.Crc Go.Proofs.Ytgjibcfkjaedfaa.Pr Go.Proofs.Ytgjibcfkjaedfaa.Page
open Go.Proofs.Ytgjibcfkjaedfaa.Back (AllB numB numB_small hor hor_lt)
open Go.Proofs.Ytgjibcfkjaedfaa.Pure
set_option linter.unusedVariables false
set_option linter.unusedSimpArgs false
theorem dec_cases {xs:List Int} (hb:AllB xs):((rdText xs 0 65535).1=([],10)∧decF9 xs=(zeroR,0,10))∨∃ n:Nat,n+2≤xs.length∧n≤65535∧(rdText xs 0 65535).1=((xs.drop 2).take n,0)∧numB (xs.take 2)=(n:Int):=by
 unfold rdText decF9
 rw [if_neg (by omega),if_neg (by omega)]
 by_cases h2:xs.length < 2
 ·rw [if_pos h2,if_pos h2]
  exact .inl ⟨rfl,rfl⟩
 ·rw [if_neg h2,if_neg h2]
  have hbt:AllB (xs.take 2):=fun x hx=>hb x (List.mem_of_mem_take hx)
  have htl:(xs.take 2).length=2:=by rw [List.length_take];omega
  have hh:=hor_lt hbt
  rw [htl] at hh
  have hnb:numB (xs.take 2)=(hor (xs.take 2):Int):=numB_small hbt (by omega)
  rw [hnb]
  generalize hor (xs.take 2)=n at hh ⊢
  by_cases h3:((xs.length - 2:Nat):Int) < (n:Int)
  ·rw [if_pos h3,if_pos (by omega)]
   exact .inl ⟨rfl,rfl⟩
  ·rw [if_neg h3,if_neg (by omega)]
   exact .inr ⟨n,by omega,by omega,by rw [Int.toNat_natCast],rfl⟩
theorem read_two (ys:List Int):(readF ys).2=0∨(readF ys).2=90:=by
 unfold readF
 split
 ·exact .inr rfl
 ·simp only
  split
  ·exact .inl rfl
  ·exact .inr rfl
set_option maxHeartbeats 16000000 in
set_option maxRecDepth 100000 in
theorem recdec_ok (A:Option Addr) (c:Nat) (xs:List Int) (w:World) (hr:Kd.C (Kd.int .u8) w A xs.length xs) (hc:xs.length≤c) (hb:AllB xs) (hl:xs.length≤211106232532992) :
  Calls Try.prog 57 #[.slice A xs.length c] w fun e w'=>e=.returned (.tuple #[.agg #[.int .i64 (decF9 xs).1.1,.int .i64 (decF9 xs).1.2.1,.int .i64 (decF9 xs).1.2.2.1,.int .i64 (decF9 xs).1.2.2.2.1,.int .i64 (decF9 xs).1.2.2.2.2.1,.int .i64 (decF9 xs).1.2.2.2.2.2.1,.string (decF9 xs).1.2.2.2.2.2.2.1,.string (decF9 xs).1.2.2.2.2.2.2.2],.int .i64 (decF9 xs).2.1,.int .i64 (decF9 xs).2.2])∧Below w.heap.size w w':=by
 have hrc:=rc_new w 0 0 0 0 0 0 ⟨#[]⟩ ⟨#[]⟩
 have HB:=Aside0.mk (below_alloc (Below.refl w.heap.size w) (.cells #[.int .i64 0,.int .i64 0,.int .i64 0,.int .i64 0,.int .i64 0,.int .i64 0,.string ⟨#[]⟩,.string ⟨#[]⟩] 53))
 have hof:=of_ok A c xs _ (Kd.C_below hr HB.out) hl
 have HRC:=Aside0.mk hrc
 have HRC0:=Aside0.mk hrc
 have HAB:=Aside0.mk hb
 have HL:=Aside0.mk hl
 have HXC:=Aside0.mk hr
 obtain ⟨⟨b0,b1,b2,b3,b4,b5,b6,b7⟩,⟨f0,f1,f2,f3,f4,f5,f6,f7⟩⟩:=hrc.cells
 have hlen:xs.length≤9223372036854775807:=hr.2.1
 rcases dec_cases hb with ⟨ht,hd⟩|⟨n,hn1,hn2,ht,hnb⟩
 ·rw [hd]
  have HT:=Aside0.mk ht
  clear hrc hr hc hb hl ht hd
  go_enter Try.func57,Try.ntmps57
  go_wp2_with (first
   | (go_at_call 78;(with_reducible refine hof.mono ?_);rintro e w2 ⟨g,F,rfl,hrd,hB,hg,_⟩;clear b0 b1 b2 b3 b4 b5 b6 b7 f0 f1 f2 f3 f4 f5 f6 f7;(replace HRC:=Aside0.mk (HRC.out.below hB));(replace HB:=Aside0.mk (below_from2 HB.out (Nat.le_refl _) hB));obtain ⟨⟨b0,b1,b2,b3,b4,b5,b6,b7⟩,⟨f0,f1,f2,f3,f4,f5,f6,f7⟩⟩:=HRC.out.cells;(have htx:=rdtext_ok g xs 0 65535 F w2 hrd HL.out (take2_ok HAB.out));rw [HT.out] at htx;(have HG:=Aside0.mk (show w.heap.size < g by have h1:=HRC0.out.lt;omega));clear hrd hB hof hg)
   | (go_at_call 79;(with_reducible refine htx.mono ?_);rintro e w3 ⟨rfl,_,hc3⟩;clear b0 b1 b2 b3 b4 b5 b6 b7 f0 f1 f2 f3 f4 f5 f6 f7;(replace HRC:=Aside0.mk (HRC.out.chg hc3 (fun e=>by have e:w.heap.size=g:=e;have:=HG.out;omega)));(replace HB:=Aside0.mk (HB.out.trans (hc3.below HB.out.size (fun k hk=>by have e:k=g:=hk;have:=HG.out;omega))));obtain ⟨⟨b0,b1,b2,b3,b4,b5,b6,b7⟩,⟨f0,f1,f2,f3,f4,f5,f6,f7⟩⟩:=HRC.out.cells;clear hc3 htx))
  refine bodyPost_ret (results_ctt rfl _ _ w.heap.size 53 #[.int .i64 0,.int .i64 0,.int .i64 0,.int .i64 0,.int .i64 0,.int .i64 0,.string ⟨#[]⟩,.string ⟨#[]⟩] (0,0) _ rfl (HRC.out.set8 0 0 0 0 0 0 ⟨#[]⟩ ⟨#[]⟩) Try.underlying53 rfl (by kernel_rfl)) rfl ?_
  exact ⟨rfl,below_set8 HB.out (Nat.le_refl _)⟩
 ·have HT:=Aside0.mk ht
  have hml:((xs.drop 2).take n).length=n:=by rw [List.length_take,List.length_drop];omega
  have hmb:AllB ((xs.drop 2).take n):=fun x hx=>hb x (List.mem_of_mem_drop (List.mem_of_mem_take hx))
  have hbs:bytesOf (strOfNums ((xs.drop 2).take n))=(xs.drop 2).take n:=by
   have h1:=tx_str hmb
   unfold txB at h1
   rw [strOfNums_size] at h1
   exact List.append_cancel_left h1
  have hss:(strOfNums ((xs.drop 2).take n)).size=n:=by rw [strOfNums_size,hml]
  obtain ⟨S,hS⟩:∃ S,strOfNums ((xs.drop 2).take n)=S:=⟨_,rfl⟩
  rw [hS] at hbs hss
  have HSS:=Aside0.mk hss
  have HN2:=Aside0.mk hn2
  have z1:IntKind.i64.wrap (2+(S.size:Int))=2+(n:Int):=by rw [hss,IntKind.wrap_i64];omega
  have z2:IntKind.i64.wrap (2+(n:Int)+4)=2+(n:Int)+4:=by rw [IntKind.wrap_i64];omega
  have z3:wrap64 (2+(S.size:Int))=2+(n:Int):=by rw [hss];unfold wrap64;omega
  have z4:wrap64 (2+(n:Int)+4)=2+(n:Int)+4:=by unfold wrap64;omega
  have hD:decF9 xs=if (xs.length:Int) < (n:Int)+6 then (zeroR,0,10) else if (opOf (xs.take (n+6))).2≠0 then (zeroR,0,20) else if (readF ((xs.drop 2).take n)).2≠0 then (zeroR,0,90) else ((readF ((xs.drop 2).take n)).1,(n:Int)+6,0):=by
   unfold decF9
   rw [if_neg (by omega),hnb,Int.toNat_natCast]
  rw [hD]
  have HS:=Aside0.mk hS
  by_cases h6:(xs.length:Int) < (n:Int)+6
  ·rw [if_pos h6]
   have d1:decide ((xs.length:Int) < 2+(n:Int)+4)=true:=decide_eq_true (by omega)
   have d2:((xs.length:Int) < 2+(n:Int)+4)=True:=eq_true (by omega)
   clear hrc hr hc hb hl ht hnb hml hmb hbs hD h6 hn1 hn2 hS hss
   go_enter Try.func57,Try.ntmps57
   go_wp2_with (first
    | (go_at_call 78;(with_reducible refine hof.mono ?_);rintro e w2 ⟨g,F,rfl,hrd,hB,hg,_⟩;clear b0 b1 b2 b3 b4 b5 b6 b7 f0 f1 f2 f3 f4 f5 f6 f7;(replace HRC:=Aside0.mk (HRC.out.below hB));(replace HB:=Aside0.mk (below_from2 HB.out (Nat.le_refl _) hB));obtain ⟨⟨b0,b1,b2,b3,b4,b5,b6,b7⟩,⟨f0,f1,f2,f3,f4,f5,f6,f7⟩⟩:=HRC.out.cells;(have htx:=rdtext_ok g xs 0 65535 F w2 hrd HL.out (take2_ok HAB.out));rw [HT.out,HS.out] at htx;(have HG:=Aside0.mk (show w.heap.size < g by have h1:=HRC0.out.lt;omega));clear hrd hB hof hg)
    | (go_at_call 79;(with_reducible refine htx.mono ?_);rintro e w3 ⟨rfl,_,hc3⟩;clear b0 b1 b2 b3 b4 b5 b6 b7 f0 f1 f2 f3 f4 f5 f6 f7;(replace HRC:=Aside0.mk (HRC.out.chg hc3 (fun e=>by have e:w.heap.size=g:=e;have:=HG.out;omega)));(replace HB:=Aside0.mk (HB.out.trans (hc3.below HB.out.size (fun k hk=>by have e:k=g:=hk;have:=HG.out;omega))));obtain ⟨⟨b0,b1,b2,b3,b4,b5,b6,b7⟩,⟨f0,f1,f2,f3,f4,f5,f6,f7⟩⟩:=HRC.out.cells;clear hc3 htx))
   refine bodyPost_ret (results_ctt rfl _ _ w.heap.size 53 #[.int .i64 0,.int .i64 0,.int .i64 0,.int .i64 0,.int .i64 0,.int .i64 0,.string ⟨#[]⟩,.string ⟨#[]⟩] (0,0) _ rfl (HRC.out.set8 0 0 0 0 0 0 ⟨#[]⟩ ⟨#[]⟩) Try.underlying53 rfl (by kernel_rfl)) rfl ?_
   exact ⟨rfl,below_set8 HB.out (Nat.le_refl _)⟩
  ·rw [if_neg h6]
   have d1:decide ((xs.length:Int) < 2+(n:Int)+4)=false:=decide_eq_false (by omega)
   have d2:((xs.length:Int) < 2+(n:Int)+4)=False:=eq_false (by omega)
   have htl:(xs.take (n+6)).length=n+6:=by rw [List.length_take];omega
   have HCT:=Aside0.mk (Kd.C_take hr (show n+6≤xs.length by omega))
   have HTL:=Aside0.mk htl
   have HTB:Aside0 (AllB (xs.take (n+6))):=⟨fun x hx=>hb x (List.mem_of_mem_take hx)⟩
   have hcut:∀ W:World,(Instr.slice 67 (.slice A xs.length c) none (some (.int .i64 (2+(n:Int)+4))) none).run Try.prog W=.ok (.slice A (n+6) c) W:=by
    intro W
    have h:=cut_to (P:=Try.prog) 67 5 .i64 Try.underlying67 (info_parts info8).choose_spec.1 A xs.length c (2+(n:Int)+4) (by omega) (by omega) hc W
    rw [show (2+(n:Int)+4).toNat=n+6 by omega] at h
    exact h
   have kbs:=fun W=>print_bytes (P:=Try.prog) 9 67 5 Try.underlying9 Try.underlying67 Try.underlying5 S W
   rw [hss] at kbs
   obtain ⟨o,ho⟩:∃ o,(opOf (xs.take (n+6))).2=o:=⟨_,rfl⟩
   have ho20:o=0∨o=20:=by
    rw [← ho]
    unfold opOf
    rw [if_neg (by omega)]
    split
    ·exact .inr rfl
    ·exact .inl rfl
   have HOP:=Aside0.mk ho
   rw [ho]
   have HRD:=Aside0.mk (fun W=>recread_ok (some ⟨W.heap.size,0,none⟩) (grownCap W S.size 0 5) (bytesOf S) _ (C_bytes W 5 S (by omega)) (bytesOf_allB S) (by rw [bytesOf_length];omega))
   simp only [bytesOf_length,hss] at HRD
   rw [hbs] at HRD
   rcases ho20 with rfl|rfl
   ·rw [if_neg (by simp)]
    have hf9:=read_two ((xs.drop 2).take n)
    generalize readF ((xs.drop 2).take n)=RF at HRD hf9 ⊢
    obtain ⟨⟨a1,a2,a3,a4,a5,a6,a7,a8⟩,f⟩:=RF
    dsimp only at HRD hf9 ⊢
    by_cases hf:f=0
    ·subst hf
     rw [if_neg (by simp)]
     have wn:2+(n:Int)+4=(n:Int)+6:=by omega
     have HWN:=Aside0.mk wn
     clear hrc hr hc hb hl ht hnb hml hmb hbs hD h6 hn1 hn2 hS hss htl ho wn hf9
     go_enter Try.func57,Try.ntmps57
     go_wp2_with (first
      | (go_at_call 78;(with_reducible refine hof.mono ?_);rintro e w2 ⟨g,F,rfl,hrd,hB,hg,_⟩;clear b0 b1 b2 b3 b4 b5 b6 b7 f0 f1 f2 f3 f4 f5 f6 f7;(replace HRC:=Aside0.mk (HRC.out.below hB));(replace HB:=Aside0.mk (below_from2 HB.out (Nat.le_refl _) hB));obtain ⟨⟨b0,b1,b2,b3,b4,b5,b6,b7⟩,⟨f0,f1,f2,f3,f4,f5,f6,f7⟩⟩:=HRC.out.cells;(have htx:=rdtext_ok g xs 0 65535 F w2 hrd HL.out (take2_ok HAB.out));rw [HT.out,HS.out] at htx;(have HG:=Aside0.mk (show w.heap.size < g by have h1:=HRC0.out.lt;omega));clear hrd hB hof hg)
      | (go_at_call 79;(with_reducible refine htx.mono ?_);rintro e w3 ⟨rfl,_,hc3⟩;clear b0 b1 b2 b3 b4 b5 b6 b7 f0 f1 f2 f3 f4 f5 f6 f7;(replace HRC:=Aside0.mk (HRC.out.chg hc3 (fun e=>by have e:w.heap.size=g:=e;have:=HG.out;omega)));(replace HB:=Aside0.mk (HB.out.trans (hc3.below HB.out.size (fun k hk=>by have e:k=g:=hk;have:=HG.out;omega))));obtain ⟨⟨b0,b1,b2,b3,b4,b5,b6,b7⟩,⟨f0,f1,f2,f3,f4,f5,f6,f7⟩⟩:=HRC.out.cells;(have hcl:=clone_bytes A c (xs.take (n+6)) w3 (Kd.C_below HCT.out HB.out) (by rw [HTL.out];have:=HN2.out;omega));rw [HTL.out] at hcl;clear hc3 htx)
      | (go_at_call 81;(with_reducible refine hcl.mono ?_);rintro e w4 ⟨u,rfl,hR,hB⟩;clear b0 b1 b2 b3 b4 b5 b6 b7 f0 f1 f2 f3 f4 f5 f6 f7;(replace HRC:=Aside0.mk (HRC.out.below hB));(replace HB:=Aside0.mk (below_from2 HB.out (Nat.le_refl _) hB));obtain ⟨⟨b0,b1,b2,b3,b4,b5,b6,b7⟩,⟨f0,f1,f2,f3,f4,f5,f6,f7⟩⟩:=HRC.out.cells;obtain ⟨A4,c4,rfl,l4,k4⟩:=Kd.R_reads hR;(have hop:=open_ok A4 c4 (xs.take (n+6)) w4 k4 l4 HTB.out (by rw [HTL.out];have:=HN2.out;omega));rw [HTL.out] at hop ⊢;rw [HOP.out] at hop;clear hR hB l4 k4 hcl)
      | (go_at_call 80;(with_reducible refine hop.mono ?_);rintro e w5 ⟨u,rfl,hR,hB⟩;clear b0 b1 b2 b3 b4 b5 b6 b7 f0 f1 f2 f3 f4 f5 f6 f7;(replace HRC:=Aside0.mk (HRC.out.below hB));(replace HB:=Aside0.mk (below_from2 HB.out (Nat.le_refl _) hB));obtain ⟨⟨b0,b1,b2,b3,b4,b5,b6,b7⟩,⟨f0,f1,f2,f3,f4,f5,f6,f7⟩⟩:=HRC.out.cells;obtain ⟨A5,c5,rfl,_,_⟩:=Kd.R_reads hR;(have hrd:=HRD.out w5);clear hR hB hop)
      | (go_at_call 82;(with_reducible refine hrd.mono ?_);rintro e w6 ⟨rfl,hB⟩;clear b0 b1 b2 b3 b4 b5 b6 b7 f0 f1 f2 f3 f4 f5 f6 f7;(replace HRC:=Aside0.mk ((HRC.out.below (bytes_below0 w5 5 S)).below hB));(replace HB:=Aside0.mk (below_from2 (below_from2 HB.out (Nat.le_refl _) (bytes_below0 w5 5 S)) (Nat.le_refl _) hB));(have hnw:=rc_new w6 a1 a2 a3 a4 a5 a6 a7 a8);obtain ⟨⟨n0,n1,n2,n3,n4,n5,n6,n7⟩,_⟩:=hnw.cells;(have hba:=below_alloc (Below.refl w6.heap.size w6) (.cells #[.int .i64 a1,.int .i64 a2,.int .i64 a3,.int .i64 a4,.int .i64 a5,.int .i64 a6,.string a7,.string a8] 53));(replace HRC:=Aside0.mk (HRC.out.below hba));(replace HB:=Aside0.mk (below_from2 HB.out (Nat.le_refl _) hba));obtain ⟨⟨b0,b1,b2,b3,b4,b5,b6,b7⟩,⟨f0,f1,f2,f3,f4,f5,f6,f7⟩⟩:=HRC.out.cells;clear hB hrd hnw hba))
     refine bodyPost_ret (results_ctt rfl _ _ w.heap.size 53 #[.int .i64 a1,.int .i64 a2,.int .i64 a3,.int .i64 a4,.int .i64 a5,.int .i64 a6,.string a7,.string a8] (0,0) _ rfl (HRC.out.set8 a1 a2 a3 a4 a5 a6 a7 a8) Try.underlying53 rfl (by kernel_rfl)) rfl ?_
     rw [← HWN.out]
     exact ⟨rfl,below_set8 HB.out (Nat.le_refl _)⟩
    ·rw [if_pos hf]
     obtain rfl:f=90:=hf9.elim (fun e=>absurd e hf) id
     clear hrc hr hc hb hl ht hnb hml hmb hbs hD h6 hn1 hn2 hS hss htl ho hf hf9
     go_enter Try.func57,Try.ntmps57
     go_wp2_with (first
      | (go_at_call 78;(with_reducible refine hof.mono ?_);rintro e w2 ⟨g,F,rfl,hrd,hB,hg,_⟩;clear b0 b1 b2 b3 b4 b5 b6 b7 f0 f1 f2 f3 f4 f5 f6 f7;(replace HRC:=Aside0.mk (HRC.out.below hB));(replace HB:=Aside0.mk (below_from2 HB.out (Nat.le_refl _) hB));obtain ⟨⟨b0,b1,b2,b3,b4,b5,b6,b7⟩,⟨f0,f1,f2,f3,f4,f5,f6,f7⟩⟩:=HRC.out.cells;(have htx:=rdtext_ok g xs 0 65535 F w2 hrd HL.out (take2_ok HAB.out));rw [HT.out,HS.out] at htx;(have HG:=Aside0.mk (show w.heap.size < g by have h1:=HRC0.out.lt;omega));clear hrd hB hof hg)
      | (go_at_call 79;(with_reducible refine htx.mono ?_);rintro e w3 ⟨rfl,_,hc3⟩;clear b0 b1 b2 b3 b4 b5 b6 b7 f0 f1 f2 f3 f4 f5 f6 f7;(replace HRC:=Aside0.mk (HRC.out.chg hc3 (fun e=>by have e:w.heap.size=g:=e;have:=HG.out;omega)));(replace HB:=Aside0.mk (HB.out.trans (hc3.below HB.out.size (fun k hk=>by have e:k=g:=hk;have:=HG.out;omega))));obtain ⟨⟨b0,b1,b2,b3,b4,b5,b6,b7⟩,⟨f0,f1,f2,f3,f4,f5,f6,f7⟩⟩:=HRC.out.cells;(have hcl:=clone_bytes A c (xs.take (n+6)) w3 (Kd.C_below HCT.out HB.out) (by rw [HTL.out];have:=HN2.out;omega));rw [HTL.out] at hcl;clear hc3 htx)
      | (go_at_call 81;(with_reducible refine hcl.mono ?_);rintro e w4 ⟨u,rfl,hR,hB⟩;clear b0 b1 b2 b3 b4 b5 b6 b7 f0 f1 f2 f3 f4 f5 f6 f7;(replace HRC:=Aside0.mk (HRC.out.below hB));(replace HB:=Aside0.mk (below_from2 HB.out (Nat.le_refl _) hB));obtain ⟨⟨b0,b1,b2,b3,b4,b5,b6,b7⟩,⟨f0,f1,f2,f3,f4,f5,f6,f7⟩⟩:=HRC.out.cells;obtain ⟨A4,c4,rfl,l4,k4⟩:=Kd.R_reads hR;(have hop:=open_ok A4 c4 (xs.take (n+6)) w4 k4 l4 HTB.out (by rw [HTL.out];have:=HN2.out;omega));rw [HTL.out] at hop ⊢;rw [HOP.out] at hop;clear hR hB l4 k4 hcl)
      | (go_at_call 80;(with_reducible refine hop.mono ?_);rintro e w5 ⟨u,rfl,hR,hB⟩;clear b0 b1 b2 b3 b4 b5 b6 b7 f0 f1 f2 f3 f4 f5 f6 f7;(replace HRC:=Aside0.mk (HRC.out.below hB));(replace HB:=Aside0.mk (below_from2 HB.out (Nat.le_refl _) hB));obtain ⟨⟨b0,b1,b2,b3,b4,b5,b6,b7⟩,⟨f0,f1,f2,f3,f4,f5,f6,f7⟩⟩:=HRC.out.cells;obtain ⟨A5,c5,rfl,_,_⟩:=Kd.R_reads hR;(have hrd:=HRD.out w5);clear hR hB hop)
      | (go_at_call 82;(with_reducible refine hrd.mono ?_);rintro e w6 ⟨rfl,hB⟩;clear b0 b1 b2 b3 b4 b5 b6 b7 f0 f1 f2 f3 f4 f5 f6 f7;(replace HRC:=Aside0.mk ((HRC.out.below (bytes_below0 w5 5 S)).below hB));(replace HB:=Aside0.mk (below_from2 (below_from2 HB.out (Nat.le_refl _) (bytes_below0 w5 5 S)) (Nat.le_refl _) hB));(have hnw:=rc_new w6 a1 a2 a3 a4 a5 a6 a7 a8);obtain ⟨⟨n0,n1,n2,n3,n4,n5,n6,n7⟩,_⟩:=hnw.cells;(have hba:=below_alloc (Below.refl w6.heap.size w6) (.cells #[.int .i64 a1,.int .i64 a2,.int .i64 a3,.int .i64 a4,.int .i64 a5,.int .i64 a6,.string a7,.string a8] 53));(replace HRC:=Aside0.mk (HRC.out.below hba));(replace HB:=Aside0.mk (below_from2 HB.out (Nat.le_refl _) hba));obtain ⟨⟨b0,b1,b2,b3,b4,b5,b6,b7⟩,⟨f0,f1,f2,f3,f4,f5,f6,f7⟩⟩:=HRC.out.cells;clear hB hrd hnw hba))
     refine bodyPost_ret (results_ctt rfl _ _ w.heap.size 53 #[.int .i64 0,.int .i64 0,.int .i64 0,.int .i64 0,.int .i64 0,.int .i64 0,.string ⟨#[]⟩,.string ⟨#[]⟩] (0,0) _ rfl (HRC.out.set8 0 0 0 0 0 0 ⟨#[]⟩ ⟨#[]⟩) Try.underlying53 rfl (by kernel_rfl)) rfl ?_
     exact ⟨rfl,below_set8 HB.out (Nat.le_refl _)⟩
   ·rw [if_pos (by simp)]
    clear hrc hr hc hb hl ht hnb hml hmb hbs hD h6 hn1 hn2 hS hss htl ho HRD
    go_enter Try.func57,Try.ntmps57
    go_wp2_with (first
     | (go_at_call 78;(with_reducible refine hof.mono ?_);rintro e w2 ⟨g,F,rfl,hrd,hB,hg,_⟩;clear b0 b1 b2 b3 b4 b5 b6 b7 f0 f1 f2 f3 f4 f5 f6 f7;(replace HRC:=Aside0.mk (HRC.out.below hB));(replace HB:=Aside0.mk (below_from2 HB.out (Nat.le_refl _) hB));obtain ⟨⟨b0,b1,b2,b3,b4,b5,b6,b7⟩,⟨f0,f1,f2,f3,f4,f5,f6,f7⟩⟩:=HRC.out.cells;(have htx:=rdtext_ok g xs 0 65535 F w2 hrd HL.out (take2_ok HAB.out));rw [HT.out,HS.out] at htx;(have HG:=Aside0.mk (show w.heap.size < g by have h1:=HRC0.out.lt;omega));clear hrd hB hof hg)
     | (go_at_call 79;(with_reducible refine htx.mono ?_);rintro e w3 ⟨rfl,_,hc3⟩;clear b0 b1 b2 b3 b4 b5 b6 b7 f0 f1 f2 f3 f4 f5 f6 f7;(replace HRC:=Aside0.mk (HRC.out.chg hc3 (fun e=>by have e:w.heap.size=g:=e;have:=HG.out;omega)));(replace HB:=Aside0.mk (HB.out.trans (hc3.below HB.out.size (fun k hk=>by have e:k=g:=hk;have:=HG.out;omega))));obtain ⟨⟨b0,b1,b2,b3,b4,b5,b6,b7⟩,⟨f0,f1,f2,f3,f4,f5,f6,f7⟩⟩:=HRC.out.cells;(have hcl:=clone_bytes A c (xs.take (n+6)) w3 (Kd.C_below HCT.out HB.out) (by rw [HTL.out];have:=HN2.out;omega));rw [HTL.out] at hcl;clear hc3 htx)
     | (go_at_call 81;(with_reducible refine hcl.mono ?_);rintro e w4 ⟨u,rfl,hR,hB⟩;clear b0 b1 b2 b3 b4 b5 b6 b7 f0 f1 f2 f3 f4 f5 f6 f7;(replace HRC:=Aside0.mk (HRC.out.below hB));(replace HB:=Aside0.mk (below_from2 HB.out (Nat.le_refl _) hB));obtain ⟨⟨b0,b1,b2,b3,b4,b5,b6,b7⟩,⟨f0,f1,f2,f3,f4,f5,f6,f7⟩⟩:=HRC.out.cells;obtain ⟨A4,c4,rfl,l4,k4⟩:=Kd.R_reads hR;(have hop:=open_ok A4 c4 (xs.take (n+6)) w4 k4 l4 HTB.out (by rw [HTL.out];have:=HN2.out;omega));rw [HTL.out] at hop ⊢;rw [HOP.out] at hop;clear hR hB l4 k4 hcl)
     | (go_at_call 80;(with_reducible refine hop.mono ?_);rintro e w5 ⟨u,rfl,hR,hB⟩;clear b0 b1 b2 b3 b4 b5 b6 b7 f0 f1 f2 f3 f4 f5 f6 f7;(replace HRC:=Aside0.mk (HRC.out.below hB));(replace HB:=Aside0.mk (below_from2 HB.out (Nat.le_refl _) hB));obtain ⟨⟨b0,b1,b2,b3,b4,b5,b6,b7⟩,⟨f0,f1,f2,f3,f4,f5,f6,f7⟩⟩:=HRC.out.cells;obtain ⟨A5,c5,rfl,_,_⟩:=Kd.R_reads hR;skip;clear hR hB hop))
    refine bodyPost_ret (results_ctt rfl _ _ w.heap.size 53 #[.int .i64 0,.int .i64 0,.int .i64 0,.int .i64 0,.int .i64 0,.int .i64 0,.string ⟨#[]⟩,.string ⟨#[]⟩] (0,0) _ rfl (HRC.out.set8 0 0 0 0 0 0 ⟨#[]⟩ ⟨#[]⟩) Try.underlying53 rfl (by kernel_rfl)) rfl ?_
    exact ⟨rfl,below_set8 HB.out (Nat.le_refl _)⟩
end Go.Proofs.Ytgjibcfkjaedfaa.Rec
