-- A part of the text PageLaws, thinned by a program of this session.
import Derived.Test.YthfhkcicpfnedaaTPageTurnedPageLaw
import Derived.Test.YthfhkcicpfnedaaTPageTurnedCrcTurn
namespace Go.Proofs.Ythfhkcicpfnedaa.Page
open Go.RowKit Go.Proofs.YthfhkcicpfnedaaW.PrintWords Go.Proofs.YthfhkcicpfnedaaW.PrintLast Go.Proofs.YthfhkcicpfnedaaW.PrintMore Go.Proofs.Ythfhkcicpfnedaa.Wire Go.Proofs.Ythfhkcicpfnedaa.Crc Go.Proofs.Ythfhkcicpfnedaa.Pr
open Go.Proofs.Ythfhkcicpfnedaa.Back (AllB)
open Go.Proofs.Ythfhkcicpfnedaa.Pure
set_option linter.unusedVariables false
set_option linter.unusedSimpArgs false
theorem turnN_one (a j:Nat) (ys:List Int):∀ i,turnN a (2 ^ j) ys i=if i≤j then ys else turnB ys (a+j)
 | 0=>by rw [turnN,if_pos (Nat.zero_le _)]
 | i+1=>by
  rw [turnN,turnN_one a j ys i]
  have hb:(2 ^ j).testBit i=decide (2 ^ j / 2 ^ i % 2=1):=Nat.testBit_eq_decide_div_mod_eq
  rw [Nat.testBit_two_pow] at hb
  by_cases h:j=i
  ·subst h
   rw [decide_eq_true rfl] at hb
   rw [if_pos (of_decide_eq_true hb.symm),if_pos (Nat.le_refl _),if_neg (by omega)]
  ·rw [decide_eq_false h] at hb
   rw [if_neg (of_decide_eq_false hb.symm)]
   by_cases h2:i≤j
   ·rw [if_pos h2,if_pos (by omega)]
   ·rw [if_neg h2,if_neg (by omega)]
theorem turned_bit {xs:List Int} {k:Nat} (hb:AllB xs) (hk:k < 8*(sealB xs).length):opOf (turnB (sealB xs) k)=([],20):=by
 have hl:(sealB xs).length=xs.length+4:=by
  unfold sealB
  rw [List.length_append,le_length]
 obtain ⟨a,j,hj,haj,ha⟩:∃ a j,j < 32∧a+j=k∧a+32≤8*(sealB xs).length:=by
  by_cases h:k+32≤8*(sealB xs).length
  ·exact ⟨k,0,by omega,by omega,h⟩
  ·exact ⟨8*(sealB xs).length - 32,k - (8*(sealB xs).length - 32),by omega,by omega,by omega⟩
 have h1:=turnN_one a j (sealB xs) 32
 rw [if_neg (by omega),haj] at h1
 rw [← h1]
 exact turned hb (Nat.pos_of_ne_zero (by exact Nat.ne_of_gt (Nat.pow_pos (by omega)))) (Nat.pow_lt_pow_right (a:=2) (n:=32) (by omega) hj) ha
theorem dec_turned {xs:List Int} {k:Nat} (hb:AllB xs) (hk:k < 8*(sealB xs).length):decF (turnB (sealB xs) k)=(zeroV,60):=by
 unfold decF
 split
 ·rfl
 ·rw [turned_bit hb hk,if_pos (by simp)]
theorem zres_parts {w:World} {u:Value} (h:NdRes w u zeroV):∃ A4 c4 A5 c5 A6 c6,u=.agg #[.int .i64 0,.int .i64 0,.int .i64 0,.string ⟨#[]⟩,.slice A4 0 c4,.slice A5 0 c5,.slice A6 0 c6]∧NdC w A4 c4 [] A5 c5 [] A6 c6 []:=NdRes.parts h
theorem zboxed {w:World} {A4 A5 A6:Option Addr} {c4 c5 c6:Nat} (h:NdC w A4 c4 [] A5 c5 [] A6 c6 []):NdAt (w.alloc (.cells #[.int .i64 0,.int .i64 0,.int .i64 0,.string ⟨#[]⟩,.slice A4 0 c4,.slice A5 0 c5,.slice A6 0 c6] 25)) w.heap.size 0 0 0 ⟨#[]⟩ (.slice A4 0 c4) (.slice A5 0 c5) (.slice A6 0 c6)∧NdC (w.alloc (.cells #[.int .i64 0,.int .i64 0,.int .i64 0,.string ⟨#[]⟩,.slice A4 0 c4,.slice A5 0 c5,.slice A6 0 c6] 25)) A4 c4 [] A5 c5 [] A6 c6 []:=h.boxed 0 0 0 ⟨#[]⟩
theorem z_same {W:World} {A4 A5 A6:Option Addr} {c4 c5 c6:Nat} (h:NdC W A4 c4 [] A5 c5 [] A6 c6 []) :
  Calls Try.prog 18 #[.agg #[.int .i64 0,.int .i64 0,.int .i64 0,.string ⟨#[]⟩,.slice A4 0 c4,.slice A5 0 c5,.slice A6 0 c6],.agg #[.int .i64 0,.int .i64 0,.int .i64 0,.string ⟨#[]⟩,.slice none 0 0,.slice none 0 0,.slice none 0 0]] W fun e w'=>e=.returned (.bool true)∧Below W.heap.size W w':=by
 have e:=node_same 0 0 0 ⟨#[]⟩ A4 c4 [] A5 c5 [] A6 c6 [] none 0 none 0 none 0 W h.1.1 h.2.1.1 h.2.2.1 (Kd.C_nil _ _) (Kd.C_nil _ _) (Kd.C_nil _ _)
 exact e
set_option maxHeartbeats 16000000 in
set_option maxRecDepth 100000 in
theorem turned6_ok (x0 x1 x2:Int) (x3:ByteArray) (A4:Option Addr) (c4:Nat) (l4:List ByteArray) (A5:Option Addr) (c5:Nat) (l5:List ByteArray) (A6:Option Addr) (c6:Nat) (l6:List Int) (at_:Int) (w:World) (h:NdC w A4 c4 l4 A5 c5 l5 A6 c6 l6) (hl:l4.length*16≤140737488351232) (hv:l5.length*16≤140737488351232) :
  Calls Try.prog 7 #[.agg #[.int .i64 x0,.int .i64 x1,.int .i64 x2,.string x3,.slice A4 l4.length c4,.slice A5 l5.length c5,.slice A6 l6.length c6],.int .i64 at_] w fun e w'=>e=.returned (.bool true)∧Below w.heap.size w w':=by
 have hn:=h.boxed x0 x1 x2 x3
 have hen:=enc_nd x0 x1 x2 x3 hn.2 hl hv
 have hb0:Below w.heap.size w (w.alloc (.cells #[.int .i64 x0,.int .i64 x1,.int .i64 x2,.string x3,.slice A4 l4.length c4,.slice A5 l5.length c5,.slice A6 l6.length c6] 25)):=below_alloc (Below.refl w.heap.size w) _
 have HB:=Aside0.mk hb0
 obtain ⟨⟨b0,b1,b2,b3,b4,b5,b6⟩,_⟩:=hn.1.cells
 by_cases hnb:nodeB x0 x1 x2 x3 l4 l5 l6=true
 ·obtain ⟨zs,hz,hzb,hzl⟩:∃ zs,pageF x0 x1 x2 x3 l4 l5 l6=(sealB zs,0)∧AllB zs∧zs.length=252:=⟨padB (bodyB x0 x1 x2 x3 l4 l5 l6),by unfold pageF;rw [if_pos hnb],padB_allB (bodyB_allB _ _ _ _ _ _ _),padB_length (fit_of hnb hl).fbody⟩
  rw [hz] at hen
  obtain ⟨ys,hys⟩:∃ ys,ys=sealB zs:=⟨_,rfl⟩
  have hyl:ys.length=256:=by
   rw [hys]
   unfold sealB
   rw [List.length_append,le_length,hzl]
  have hyb:AllB ys:=by
   rw [hys]
   exact allB_append hzb (le_allB _ _)
  obtain ⟨k,hk,hat⟩:∃ k:Nat,k < 2048∧((decide (at_ < 0)=true∧k=0)∨(decide (at_ < 0)=false∧decide (at_≥2048)=true∧k=0)∨(decide (at_ < 0)=false∧decide (at_≥2048)=false∧at_=(k:Int))):=by
   by_cases h:at_ < 0
   ·exact ⟨0,by omega,.inl ⟨decide_eq_true h,rfl⟩⟩
   ·by_cases h2:at_≥2048
    ·exact ⟨0,by omega,.inr (.inl ⟨decide_eq_false h,decide_eq_true h2,rfl⟩)⟩
    ·exact ⟨at_.toNat,by omega,.inr (.inr ⟨decide_eq_false h,decide_eq_false h2,by omega⟩)⟩
  have hdt:decF (turnB ys k)=(zeroV,60):=by
   rw [hys]
   exact dec_turned hzb (by rw [← hys,hyl];omega)
  rw [← hys] at hen
  rw [hyl] at hen
  have HDEC:=Aside0.mk (fun (D:Option Addr) (d:Nat) (W:World) (h:Kd.C (Kd.int .u8) W D 256 (turnB ys k)) (hc:256≤d)=>decode_ok D d (turnB ys k) W (by rw [turnB_length,hyl];exact h) (by rw [turnB_length,hyl];exact hc) (turnB_AllB hyb k))
  rw [hdt,turnB_length,hyl] at HDEC
  have HYL:=Aside0.mk hyl
  have HYB:=Aside0.mk hyb
  have HK:=Aside0.mk hk
  clear h hn hl hv hnb hz hzb hzl hys hyl hyb hk hdt hb0
  have hb34:∃ b34:Bool,(decide (at_ < 0) || decide (at_≥2048))=b34∧((b34=true∧k=0)∨(b34=false∧at_=(k:Int))):=by
   rcases hat with ⟨d1,rfl⟩|⟨d1,d2,rfl⟩|⟨d1,d2,rfl⟩
   ·exact ⟨true,by rw [d1];rfl,.inl ⟨rfl,rfl⟩⟩
   ·exact ⟨true,by rw [d1,d2];rfl,.inl ⟨rfl,rfl⟩⟩
   ·exact ⟨false,by rw [d1,d2];rfl,.inr ⟨rfl,rfl⟩⟩
  obtain ⟨b34,hb34,hb⟩:=hb34
  have hd:(decide (at_ < 0)=true∧b34=true)∨(decide (at_ < 0)=false∧decide (at_≥2048)=b34):=by
   rcases h:decide (at_ < 0) with _|_
   ·rw [h,Bool.false_or] at hb34
    exact .inr ⟨rfl,hb34⟩
   ·rw [h,Bool.true_or] at hb34
    exact .inl ⟨rfl,hb34.symm⟩
  have HBB:=Aside0.mk hb
  clear hat hb34 hb
  go_enter Try.func7,Try.ntmps7
  go_upto_region 4 with (go_at_call 14;(with_reducible refine hen.mono ?_);rintro e w2 ⟨A8,c8,rfl,h1,h2,hR,hB⟩;clear b0 b1 b2 b3 b4 b5 b6;obtain ⟨g,cap,hv8,_,hg⟩:=R_form hR (by rw [HYL.out];decide);injection hv8 with e1 e2 e3;subst e1 e3;(have HR:=Aside0.mk hR);(have HCAP:=Aside0.mk h1);(have HG:=Aside0.mk (show w.heap.size≤g by have:=HB.out.size;omega));(have HG0:=Aside0.mk hg);(replace HB:=Aside0.mk (below_same HB.out hB));clear h1 h2 hR hB hg e2 hen)
  go_cut [30] from 22 to 29 (fun v30 wx=>v30=.bool b34∧w2=wx)
  case first =>
   rcases hd with ⟨d1,d2⟩|⟨d1,d2⟩
   ·subst d2
    go_wp2
    go_meet
    exact ⟨rfl,rfl⟩
   ·go_wp2
    go_meet
    exact ⟨rfl,rfl⟩
  case rest =>
  obtain ⟨rfl,rfl⟩:=hcut
  clear hd
  go_upto_if 30 with (fail)
  go_cut [1] (fun v1 wx=>v1=.int .i64 (k:Int)∧w2=wx)
  case first =>
   rcases HBB.out with ⟨rfl,rfl⟩|⟨rfl,rfl⟩
   ·go_wp2
    go_meet
    exact ⟨rfl,rfl⟩
   ·go_wp2
    go_meet
    exact ⟨rfl,rfl⟩
  case rest =>
   obtain ⟨rfl,rfl⟩:=hcut
   clear HBB
   have hq:k / 8 < 256:=by have:=HK.out;omega
   obtain ⟨x,hx,hx2⟩:=byte_get (k:=k / 8) HYB.out (by rw [HYL.out];exact hq)
   obtain ⟨hcell,hfree⟩:=Kd.R_celln (0:Int) HR.out ((k / 8:Nat):Int) (by omega) (by omega)
   have hrd:rdOf (0:Int) ys ((k / 8:Nat):Int)=(x:Int):=by
    rw [← hx]
    unfold rdOf
    rw [Int.toNat_natCast]
   rw [hrd,Int.toNat_natCast] at hcell
   rw [Int.toNat_natCast] at hfree
   have hd8:(k:Int) / 8=((k / 8:Nat):Int):=by omega
   have hm8:(k:Int) % 8=((k % 8:Nat):Int):=by omega
   have hxr:=u8_xor_nat x (2 ^ (k % 8)) hx2 (pow8_lt k)
   have hq0:(0:Int)≤((k / 8:Nat):Int):=by omega
   have hqn:((k / 8:Nat):Int) < 256:=by omega
   have hr0:(0:Int)≤((k % 8:Nat):Int):=by omega
   have hr8:((k % 8:Nat):Int) < 8:=by omega
   have hk0:(0:Int)≤(k:Int):=by omega
   have hkm:(k:Int) < 1125899906842624:=by have:=HK.out;omega
   have htn:turnB ys k=ys.set (k / 8) ((x ^^^ 2 ^ (k % 8):Nat):Int):=by
    unfold turnB
    rw [hx,Int.toNat_natCast]
   have hput:=Kd.R_putg HR.out ((k / 8:Nat):Int) ((x ^^^ 2 ^ (k % 8):Nat):Int)
   rw [Int.toNat_natCast,← htn] at hput
   have HPUT:=Aside0.mk hput
   have hpw:((2 ^ (k % 8):Nat):Int)=(2:Int) ^ (k % 8):=by rw [Int.natCast_pow];rfl
   have hpl:=pow8_lt k
   have hpm:(2:Int) ^ (k % 8) % 256=((2 ^ (k % 8):Nat):Int):=by
    rw [← hpw]
    clear hpw hxr hput
    generalize 2 ^ (k % 8)=P at hpl
    omega
   have hval:bits .xor .u8 (x:Int) ((2:Int) ^ (k % 8) % 256)=((x ^^^ 2 ^ (k % 8):Nat):Int):=by rw [hpm,hxr]
   have HVAL:=Aside0.mk hval
   clear hput htn hrd hx hq hd8 hm8 hpw hpl hpm hval hxr
   go_upto_region 9 with (fail)
   rw [HVAL.out]
   obtain ⟨A9,c9,he,_,hC9⟩:=Kd.R_reads HPUT.out.1
   rw [turnB_length,HYL.out] at he hC9
   injection he with he1 he2 he3
   subst he1 he3
   have hde:=HDEC.out _ _ _ hC9 HCAP.out
   have hbw:=pw_below_grown HB.out _ HB.out.size HPUT.out.2 (fun k e=>by injection e with e;rw [← e];exact HG.out)
   replace HB:=Aside0.mk hbw
   clear hC9 hbw hcell hfree HR he2
   go_wp2_with (first
    | (go_at_call 16;(with_reducible refine hde.mono ?_);rintro e w5 ⟨u,rfl,hr,hB⟩;obtain ⟨A4,c4,A5,c5,A6,c6,rfl,hc⟩:=zres_parts hr;(have HG4:=Aside0.mk (zboxed hc));obtain ⟨⟨g0,g1,g2,g3,g4,g5,g6⟩,_⟩:=HG4.out.1.cells;(replace HB:=Aside0.mk (below_next HB.out hB (.cells #[.int .i64 0,.int .i64 0,.int .i64 0,.string ⟨#[]⟩,.slice A4 0 c4,.slice A5 0 c5,.slice A6 0 c6] 25)));(have hz:=z_same HG4.out.2);clear hr hc hB hde)
    | (go_at_call 18;(with_reducible refine hz.mono ?_);rintro e w6 ⟨rfl,hB⟩;(replace HB:=Aside0.mk (below_same HB.out hB));(have hsp:=speaks6_ok w6);clear hB hz)
    | (go_at_call 13;(with_reducible refine hsp.mono ?_);rintro e w7 ⟨rfl,hB⟩;(replace HB:=Aside0.mk (below_same HB.out hB));clear hB hsp))
   go_ret
   exact ⟨rfl,HB.out⟩
 ·have hz:pageF x0 x1 x2 x3 l4 l5 l6=([],60):=by unfold pageF;rw [if_neg hnb]
  rw [hz] at hen
  clear h hn hl hv hnb hz hb0
  go_enter Try.func7,Try.ntmps7
  go_wp2_with (first
   | (go_at_call 14;(with_reducible refine hen.mono ?_);rintro e w2 ⟨A8,c8,rfl,h1,h2,hR,hB⟩;clear b0 b1 b2 b3 b4 b5 b6;(replace HB:=Aside0.mk (below_same HB.out hB));(have hsp:=speaks6_ok w2);clear h1 h2 hR hB hen)
   | (go_at_call 13;(with_reducible refine hsp.mono ?_);rintro e w7 ⟨rfl,hB⟩;(replace HB:=Aside0.mk (below_same HB.out hB));clear hB hsp))
  go_ret
  exact ⟨rfl,HB.out⟩
end Go.Proofs.Ythfhkcicpfnedaa.Page
