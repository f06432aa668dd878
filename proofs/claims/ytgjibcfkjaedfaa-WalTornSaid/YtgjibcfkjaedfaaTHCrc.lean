-- A part of the text Crc, thinned by a program of this session.
import Derived.Test.YtgjibcfkjaedfaaTHNdFrom
import Derived.Laws.BitsAllLaws
namespace Go.Proofs.Ytgjibcfkjaedfaa.Crc
open Go.RowKit Go.Proofs.YtgjibcfkjaedfaaW.PrintWords Go.Proofs.YtgjibcfkjaedfaaW.PrintLast Go.Proofs.YtgjibcfkjaedfaaW.PrintMore Go.Proofs.Ytgjibcfkjaedfaa.Wire
open Go.Proofs.Ytgjibcfkjaedfaa.Back (AllB numB numB_small)
set_option linter.unusedVariables false
set_option linter.unusedSimpArgs false
def crcT (s:Nat):Nat:=s / 2 ^^^ (if s % 2=1 then 3988292384 else 0)
def crcTn:Nat→Nat→Nat
 | 0,s=>s
 | k+1,s=>crcT (crcTn k s)
def crcB (s x:Nat):Nat:=crcTn 8 (s ^^^ x)
def crcS (s:Nat) (xs:List Int):Nat:=xs.foldl (fun s x=>crcB s x.toNat) s
def sumOf (xs:List Int):Nat:=crcS 4294967295 xs ^^^ 4294967295
theorem crcT_lt {s:Nat} (h:s < 4294967296):crcT s < 4294967296:=by
 unfold crcT
 have h1:s / 2 < 2 ^ 32:=by omega
 have h2:(if s % 2=1 then 3988292384 else 0) < 2 ^ 32:=by split <;> omega
 exact Nat.xor_lt_two_pow h1 h2
theorem crcTn_lt {s:Nat} (h:s < 4294967296):∀ k,crcTn k s < 4294967296
 | 0=>h
 | k+1=>crcT_lt (crcTn_lt h k)
theorem xor_lt32 {a b:Nat} (h:a < 4294967296) (k:b < 4294967296):a ^^^ b < 4294967296:=Nat.xor_lt_two_pow (n:=32) h k
theorem crcB_lt {s x:Nat} (h:s < 4294967296) (hx:x < 4294967296):crcB s x < 4294967296:=crcTn_lt (xor_lt32 h hx) 8
theorem crcS_lt:∀ {xs:List Int} {s:Nat},s < 4294967296→AllB xs→crcS s xs < 4294967296
 | [],s,h,_=>h
 | x::l,s,h,ha=>crcS_lt (xs:=l) (crcB_lt h (by have:=ha x (by simp);omega)) (fun y hy=>ha y (List.mem_cons_of_mem _ hy))
theorem xor32 {a b:Nat} (h:a < 4294967296) (k:b < 4294967296):bits .xor .u32 (a:Int) (b:Int)=((a ^^^ b:Nat):Int):=u32_xor_nat a b h k
theorem and1 {a:Nat} (h:a < 4294967296):bits .and .u32 (a:Int) 1=((a % 2:Nat):Int):=by
 have h1:=u32_and_nat a 1 h (by omega)
 rw [Nat.and_one_is_mod] at h1
 exact h1
theorem crcT_go {t:Nat} (h:t < 4294967296):bits .xor .u32 ((t:Int) / 2) (bits .and .u32 3988292384 (-((t:Int) % 2) % 4294967296))=(crcT t:Int):=by
 unfold crcT
 have e1:(t:Int) / 2=((t / 2:Nat):Int):=by omega
 rw [e1]
 by_cases hp:t % 2=1
 ·have e2 : -((t:Int) % 2) % 4294967296=4294967295:=by omega
  rw [e2,if_pos hp,show bits .and .u32 3988292384 4294967295=((3988292384:Nat):Int) by decide +kernel,xor32 (by omega) (by omega)]
 ·have e2 : -((t:Int) % 2) % 4294967296=0:=by omega
  rw [e2,if_neg hp,show bits .and .u32 3988292384 0=((0:Nat):Int) by decide +kernel,xor32 (by omega) (by omega)]
set_option maxRecDepth 100000 in
set_option maxHeartbeats 4000000 in
theorem step_ok (s x:Nat) (w:World) (hs:s < 4294967296) (hx:x < 256):Calls Try.prog 113 #[.int .u32 (s:Int),.int .u8 (x:Int)] w fun e w'=>e=.returned (.int .u32 (crcB s x:Int))∧Drawn0 w w':=by
 have e1:=xor32 hs (show x < 4294967296 by omega)
 have hy:=xor_lt32 hs (show x < 4294967296 by omega)
 have e2:IntKind.u32.wrap (x:Int)=(x:Int):=by
  show (x:Int) % 4294967296=x
  omega
 unfold crcB
 generalize s ^^^ x=y at e1 hy ⊢
 have e3:((x:Int) % 4294967296)=x:=by omega
 go_enter Try.func113,Try.ntmps113
 go_wp2
 go_loopw [0,9] (fun v0 v9 wr=>∃ k:Nat,k≤8∧v9=.int .i64 k∧v0=.int .u32 (crcTn k y:Int)∧Aside0 (Drawn0 w wr)) (fun _ v9 _=>8 - (intOf v9).toNat)
 case atStart=>exact ⟨0,by omega,rfl,rfl,⟨Drawn0.refl _⟩⟩
 case round =>
  obtain ⟨k,hk,rfl,rfl,HD⟩:=hrel
  by_cases hlt:k < 8
  ·have hltI:(k:Int) < 8:=by omega
   have ht:=crcTn_lt hy k
   have hst:crcTn (k+1) y=crcT (crcTn k y):=rfl
   generalize crcTn k y=t at ht hst
   have h1:=and1 ht
   have htI:(0:Int)≤(t:Int):=by omega
   have htI2:(t:Int) < 4294967296:=by omega
   go_wp2
   go_roundw
   case rel=>exact ⟨k+1,by omega,by go_num,by rw [crcT_go ht,hst],HD⟩
   case measure=>simp [intOf];omega
  ·have hltI:¬ (k:Int) < 8:=by omega
   obtain rfl:k=8:=by omega
   go_wp2
   go_ret
   exact ⟨rfl,HD.out⟩
theorem crcS_snoc (s:Nat) (xs:List Int) (x:Int):crcS s (xs++[x])=crcB (crcS s xs) x.toNat:=by simp [crcS]
theorem take_snoc {xs:List Int} {k:Nat} (h:k < xs.length):xs.take (k+1)=xs.take k++[xs.getD k 0]:=by
 rw [List.take_add_one,List.getElem?_eq_getElem h,List.getD_eq_getElem?_getD,List.getElem?_eq_getElem h]
 rfl
theorem byte_get {xs:List Int} {k:Nat} (hb:AllB xs) (h:k < xs.length):∃ b:Nat,xs.getD k 0=b∧b < 256:=by
 rw [List.getD_eq_getElem?_getD,List.getElem?_eq_getElem h,Option.getD_some]
 have:=hb _ (List.getElem_mem h)
 exact ⟨xs[k].toNat,by omega,by omega⟩
theorem byte_cell {w:World} {A:Option Addr} {xs:List Int} (h:Kd.C (Kd.int .u8) w A xs.length xs) (hp:0 < xs.length):∃ ad,A=some ad∧∀ k,k < xs.length→w.cell? (ad.add k)=some (.int .u8 (xs.getD k 0)):=by
 obtain ⟨ad,e,hc⟩:=C_cells h hp
 refine ⟨ad,e,fun k hk=>hc k _ ?_⟩
 simp only [nums,List.getElem?_map,List.getElem?_eq_getElem hk,List.getD_eq_getElem?_getD,Option.map_some,Option.getD_some]
theorem not32 {s:Nat} (h:s < 4294967296):bits .xor .u32 IntKind.u32.max (s:Int)=((s ^^^ 4294967295:Nat):Int):=by
 rw [Nat.xor_comm]
 exact xor32 (a:=4294967295) (by omega) h
def moreOf (n:Nat) (xs:List Int):Nat:=crcS (n ^^^ 4294967295) xs ^^^ 4294967295
theorem sum_more (xs:List Int):sumOf xs=moreOf 0 xs:=by unfold sumOf moreOf;rw [Nat.zero_xor]
theorem moreOf_lt {n:Nat} {xs:List Int} (h:n < 4294967296) (hb:AllB xs):moreOf n xs < 4294967296:=xor_lt32 (crcS_lt (xor_lt32 h (by omega)) hb) (by omega)
set_option maxRecDepth 100000 in
set_option maxHeartbeats 4000000 in
theorem more_ok (n:Nat) (hn:n≤4294967295) (A:Option Addr) (c:Nat) (xs:List Int) (w:World) (hr:Kd.C (Kd.int .u8) w A xs.length xs) (hb:AllB xs) :
  Calls Try.prog 106 #[.int .i64 (n:Int),.slice A xs.length c] w fun e w'=>e=.returned (.tuple #[.int .i64 (moreOf n xs:Int),.int .i64 0])∧Drawn0 w w':=by
 have hlen:xs.length≤9223372036854775807:=hr.2.1
 have d0:decide ((n:Int) < 0)=false:=decide_eq_false (by omega)
 have d1:decide ((n:Int) > 4294967295)=false:=decide_eq_false (by omega)
 have d2:((n:Int) % 4294967296)=n:=by omega
 have HR:=Aside0.mk hr
 have HB:=Aside0.mk hb
 clear hr hb
 unfold moreOf
 have hn1:=not32 (show n < 4294967296 by omega)
 have hs0l:=xor_lt32 (show n < 4294967296 by omega) (show 4294967295 < 4294967296 by omega)
 generalize n ^^^ 4294967295=s0 at hn1 hs0l ⊢
 have HS0:=Aside0.mk hs0l
 clear hs0l
 go_enter Try.func106,Try.ntmps106
 go_upto_region 5 with (fail)
 go_loopw [6,20] (fun v6 v20 wr=>∃ k:Nat,k≤xs.length∧v20=.int .i64 k∧v6=.int .u32 (crcS s0 (xs.take k):Int)∧Aside0 (Drawn0 w wr)) (fun _ v20 _=>xs.length - (intOf v20).toNat)
 case atStart=>exact ⟨0,by omega,rfl,rfl,⟨Drawn0.refl _⟩⟩
 case round =>
  obtain ⟨k,hk,rfl,rfl,HD⟩:=hrel
  by_cases hlt:k < xs.length
  ·have hltI:(k:Int) < (xs.length:Int):=by omega
   have hk0:(0:Int)≤(k:Int):=by omega
   obtain ⟨ad,rfl,hce⟩:=byte_cell HR.out (by omega)
   have hc:=hce k hlt
   obtain ⟨nd,rfl⟩:=HD.out.out
   obtain ⟨x,hx,hx2⟩:=byte_get HB.out hlt
   have hsn:=crcS_snoc s0 (xs.take k) (xs.getD k 0)
   rw [← take_snoc hlt] at hsn
   rw [hx] at hc hsn
   rw [Int.toNat_natCast] at hsn
   have hsl:crcS s0 (xs.take k) < 4294967296:=crcS_lt HS0.out (fun y hy=>HB.out y (List.mem_of_mem_take hy))
   generalize crcS s0 (xs.take k)=s at hsn hsl
   have hst:=fun W=>step_ok s x W hsl hx2
   clear hce hx
   go_wp2_with (go_at_call 113;refine (hst _).mono ?_;rintro e w5 ⟨rfl,⟨nd5,rfl⟩⟩)
   go_roundw
   case rel=>exact ⟨k+1,by omega,by go_num,by rw [hsn],⟨⟨⟨nd+nd5,rfl⟩⟩⟩⟩
   case measure=>simp [intOf];omega
  ·have hltI:¬ (k:Int) < (xs.length:Int):=by omega
   obtain rfl:k=xs.length:=by omega
   rw [List.take_of_length_le (Nat.le_refl _)]
   have hsl:crcS s0 xs < 4294967296:=crcS_lt HS0.out HB.out
   have hend:=not32 hsl
   have hlt2:=xor_lt32 hsl (show 4294967295 < 4294967296 by omega)
   generalize hr2:crcS s0 xs ^^^ 4294967295=r at hend hlt2
   have HR2:=Aside0.mk hr2
   clear hr2
   generalize crcS s0 xs=s at hend
   have hw:IntKind.i64.wrap (r:Int)=r:=by rw [IntKind.wrap_i64];omega
   go_wp2
   go_ret2
   rw [HR2.out]
   exact ⟨rfl,HD.out⟩
set_option maxHeartbeats 1000000 in
theorem sum_ok (A:Option Addr) (c:Nat) (xs:List Int) (w:World) (hr:Kd.C (Kd.int .u8) w A xs.length xs) (hb:AllB xs) :
  Calls Try.prog 94 #[.slice A xs.length c] w fun e w'=>e=.returned (.int .i64 (sumOf xs:Int))∧Drawn0 w w':=by
 have hm:=more_ok 0 (by omega) A c xs w hr hb
 rw [← sum_more] at hm
 generalize sumOf xs=r at hm ⊢
 clear hr hb
 go_enter Try.func94,Try.ntmps94
 go_wp2_with (go_at_call 106;refine hm.mono ?_;rintro e w5 ⟨rfl,hd⟩;(have HD:=Aside0.mk hd);clear hd)
 go_ret
 exact ⟨rfl,HD.out⟩
theorem sum_numOk {xs:List Int} (hb:AllB xs):numOk (sumOf xs:Int) 4=true:=by
 have h:=moreOf_lt (n:=0) (by omega) hb
 rw [← sum_more] at h
 unfold numOk
 rw [show numTop 4=4294967296 from rfl,decide_eq_true (by omega),decide_eq_true (by omega)]
 rfl
theorem sum_lt {xs:List Int} (hb:AllB xs):sumOf xs < 4294967296:=by rw [sum_more];exact moreOf_lt (by omega) hb
set_option maxRecDepth 100000 in
set_option maxHeartbeats 4000000 in
theorem seal_ok (A:Option Addr) (c:Nat) (xs:List Int) (w:World) (hr:Kd.C (Kd.int .u8) w A xs.length xs) (hb:AllB xs) (hl:xs.length≤140737488351232) :
  Calls Try.prog 77 #[.slice A xs.length c] w fun e w'=>∃ u,e=.returned u∧Kd.R (Kd.int .u8) 5 w' w.heap.size (fun _=>True) u (xs++le (sumOf xs:Int) 4)∧Below w.heap.size w w':=by
 have HR:=Aside0.mk hr
 have HB:=Aside0.mk hb
 have HL:=Aside0.mk hl
 have hok:=sum_numOk hb
 have HOK:=Aside0.mk hok
 have hlt:=sum_lt hb
 have HLT:=Aside0.mk hlt
 have hnew:=new_from w
 obtain ⟨ys,hys⟩:∃ ys,ys=le (sumOf xs:Int) 4:=⟨_,rfl⟩
 have HYL:Aside0 (ys.length=4):=⟨by rw [hys];exact le_length _ _⟩
 have HYS:=Aside0.mk hys
 rw [← hys]
 clear hr hb hl hok hlt hys
 go_enter Try.func77,Try.ntmps77
 go_wp2_with (first
  | (go_at_call 73;refine hnew.mono ?_;rintro e w1 ⟨rfl,hw1,hB1⟩;(have HW1:=Aside0.mk hw1);(have HB1:=Aside0.mk hB1);(have hsum:=sum_ok A c xs w1 (Kd.C_below HR.out hB1) HB.out);clear hw1 hB1 hnew)
  | (go_at_call 94;refine hsum.mono ?_;rintro e w2 ⟨rfl,⟨nd,rfl⟩⟩;(have hnum:=num_from (w:=w1.drewN nd) (sumOf xs:Int) 4 (HW1.out.drewN nd) HB1.out.size (by have:=HLT.out;omega) (by decide));rw [HOK.out,if_pos rfl,if_pos rfl,List.nil_append,show Int.toNat 4=4 from rfl,← HYS.out] at hnum;clear hsum)
  | (go_at_call 74;refine hnum.mono ?_;rintro e w3 ⟨rfl,hw3,hB3⟩;(have HW3:=Aside0.mk hw3);(have HB3:=Aside0.mk ((pw_below_drewN HB1.out nd).trans hB3));(have hcl:=clone_bytes A c xs w3 (Kd.C_below HR.out HB3.out) (by have:=HL.out;omega));clear hw3 hB3 hnum)
  | (go_at_call 81;refine hcl.mono ?_;rintro e w4 ⟨u4,rfl,hR4,hB4⟩;obtain ⟨A4,c4,rfl⟩:=Kd.R_slice hR4;(have HR4:=Aside0.mk (Kd.R_lower hR4 HB3.out.size));(have HB4:=Aside0.mk (below_from HB3.out (Nat.le_refl _) hB4));(have hby:=bytes_from (HW3.out.below hB4) (by have:=HYL.out;omega));clear hR4 hB4 hcl)
  | (go_at_call 76;refine hby.mono ?_;rintro e w5 ⟨A5,c5,rfl,hc5,hC5,hB5,_⟩;(have HR5:=Aside0.mk (Kd.R_below HR4.out hB5));(have HC5:=Aside0.mk hC5);(have HB5:=Aside0.mk (below_from HB4.out (Nat.le_refl _) hB5));clear hC5 hB5 hby)
  | ((with_reducible refine gate_builtin (b:=.append) (xs:=#[.tmp 10,.tmp 12]) rfl ?_);at_builtin;refine Kd.R_append_row (Value.int .u8) (0:Int) (h1:=fun _=>rfl) (w0:=w) w.heap.size rfl (.tmp 10) (.tmp 12) 67 5 (.int .u8 0) 1 rfl Try.underlying67 info8 rfl (by decide) (.slice A4 xs.length c4) xs ys A5 ys.length c5 (fun _=>True) rfl rfl (fun _ _=>trivial) HR5.out HC5.out HB5.out HB5.out.size (by have:=HL.out;have:=HYL.out;omega) ?_;intro v1 w7 ho hbel hg hat;(have HO:=Aside0.mk ho);(have HBEL:=Aside0.mk hbel);clear ho hbel hg hat))
 go_ret
 exact ⟨_,rfl,HO.out,HBEL.out⟩
def opOf (xs:List Int):List Int×Int :=
 if xs.length < 4 then ([],10) else if numB (xs.drop (xs.length - 4))≠(sumOf (xs.take (xs.length - 4)):Int) then ([],20) else (xs.take (xs.length - 4),0)
theorem rdNum4 {xs:List Int} (h:xs.length=4) (hb:AllB xs):rdNum xs 0 4=((numB xs,0),([],0)):=by
 unfold rdNum
 have h0:0≤numB xs:=by rw [numB_small hb (by omega)];omega
 rw [if_neg (by decide),if_neg (by simp),if_neg (by omega),show Int.toNat 4=4 from rfl,List.take_of_length_le (by omega),List.drop_of_length_le (by omega),if_neg (by omega)]
set_option maxRecDepth 100000 in
set_option maxHeartbeats 4000000 in
theorem open_ok (A:Option Addr) (c:Nat) (xs:List Int) (w:World) (hr:Kd.C (Kd.int .u8) w A xs.length xs) (hc:xs.length≤c) (hb:AllB xs) (hl:xs.length≤140737488355328) :
  Calls Try.prog 80 #[.slice A xs.length c] w fun e w'=>∃ u,e=.returned (.tuple #[u,.int .i64 (opOf xs).2])∧Kd.R (Kd.int .u8) 5 w' w.heap.size (fun _=>True) u (opOf xs).1∧Below w.heap.size w w':=by
 unfold opOf
 by_cases h4:xs.length < 4
 ·rw [if_pos h4]
  have hw:IntKind.i64.wrap ((xs.length:Int) - 4)=(xs.length:Int) - 4:=by rw [IntKind.wrap_i64];omega
  have d0:decide ((xs.length:Int) - 4 < 0)=true:=decide_eq_true (by omega)
  clear hr hb
  go_enter Try.func80,Try.ntmps80
  go_wp2
  go_ret2
  exact ⟨_,rfl,Kd.R_nil _ _ _ _ _,Below.refl _ _⟩
 ·rw [if_neg h4]
  obtain ⟨m,hm⟩:∃ m,m=xs.length - 4:=⟨_,rfl⟩
  rw [← hm]
  have hml:m≤xs.length:=by omega
  have hw:IntKind.i64.wrap ((xs.length:Int) - 4)=(m:Int):=by rw [IntKind.wrap_i64];omega
  have hm0:(0:Int)≤(m:Int):=by omega
  have d0:decide ((m:Int) < 0)=false:=decide_eq_false (by omega)
  have hdl:(xs.drop m).length=4:=by rw [List.length_drop];omega
  have htl:(xs.take m).length=m:=by rw [List.length_take];omega
  have hdb:AllB (xs.drop m):=fun x hx=>hb x (List.mem_of_mem_drop hx)
  have htb:AllB (xs.take m):=fun x hx=>hb x (List.mem_of_mem_take hx)
  have hCd:=Kd.C_drop hr hml hc
  have hCt:=Kd.C_take hr hml
  have hcut1:∀ W:World,(Instr.slice 67 (.slice A xs.length c) (some (.int .i64 (m:Int))) none none).run Try.prog W=.ok (.slice (if c=m then A else A.map (·.add m)) 4 (c - m)) W:=by
   intro W
   have h:=cut_from (P:=Try.prog) 67 5 .i64 Try.underlying67 (info_parts info8).choose_spec.1 1 (info_parts info8).choose_spec.2.2.1 A xs.length c (m:Int) (by omega) (by omega) W
   rw [Int.toNat_natCast,Nat.mul_one,show xs.length - m=4 by omega] at h
   exact h
  have hcut2:∀ W:World,(Instr.slice 67 (.slice A xs.length c) none (some (.int .i64 (m:Int))) none).run Try.prog W=.ok (.slice A m c) W:=by
   intro W
   have h:=cut_to (P:=Try.prog) 67 5 .i64 Try.underlying67 (info_parts info8).choose_spec.1 A xs.length c (m:Int) (by omega) (by omega) hc W
   rw [Int.toNat_natCast] at h
   exact h
  have e1:m*(Kd.int IntKind.u8).sz=m:=Nat.mul_one m
  rw [e1] at hCd
  obtain ⟨A3,hA3⟩:∃ a,a=(if c=m then A else A.map (·.add m)):=⟨_,rfl⟩
  obtain ⟨c3,hc3⟩:∃ a,a=c - m:=⟨_,rfl⟩
  rw [← hA3,← hc3] at hcut1
  rw [← hA3] at hCd
  have hof:=of_from (c:=c3) hCd (by omega)
  rw [hdl] at hof
  have HCT:=Aside0.mk hCt
  have HTB:=Aside0.mk htb
  have HTL:=Aside0.mk htl
  have HL:=Aside0.mk hl
  have HML:=Aside0.mk hml
  have hq:=rdNum4 hdl hdb
  have HQ:=Aside0.mk hq
  have HDL:=Aside0.mk hdl
  have hsm:=fun W (hB:Below w.heap.size w W)=>sum_ok A c (xs.take m) W (Kd.C_below hCt hB) htb
  rw [htl] at hsm
  have hcl:=fun W (hB:Below w.heap.size w W)=>clone_bytes A c (xs.take m) W (Kd.C_below hCt hB) (by omega)
  rw [htl] at hcl
  generalize xs.take m=ts at *
  generalize xs.drop m=ds at *
  generalize hsv:(sumOf ts:Int)=sv at *
  generalize hnv:numB ds=nv at *
  clear hr hb hCd hCt htb hdb hA3 hc3 e1 h4 hsv hnv hq hdl htl hm
  by_cases hne:nv=sv
  ·subst hne
   rw [if_neg (by simp)]
   go_enter Try.func80,Try.ntmps80
   go_wp2_with (first
    | (go_at_call 78;refine hof.mono ?_;rintro e w2 ⟨g2,rfl,hr2,hB2⟩;(have HB2:=Aside0.mk hB2);(have hnm:=rdnum_from 4 hr2 hB2.size (by have:=HDL.out;omega));rw [HQ.out] at hnm;clear hr2 hB2 hof)
    | (go_at_call 97;refine hnm.mono ?_;rintro e w3 ⟨rfl,_,hB3⟩;(have HB3:=Aside0.mk (HB2.out.trans hB3));(have hsm3:=hsm w3 HB3.out);clear hB3 hnm)
    | (go_at_call 94;refine hsm3.mono ?_;rintro e w4 ⟨rfl,⟨nd,rfl⟩⟩;(have hcl4:=hcl (w3.drewN nd) (pw_below_drewN HB3.out nd));clear hsm3)
    | (go_at_call 81;refine hcl4.mono ?_;rintro e w5 ⟨u5,rfl,hR5,hB5⟩;(have HR5:=Aside0.mk (Kd.R_lower hR5 HB3.out.size));(have HB5:=Aside0.mk (below_from (pw_below_drewN HB3.out nd) (Nat.le_refl _) hB5));clear hR5 hB5 hcl4))
   go_ret2
   exact ⟨_,rfl,HR5.out,HB5.out⟩
  ·rw [if_pos hne]
   have d9:(nv != sv)=true:=bne_iff_ne.mpr hne
   clear hne
   go_enter Try.func80,Try.ntmps80
   go_wp2_with (first
    | (go_at_call 78;refine hof.mono ?_;rintro e w2 ⟨g2,rfl,hr2,hB2⟩;(have HB2:=Aside0.mk hB2);(have hnm:=rdnum_from 4 hr2 hB2.size (by have:=HDL.out;omega));rw [HQ.out] at hnm;clear hr2 hB2 hof)
    | (go_at_call 97;refine hnm.mono ?_;rintro e w3 ⟨rfl,_,hB3⟩;(have HB3:=Aside0.mk (HB2.out.trans hB3));(have hsm3:=hsm w3 HB3.out);clear hB3 hnm)
    | (go_at_call 94;refine hsm3.mono ?_;rintro e w4 ⟨rfl,⟨nd,rfl⟩⟩;clear hsm3))
   go_ret2
   exact ⟨_,rfl,Kd.R_nil _ _ _ _ _,pw_below_drewN HB3.out _⟩
end Go.Proofs.Ytgjibcfkjaedfaa.Crc
