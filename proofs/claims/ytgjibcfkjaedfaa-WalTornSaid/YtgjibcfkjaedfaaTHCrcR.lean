-- Parts melded by a program of this session.
import Derived.Test.YtgjibcfkjaedfaaTHCrc
import Derived.Test.YtgjibcfkjaedfaaTHRefW
import Derived.Test.YtgjibcfkjaedfaaTHPrx0
namespace Go.Proofs.Ytgjibcfkjaedfaa.Crc
open Go.RowKit Go.Proofs.YtgjibcfkjaedfaaW.PrintWords Go.Proofs.YtgjibcfkjaedfaaW.PrintLast Go.Proofs.YtgjibcfkjaedfaaW.PrintMore Go.Proofs.Ytgjibcfkjaedfaa.Wire
open Go.Proofs.Ytgjibcfkjaedfaa.Back (AllB numB numB_small)
set_option linter.unusedVariables false
set_option linter.unusedSimpArgs false
set_option maxRecDepth 100000 in
set_option maxHeartbeats 4000000 in
theorem refsum_ok (A:Option Addr) (c:Nat) (xs:List Int) (w:World) (hr:Kd.C (Kd.int .u8) w A xs.length xs) (hb:AllB xs) :
  Calls Try.prog 100 #[.slice A xs.length c] w fun e w'=>e=.returned (.int .i64 (sumOf xs:Int))∧Drawn0 w w':=by
 have hlen:xs.length≤9223372036854775807:=hr.2.1
 have HR:=Aside0.mk hr
 have HB:=Aside0.mk hb
 unfold sumOf
 clear hr hb
 go_enter Try.func100,Try.ntmps100
 go_upto_region 3 with (fail)
 go_loopw [3,10] (fun v3 v10 wr=>∃ k:Nat,k≤xs.length∧v10=.int .i64 k∧v3=.int .u32 (crcS 4294967295 (xs.take k):Int)∧Aside0 (Drawn0 w wr)) (fun _ v10 _=>xs.length - (intOf v10).toNat)
 case atStart=>exact ⟨0,by omega,rfl,rfl,⟨Drawn0.refl _⟩⟩
 case round =>
  obtain ⟨k,hk,rfl,rfl,HD⟩:=hrel
  by_cases hlt:k < xs.length
  ·have hltI:(k:Int) < (xs.length:Int):=by omega
   have hk0:(0:Int)≤(k:Int):=by omega
   obtain ⟨ad,rfl,hce⟩:=byte_cell HR.out (by omega)
   have hc:=hce k hlt
   obtain ⟨nd,rfl⟩:=HD.out.out
   obtain ⟨x,hx,hx2⟩:=byte_get HB.out hlt
   have hsn:=crcS_snoc 4294967295 (xs.take k) (xs.getD k 0)
   rw [← take_snoc hlt] at hsn
   rw [hx] at hc hsn
   rw [Int.toNat_natCast] at hsn
   have hsl:crcS 4294967295 (xs.take k) < 4294967296:=crcS_lt (by omega) (fun y hy=>HB.out y (List.mem_of_mem_take hy))
   generalize crcS 4294967295 (xs.take k)=s at hsn hsl
   unfold crcB at hsn
   have e1:=xor32 hsl (show x < 4294967296 by omega)
   have hy:=xor_lt32 hsl (show x < 4294967296 by omega)
   generalize s ^^^ x=y at e1 hy hsn
   have HSN:=Aside0.mk hsn
   have e3:((x:Int) % 4294967296)=x:=by omega
   clear hce hx hsn
   go_upto_region 7 with (fail)
   go_loopw [3,6] (fun v3 v6 wr=>∃ j:Nat,j≤8∧v6=.int .i64 j∧v3=.int .u32 (crcTn j y:Int)∧wr=w.drewN nd) (fun _ v6 _=>8 - (intOf v6).toNat)
   case atStart=>exact ⟨0,by omega,rfl,rfl,rfl⟩
   case round =>
    obtain ⟨j,hj,rfl,rfl,rfl⟩:=hrel
    by_cases hjl:j < 8
    ·have hjI:(j:Int) < 8:=by omega
     have ht:=crcTn_lt hy j
     have hst:crcTn (j+1) y=crcT (crcTn j y):=rfl
     generalize crcTn j y=t at ht hst
     have h1:=and1 ht
     have htI:(0:Int)≤(t:Int):=by omega
     have htI2:(t:Int) < 4294967296:=by omega
     unfold crcT at hst
     by_cases hp:t % 2=1
     ·rw [if_pos hp] at hst
      rw [hp] at h1
      have hxr:=xor32 (show t / 2 < 4294967296 by omega) (show 3988292384 < 4294967296 by omega)
      rw [← hst] at hxr
      have ed:((t / 2:Nat):Int)=(t:Int) / 2:=by omega
      rw [ed] at hxr
      have hxr':bits .xor .u32 ((t:Int) / 2) 3988292384=((crcTn (j+1) y:Nat):Int):=hxr
      generalize hnx:crcTn (j+1) y=nx at hxr'
      have HNX:=Aside0.mk hnx
      clear hnx hxr
      clear hp ed hst
      go_wp2
      go_roundw
      case rel=>exact ⟨j+1,by omega,by go_num,by rw [HNX.out],trivial⟩
      case measure=>simp [intOf];omega
     ·have hp0:t % 2=0:=by omega
      rw [if_neg hp,Nat.xor_zero] at hst
      rw [hp0] at h1
      clear hp hp0
      go_wp2
      go_roundw
      case rel=>exact ⟨j+1,by omega,by go_num,by rw [hst];congr 1,trivial⟩
      case measure=>simp [intOf];omega
    ·have hjI:¬ (j:Int) < 8:=by omega
     obtain rfl:j=8:=by omega
     go_wp2
     go_roundw
     case rel=>exact ⟨k+1,by omega,by go_num,by rw [HSN.out],⟨⟨⟨nd,rfl⟩⟩⟩⟩
     case measure=>simp [intOf];omega
  ·have hltI:¬ (k:Int) < (xs.length:Int):=by omega
   obtain rfl:k=xs.length:=by omega
   rw [List.take_of_length_le (Nat.le_refl _)]
   have hsl:crcS 4294967295 xs < 4294967296:=crcS_lt (by omega) HB.out
   have hend:bits .xor .u32 (crcS 4294967295 xs:Int) 4294967295=((crcS 4294967295 xs ^^^ 4294967295:Nat):Int):=xor32 hsl (show 4294967295 < 4294967296 by omega)
   have hlt2:=xor_lt32 hsl (show 4294967295 < 4294967296 by omega)
   generalize hr2:crcS 4294967295 xs ^^^ 4294967295=r at hend hlt2
   have HR2:=Aside0.mk hr2
   clear hr2
   generalize crcS 4294967295 xs=s at hend
   have hw:IntKind.i64.wrap (r:Int)=r:=by rw [IntKind.wrap_i64];omega
   go_wp2
   go_ret
   rw [HR2.out]
   exact ⟨rfl,HD.out⟩
set_option maxRecDepth 100000 in
set_option maxHeartbeats 4000000 in
theorem refseal_ok (A:Option Addr) (c:Nat) (xs:List Int) (w:World) (hr:Kd.C (Kd.int .u8) w A xs.length xs) (hb:AllB xs) (hl:xs.length≤140737488351232) :
  Calls Try.prog 90 #[.slice A xs.length c] w fun e w'=>∃ u,e=.returned u∧Kd.R (Kd.int .u8) 5 w' w.heap.size (fun _=>True) u (xs++le (sumOf xs:Int) 4)∧Below w.heap.size w w':=by
 have HR:=Aside0.mk hr
 have HB:=Aside0.mk hb
 have HL:=Aside0.mk hl
 have hlt:=sum_lt hb
 have HLT:=Aside0.mk hlt
 obtain ⟨ys,hys⟩:∃ ys,ys=le (sumOf xs:Int) 4:=⟨_,rfl⟩
 have HYL:Aside0 (ys.length=4):=⟨by rw [hys];exact le_length _ _⟩
 have HYS:=Aside0.mk hys
 rw [← hys]
 clear hr hb hl hlt hys
 go_enter Try.func90,Try.ntmps90
 go_wp2_with (first
  | ((with_reducible refine gate_builtin (b:=.append) (xs:=#[.tmp 4,.tmp 5]) rfl ?_);at_builtin;refine Kd.R_append_row (Value.int .u8) (0:Int) (h1:=fun _=>rfl) (w0:=w) w.heap.size rfl (.tmp 4) (.tmp 5) 67 5 (.int .u8 0) 1 rfl Try.underlying67 info8 rfl (by decide) (.slice none 0 0) [] xs A xs.length c (fun _=>True) rfl rfl (fun _ _=>trivial) (Kd.R_nil _ _ _ _ _) HR.out (Below.refl _ _) (Nat.le_refl _) ?aL ?_;(case aL=>(have:=HL.out;simp;omega));intro v1 w1 ho hbel hg hat;rw [List.nil_append] at ho;obtain ⟨A1,c1,rfl⟩:=Kd.R_slice ho;(have HO1:=Aside0.mk ho);(have HB1:=Aside0.mk hbel);(have hsum:=refsum_ok A c xs w1 (Kd.C_below HR.out hbel) HB.out);clear ho hbel hg hat)
  | (go_at_call 100;refine hsum.mono ?_;rintro e w2 ⟨rfl,⟨nd,rfl⟩⟩;(have hnum:=refnum_ok (sumOf xs:Int) 4 (w1.drewN nd) (by omega) (by have:=HLT.out;omega) (by decide));rw [← HYS.out] at hnum;clear hsum)
  | (go_at_call 88;refine hnum.mono ?_;rintro e w3 ⟨u3,rfl,hR3,hB3⟩;obtain ⟨A3,c3,rfl,_,hC3⟩:=Kd.R_reads hR3;(have HC3:=Aside0.mk hC3);(have HO3:=Aside0.mk (Kd.R_below (Kd.R_drewN HO1.out nd) hB3));(have HB3:=Aside0.mk (below_from (pw_below_drewN HB1.out nd) (Nat.le_refl _) hB3));clear hR3 hC3 hB3 hnum)
  | ((with_reducible refine gate_builtin (b:=.append) (xs:=#[.tmp 7,.tmp 10]) rfl ?_);at_builtin;refine Kd.R_append_row (Value.int .u8) (0:Int) (h1:=fun _=>rfl) (w0:=w) w.heap.size rfl (.tmp 7) (.tmp 10) 67 5 (.int .u8 0) 1 rfl Try.underlying67 info8 rfl (by decide) (.slice A1 xs.length c1) xs ys A3 ys.length c3 (fun _=>True) rfl rfl (fun _ _=>trivial) HO3.out HC3.out HB3.out HB3.out.size (by have:=HL.out;have:=HYL.out;omega) ?_;intro v1 w7 ho hbel hg hat;(have HO:=Aside0.mk ho);(have HBEL:=Aside0.mk hbel);clear ho hbel hg hat))
 go_ret
 exact ⟨_,rfl,HO.out,HBEL.out⟩
theorem le_hor:∀ {xs:List Int},AllB xs→le (Back.hor xs:Int) xs.length=xs
 | [],_=>rfl
 | x::l,h=>by
  have hx:=h x (List.mem_cons_self ..)
  have ih:=le_hor (xs:=l) (fun y hy=>h y (List.mem_cons_of_mem _ hy))
  rw [List.length_cons,le,Back.hor]
  have e1:((Back.hor l*256+x.toNat:Nat):Int) % 256=x:=by omega
  have e2:((Back.hor l*256+x.toNat:Nat):Int) / 256=(Back.hor l:Int):=by omega
  rw [e1,e2,ih]
theorem four_eq {ds:List Int} {s:Nat} (hd:ds.length=4) (hb:AllB ds) (hs:s < 4294967296):numB ds=(s:Int)↔ds=le (s:Int) 4:=by
 have h1:=le_hor hb
 have h2:=numB_small hb (by omega)
 rw [hd] at h1
 constructor
 ·intro h
  rw [← h,h2,h1]
 ·intro h
  have hh:=Back.hor_lt (xs:=ds) hb
  rw [h2]
  have h3:le (Back.hor ds:Int) 4=le (s:Int) 4:=h1.trans h
  simp only [le,List.cons.injEq] at h3
  rw [hd] at hh
  omega
theorem strOfNums_inj {xs ys:List Int} (hx:AllB xs) (hy:AllB ys) (h:strOfNums xs=strOfNums ys):xs=ys:=by
 have h1:=congrArg (fun b:ByteArray=>b.data.toList.map fun n=>(n.toNat:Int)) h
 simp only [Go.strOfNums_data,List.map_map] at h1
 have e:∀ zs:List Int,AllB zs→zs.map ((fun n:UInt8=>(n.toNat:Int)) ∘ fun n:Int=>UInt8.ofNat n.toNat)=zs:=by
  intro zs hz
  conv=>rhs;rw [← List.map_id zs]
  apply List.map_congr_left
  intro z hzz
  have:=hz z hzz
  simp
  omega
 rw [e xs hx,e ys hy] at h1
 exact h1
set_option maxRecDepth 100000 in
set_option maxHeartbeats 4000000 in
theorem refopen_ok (A:Option Addr) (c:Nat) (xs:List Int) (w:World) (hr:Kd.C (Kd.int .u8) w A xs.length xs) (hc:xs.length≤c) (hb:AllB xs) (hl:xs.length≤140737488355328) :
  Calls Try.prog 83 #[.slice A xs.length c] w fun e w'=>∃ A' c',e=.returned (.tuple #[.slice A' (opOf xs).1.length c',.int .i64 (opOf xs).2])∧(opOf xs).1.length≤c'∧Kd.C (Kd.int .u8) w' A' (opOf xs).1.length (opOf xs).1∧Below w.heap.size w w':=by
 unfold opOf
 by_cases h4:xs.length < 4
 ·rw [if_pos h4]
  have hw:IntKind.i64.wrap ((xs.length:Int) - 4)=(xs.length:Int) - 4:=by rw [IntKind.wrap_i64];omega
  have d0:decide ((xs.length:Int) - 4 < 0)=true:=decide_eq_true (by omega)
  clear hr hb
  go_enter Try.func83,Try.ntmps83
  go_wp2
  go_ret2
  exact ⟨none,0,rfl,Nat.le_refl _,Kd.C_nil _ _,Below.refl _ _⟩
 ·rw [if_neg h4]
  obtain ⟨m,hm⟩:∃ m,m=xs.length - 4:=⟨_,rfl⟩
  rw [← hm]
  have hml:m≤xs.length:=by omega
  have hw:IntKind.i64.wrap ((xs.length:Int) - 4)=(m:Int):=by rw [IntKind.wrap_i64];omega
  have hm0:(0:Int)≤(m:Int):=by omega
  have d0:decide ((m:Int) < 0)=false:=decide_eq_false (by omega)
  have hdl:(xs.drop m).length=4:=by rw [List.length_drop];omega
  have htl:(xs.take m).length=m:=by rw [List.length_take];omega
  have hdb:AllB (xs.drop m):=fun x hx=>hb x (List.mem_of_mem_drop hx)
  have htb:AllB (xs.take m):=fun x hx=>hb x (List.mem_of_mem_take hx)
  have hCd:=Kd.C_drop hr hml hc
  have hCt:=Kd.C_take hr hml
  have hcut1:∀ W:World,(Instr.slice 67 (.slice A xs.length c) (some (.int .i64 (m:Int))) none none).run Try.prog W=.ok (.slice (if c=m then A else A.map (·.add m)) 4 (c - m)) W:=by
   intro W
   have h:=cut_from (P:=Try.prog) 67 5 .i64 Try.underlying67 (info_parts info8).choose_spec.1 1 (info_parts info8).choose_spec.2.2.1 A xs.length c (m:Int) (by omega) (by omega) W
   rw [Int.toNat_natCast,Nat.mul_one,show xs.length - m=4 by omega] at h
   exact h
  have hcut2:∀ W:World,(Instr.slice 67 (.slice A xs.length c) none (some (.int .i64 (m:Int))) none).run Try.prog W=.ok (.slice A m c) W:=by
   intro W
   have h:=cut_to (P:=Try.prog) 67 5 .i64 Try.underlying67 (info_parts info8).choose_spec.1 A xs.length c (m:Int) (by omega) (by omega) hc W
   rw [Int.toNat_natCast] at h
   exact h
  have e1:m*(Kd.int IntKind.u8).sz=m:=Nat.mul_one m
  rw [e1] at hCd
  obtain ⟨A3,hA3⟩:∃ a,a=(if c=m then A else A.map (·.add m)):=⟨_,rfl⟩
  obtain ⟨c3,hc3⟩:∃ a,a=c - m:=⟨_,rfl⟩
  rw [← hA3,← hc3] at hcut1
  rw [← hA3] at hCd
  have hcv:∀ W,Below w.heap.size w W→(convert 67 9 (.slice A3 4 c3)).run Try.prog W=.ok (.string (strOfNums (xs.drop m))) W:=by
   intro W hB
   have h:=Kd.C_below hCd hB
   rw [hdl] at h
   exact Kd.C_string Try.underlying67 Try.underlying5 Try.underlying9 h
  have hsm:=fun W (hB:Below w.heap.size w W)=>refsum_ok A c (xs.take m) W (Kd.C_below hCt hB) htb
  rw [htl] at hsm
  have hsl:=sum_lt htb
  have hfe:=four_eq hdl hdb hsl
  have hinj:strOfNums (xs.drop m)=strOfNums (le (sumOf (xs.take m):Int) 4)→xs.drop m=le (sumOf (xs.take m):Int) 4:=strOfNums_inj hdb (fun y hy=>by
   have hall:∀ (k:Nat) (n:Int),∀ z ∈ le n k,0≤z∧z < 256:=by
    intro k
    induction k with
    | zero=>intro n z hz;simp [le] at hz
    | succ k ih =>
     intro n z hz
     rw [le,List.mem_cons] at hz
     rcases hz with rfl|hz
     ·omega
     ·exact ih _ z hz
   exact hall 4 _ y hy)
  have hnm:=fun W=>refnum_ok (sumOf (xs.take m):Int) 4 W (by omega) (by omega) (by decide)
  obtain ⟨ys,hys⟩:∃ ys,ys=le (sumOf (xs.take m):Int) 4:=⟨_,rfl⟩
  have hyl:ys.length=4:=by rw [hys];exact le_length _ _
  rw [← hys] at hfe hinj hnm
  have hcv1:=hcv w.drew (below_drew (Below.refl _ _))
  have hcvN:=fun n=>hcv (w.drewN n) (pw_below_drewN (Below.refl _ _) n)
  have HCV:=Aside0.mk hcv
  have HCT:=Aside0.mk hCt
  have HTL:=Aside0.mk htl
  have HC:=Aside0.mk hc
  have HML:=Aside0.mk hml
  have HFE:=Aside0.mk hfe
  have HINJ:=Aside0.mk hinj
  have HYL:=Aside0.mk hyl
  generalize hsa:strOfNums (xs.drop m)=sa at hcv1 hcvN
  have HSA:=Aside0.mk hsa
  generalize hsb:strOfNums ys=sb
  have HSB:=Aside0.mk hsb
  clear hr hb hCd hCt htb hdb hA3 hc3 e1 h4 hdl htl hm hcv hfe hinj hsa hsb hys hsl hyl
  by_cases hne:sa=sb
  ·have hcase:numB (xs.drop m)=(sumOf (xs.take m):Int):=HFE.out.2 (HINJ.out (by rw [HSA.out,HSB.out,hne]))
   rw [if_neg (fun h=>h hcase)]
   subst hne
   go_enter Try.func83,Try.ntmps83
   go_upto_region 4 with (fail)
   go_region_with (first
    | (go_at_call 100;refine (hsm _ (below_drew (Below.refl _ _))).mono ?_;rintro e w2 ⟨rfl,⟨nd,rfl⟩⟩;(have hB2:=pw_below_drewN (below_drew (Below.refl w.heap.size w)) nd);(have hcv2:=HCV.out _ hB2);rw [HSA.out] at hcv2;(have HB2:=Aside0.mk hB2);clear hB2)
    | (go_at_call 88;refine (hnm _).mono ?_;rintro e w3 ⟨u3,rfl,hR3,hB3⟩;obtain ⟨A5,c5,rfl,hc5,hC5⟩:=Kd.R_reads hR3;(have hcv5:=Kd.C_string (P:=Try.prog) (A:=A5) (c:=c5) Try.underlying67 Try.underlying5 Try.underlying9 hC5);rw [HSB.out] at hcv5;(have hB3':=below_from (pw_below_drewN (Below.refl w.heap.size w) _) (Nat.le_refl _) hB3);(have hcv3:=HCV.out _ hB3');rw [HSA.out] at hcv3;(have HB3:=Aside0.mk hB3');clear hR3 hB3 hC5 hB3'))
   all_goals
    go_wp2
    go_ret2
    refine ⟨A,c,?_,?_,?_,HB3.out⟩
    ·rw [HTL.out];rfl
    ·rw [HTL.out];have:=HML.out;have:=HC.out;omega
    ·exact Kd.C_below HCT.out HB3.out
  ·have hcase:numB (xs.drop m)≠(sumOf (xs.take m):Int):=fun h=>hne (by rw [← HSA.out,← HSB.out,HFE.out.1 h])
   rw [if_pos hcase]
   have hne2:(sa.toList==sb.toList)=false:=beq_eq_false_iff_ne.mpr fun h=>hne (by
    rw [Go.ByteArray.toList_eq,Go.ByteArray.toList_eq] at h
    exact ByteArray.ext (Array.toList_inj.1 h))
   go_enter Try.func83,Try.ntmps83
   go_upto_region 4 with (fail)
   go_region_with (first
    | (go_at_call 100;refine (hsm _ (below_drew (Below.refl _ _))).mono ?_;rintro e w2 ⟨rfl,⟨nd,rfl⟩⟩;(have hB2:=pw_below_drewN (below_drew (Below.refl w.heap.size w)) nd);(have hcv2:=HCV.out _ hB2);rw [HSA.out] at hcv2;(have HB2:=Aside0.mk hB2);clear hB2)
    | (go_at_call 88;refine (hnm _).mono ?_;rintro e w3 ⟨u3,rfl,hR3,hB3⟩;obtain ⟨A5,c5,rfl,hc5,hC5⟩:=Kd.R_reads hR3;(have hcv5:=Kd.C_string (P:=Try.prog) (A:=A5) (c:=c5) Try.underlying67 Try.underlying5 Try.underlying9 hC5);rw [HSB.out] at hcv5;(have hB3':=below_from (pw_below_drewN (Below.refl w.heap.size w) _) (Nat.le_refl _) hB3);(have hcv3:=HCV.out _ hB3');rw [HSA.out] at hcv3;(have HB3:=Aside0.mk hB3');clear hR3 hB3 hC5 hB3'))
   all_goals
    go_wp2
    go_ret2
    exact ⟨none,0,rfl,Nat.le_refl _,Kd.C_nil _ _,HB3.out⟩
end Go.Proofs.Ytgjibcfkjaedfaa.Crc


-- A part of the text Prx14, thinned by a program of this session.
namespace Go.Proofs.Ytgjibcfkjaedfaa.Pr
open Go.RowKit Go.Proofs.YtgjibcfkjaedfaaW.PrintWords Go.Proofs.YtgjibcfkjaedfaaW.PrintLast Go.Proofs.YtgjibcfkjaedfaaW.PrintMore
attribute [local go_sem] max2_int min2_int max_two min_two max_three min_three max_four min_four
set_option linter.unusedVariables false
set_option linter.unusedSimpArgs false
def allB (l:List Int):Bool:=l.all fun x=>decide (0≤x)&&decide (x < 256)
theorem allB_iff {l:List Int}:allB l=true↔Back.AllB l:=by
 unfold allB Back.AllB
 simp [List.all_eq_true]
def latticeref02_Seal.f (l0:List Int):Option (List Int):=if allB l0=true∧l0.length≤140737488351232 then some (l0++Wire.le (Crc.sumOf l0:Int) 4) else none
theorem latticeref02_Seal.calls (A0:Option Addr) (c0:Nat) (l0:List Int) (r:List Int) (w:World) (hr0:Kd.C (Kd.int .u8) w A0 l0.length l0) (hc0:l0.length≤c0) (h:latticeref02_Seal.f l0=some r) :
  Calls Try.prog 90 #[.slice A0 l0.length c0] w fun e w'=>∃ v_:Value,e=.returned v_∧Kd.R (Kd.int .u8) 5 w' w.heap.size (fun _=>True) v_ r∧Below w.heap.size w w':=by
 unfold latticeref02_Seal.f at h
 split at h
 ·rename_i hc
  injection h with h
  subst h
  exact Crc.refseal_ok A0 c0 l0 w hr0 (allB_iff.1 hc.1) hc.2
 ·cases h
end Go.Proofs.Ytgjibcfkjaedfaa.Pr
