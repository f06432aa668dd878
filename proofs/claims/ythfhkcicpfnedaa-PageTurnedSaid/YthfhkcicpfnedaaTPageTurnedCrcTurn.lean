-- A part of the text CrcTurn, thinned by a program of this session.
import Derived.Test.YthfhkcicpfnedaaTPageTurnedCrcMix
namespace Go.Proofs.Ythfhkcicpfnedaa.Crc
open Go.RowKit Go.Proofs.YthfhkcicpfnedaaW.PrintWords Go.Proofs.YthfhkcicpfnedaaW.PrintLast Go.Proofs.YthfhkcicpfnedaaW.PrintMore Go.Proofs.Ythfhkcicpfnedaa.Wire
open Go.Proofs.Ythfhkcicpfnedaa.Back (AllB numB numB_small)
set_option linter.unusedVariables false
set_option linter.unusedSimpArgs false
theorem crcTn_add (a s:Nat):∀ b,crcTn (b+a) s=crcTn b (crcTn a s)
 | 0=>by rw [Nat.zero_add];rfl
 | b+1=>by
  rw [show b+1+a=(b+a)+1 by omega]
  show crcT (crcTn (b+a) s)=crcT (crcTn b (crcTn a s))
  rw [crcTn_add a s b]
theorem crcT_zero:crcT 0=0:=by decide +kernel
theorem crcTn_zero:∀ k,crcTn k 0=0
 | 0=>rfl
 | k+1=>by rw [crcTn,crcTn_zero k,crcT_zero]
theorem crcT_ne {s:Nat} (h:s < 4294967296) (hz:crcT s=0):s=0:=by
 unfold crcT at hz
 by_cases hp:s % 2=1
 ·rw [if_pos hp] at hz
  have:s / 2=3988292384:=by
   have h2:=congrArg (· ^^^ 3988292384) hz
   simp only [Nat.xor_assoc,Nat.xor_self,Nat.xor_zero,Nat.zero_xor] at h2
   exact h2
  omega
 ·rw [if_neg hp,Nat.xor_zero] at hz
  omega
theorem crcTn_ne {s:Nat} (h:s < 4294967296):∀ k,crcTn k s=0→s=0
 | 0,hz=>hz
 | k+1,hz=>crcTn_ne h k (crcT_ne (crcTn_lt h k) hz)
theorem crcT_even (s:Nat):crcT (2*s)=s:=by
 unfold crcT
 rw [if_neg (by omega),Nat.xor_zero]
 omega
theorem crcTn_pow:∀ (i m:Nat),crcTn (m+i) (2 ^ i)=crcTn m 1
 | 0,m=>rfl
 | i+1,m=>by
  rw [show m+(i+1)=(m+i)+1 by omega,crcTn_add 1,Nat.pow_succ,Nat.mul_comm]
  show crcTn (m+i) (crcT (2*2 ^ i))=_
  rw [crcT_even,crcTn_pow i m]
theorem crcTn8 (y:Nat):crcTn 8 (256*y)=y:=by
 have e:256*y=2*(2*(2*(2*(2*(2*(2*(2*y))))))):=by omega
 rw [e]
 simp only [crcTn,crcT_even]
theorem split256 (v:Nat):v % 256 ^^^ 256*(v / 256)=v:=by
 apply Nat.eq_of_testBit_eq
 intro i
 rw [Nat.testBit_xor,show (256:Nat)=2 ^ 8 from rfl,Nat.testBit_mod_two_pow,Nat.testBit_two_pow_mul,Nat.testBit_div_two_pow]
 by_cases h:i < 8
 ·simp [h,Nat.not_le.2 h]
 ·have h2:8≤i:=by omega
  simp [h,h2,Nat.add_sub_cancel' h2,Nat.sub_add_cancel h2]
theorem crcS_le:∀ (k s v:Nat),v < 256 ^ k→crcS s (le (v:Int) k)=crcTn (8*k) (s ^^^ v)
 | 0,s,v,h=>by
  have:v=0:=by omega
  subst this
  show s=s ^^^ 0
  rw [Nat.xor_zero]
 | k+1,s,v,h=>by
  have e1:((v:Int) % 256).toNat=v % 256:=by omega
  have e2:(v:Int) / 256=((v / 256:Nat):Int):=by omega
  rw [le]
  show crcS (crcB s ((v:Int) % 256).toNat) (le ((v:Int) / 256) k)=_
  rw [e1,e2,crcS_le k _ _ (by rw [Nat.pow_succ] at h;omega),show 8*(k+1)=8*k+8 by omega,crcTn_add 8]
  congr 1
  unfold crcB
  conv=>lhs;rhs;rw [← crcTn8 (v / 256)]
  rw [← crcTn_xor,Nat.xor_assoc,split256]
theorem crcS_sealed {xs:List Int} (hb:AllB xs):crcS 4294967295 (xs++le (sumOf xs:Int) 4)=crcTn 32 4294967295:=by
 rw [crcS_append,crcS_le 4 _ _ (sum_lt hb)]
 unfold sumOf
 rw [← Nat.xor_assoc,Nat.xor_self,Nat.zero_xor]
theorem crcS_xor (e:Nat):∀ (l:List Int) (s:Nat),crcS (s ^^^ e) l=crcS s l ^^^ crcTn (8*l.length) e
 | [],s=>rfl
 | x::l,s=>by
  show crcS (crcB (s ^^^ e) x.toNat) l=crcS (crcB s x.toNat) l ^^^ _
  have h:crcB (s ^^^ e) x.toNat=crcB s x.toNat ^^^ crcTn 8 e:=by
   unfold crcB
   rw [← crcTn_xor,Nat.xor_assoc,Nat.xor_assoc,Nat.xor_comm e]
  rw [h,crcS_xor _ l,List.length_cons,show 8*(l.length+1)=8*l.length+8 by omega,crcTn_add 8 e (8*l.length)]
theorem crcS_set (d:Nat):∀ (l:List Int) (q s:Nat),q < l.length→crcS s (l.set q (((l.getD q 0).toNat ^^^ d:Nat):Int))=crcS s l ^^^ crcTn (8*(l.length - q)) d
 | [],q,s,h=>by simp at h
 | x::l,0,s,_=>by
  show crcS (crcB s (((x.toNat ^^^ d:Nat):Int)).toNat) l=crcS (crcB s x.toNat) l ^^^ _
  have h:crcB s (((x.toNat ^^^ d:Nat):Int)).toNat=crcB s x.toNat ^^^ crcTn 8 d:=by
   unfold crcB
   rw [Int.toNat_natCast,← crcTn_xor,Nat.xor_assoc]
  rw [h,crcS_xor,List.length_cons,Nat.sub_zero,show 8*(l.length+1)=8*l.length+8 by omega,crcTn_add 8 d (8*l.length)]
 | x::l,q+1,s,h=>by
  rw [List.length_cons] at h
  show crcS (crcB s x.toNat) (l.set q (((l.getD q 0).toNat ^^^ d:Nat):Int))=crcS (crcB s x.toNat) l ^^^ _
  rw [crcS_set d l q _ (by omega),List.length_cons,Nat.add_sub_add_right]
def turnB (xs:List Int) (k:Nat):List Int:=xs.set (k / 8) (((xs.getD (k / 8) 0).toNat ^^^ 2 ^ (k % 8):Nat):Int)
theorem turnB_length (xs:List Int) (k:Nat):(turnB xs k).length=xs.length:=List.length_set
theorem pow8_lt (k:Nat):2 ^ (k % 8) < 256:=Nat.pow_lt_pow_right (a:=2) (n:=8) (by omega) (Nat.mod_lt _ (by omega))
theorem turnB_AllB {xs:List Int} (hb:AllB xs) (k:Nat):AllB (turnB xs k):=by
 intro x hx
 rcases List.mem_or_eq_of_mem_set hx with h|h
 ·exact hb x h
 ·rw [h]
  have:=xor_lt8 (getD_lt hb (k / 8)) (pow8_lt k)
  omega
theorem crcS_turnB {xs:List Int} {k:Nat} (h:k < 8*xs.length) (s:Nat):crcS s (turnB xs k)=crcS s xs ^^^ crcTn (8*xs.length - k) 1:=by
 unfold turnB
 rw [crcS_set _ _ _ _ (by omega),show 8*(xs.length - k / 8)=(8*xs.length - k)+k % 8 by omega,crcTn_pow]
def turnN (a p:Nat) (ys:List Int):Nat→List Int
 | 0=>ys
 | i+1=>if p / 2 ^ i % 2=1 then turnB (turnN a p ys i) (a+i) else turnN a p ys i
theorem turnN_length (a p:Nat) (ys:List Int):∀ i,(turnN a p ys i).length=ys.length
 | 0=>rfl
 | i+1=>by
  rw [turnN]
  split
  ·rw [turnB_length,turnN_length a p ys i]
  ·exact turnN_length a p ys i
theorem turnN_AllB (a p:Nat) {ys:List Int} (hb:AllB ys):∀ i,AllB (turnN a p ys i)
 | 0=>hb
 | i+1=>by
  rw [turnN]
  split
  ·exact turnB_AllB (turnN_AllB a p hb i) _
  ·exact turnN_AllB a p hb i
theorem mod_step (p i:Nat):p % 2 ^ (i+1)=p % 2 ^ i ^^^ (if p / 2 ^ i % 2=1 then 2 ^ i else 0):=by
 apply Nat.eq_of_testBit_eq
 intro j
 have hb:p.testBit i=decide (p / 2 ^ i % 2=1):=Nat.testBit_eq_decide_div_mod_eq
 rw [Nat.testBit_xor,Nat.testBit_mod_two_pow,Nat.testBit_mod_two_pow]
 by_cases h:p / 2 ^ i % 2=1
 ·rw [if_pos h,Nat.testBit_two_pow]
  by_cases hj:i=j
  ·subst hj
   simp [hb,h]
  ·by_cases h1:j < i
   ·have h2:j < i+1:=by omega
    simp [h1,h2,hj]
   ·have h2:¬ j < i+1:=by omega
    simp [h1,h2,hj]
 ·rw [if_neg h,Nat.zero_testBit]
  by_cases hj:i=j
  ·subst hj
   simp [hb,h]
  ·by_cases h1:j < i
   ·have h2:j < i+1:=by omega
    simp [h1,h2]
   ·have h2:¬ j < i+1:=by omega
    simp [h1,h2]
theorem crcS_turnN {a p:Nat} {ys:List Int} (s:Nat) (ha:a+32≤8*ys.length):∀ i,i≤32→crcS s (turnN a p ys i)=crcS s ys ^^^ crcTn (8*ys.length - a) (p % 2 ^ i)
 | 0,_=>by
  rw [Nat.pow_zero,Nat.mod_one,crcTn_zero,Nat.xor_zero]
  rfl
 | i+1,hi=>by
  have ih:=crcS_turnN (p:=p) s ha i (by omega)
  rw [mod_step,turnN]
  by_cases h:p / 2 ^ i % 2=1
  ·rw [if_pos h,if_pos h,crcS_turnB (by rw [turnN_length];omega),ih,turnN_length,crcTn_xor,Nat.xor_assoc]
   congr 2
   have h2:=crcTn_pow i (8*ys.length - (a+i))
   rw [show 8*ys.length - (a+i)+i=8*ys.length - a by omega] at h2
   exact h2.symm
  ·rw [if_neg h,if_neg h,Nat.xor_zero,ih]
theorem turned {a p:Nat} {xs:List Int} (hb:AllB xs) (hp:0 < p) (hp2:p < 4294967296) (ha:a+32≤8*(xs++le (sumOf xs:Int) 4).length) :
  opOf (turnN a p (xs++le (sumOf xs:Int) 4) 32)=([],20):=by
 have hres:=crcS_sealed hb
 have hby:=AllB_append hb (le_AllB 4 (sumOf xs:Int))
 have hyl:4≤(xs++le (sumOf xs:Int) 4).length:=by rw [List.length_append,le_length];omega
 generalize xs++le (sumOf xs:Int) 4=ys at ha hres hby hyl ⊢
 have ht:=crcS_turnN (p:=p) 4294967295 ha 32 (by omega)
 have htb:=turnN_AllB a p hby 32
 have htl:=turnN_length a p ys 32
 rw [Nat.mod_eq_of_lt hp2] at ht
 generalize turnN a p ys 32=zs at ht htb htl ⊢
 unfold opOf
 rw [if_neg (by omega),if_pos]
 intro h
 have hm:(zs.drop (zs.length - 4)).length=4:=by rw [List.length_drop];omega
 have htt:AllB (zs.take (zs.length - 4)):=fun y hy=>htb y (List.mem_of_mem_take hy)
 have hd:=(four_eq hm (fun y hy=>htb y (List.mem_of_mem_drop hy)) (sum_lt htt)).1 h
 have hz:=crcS_sealed htt
 rw [← hd,List.take_append_drop,ht,hres] at hz
 have hz2:crcTn (8*ys.length - a) p=0:=by
  have h2:=congrArg (crcTn 32 4294967295 ^^^ ·) hz
  simp only [← Nat.xor_assoc,Nat.xor_self,Nat.zero_xor] at h2
  exact h2
 have:=crcTn_ne hp2 _ hz2
 omega
theorem R_form {w:World} {base e:Nat} {ok:Nat→Prop} {v:Value} {xs:List Int} (h:Kd.R (Kd.int .u8) e w base ok v xs) (hp:0 < xs.length):∃ g cap,v=.slice (some ⟨g,0,none⟩) xs.length cap∧xs.length≤cap∧base≤g:=by
 obtain ⟨A,c,hv,hc,hC⟩:=Kd.R_reads h
 obtain ⟨inner,ho⟩:=Kd.R_own h
 rcases ho.2 with ⟨_,h0⟩|⟨g,cap,cur,hv2,hg,_⟩
 ·omega
 ·rw [hv] at hv2
  injection hv2 with h1 h2 h3
  subst h1
  exact ⟨g,c,hv,hc,hg⟩
end Go.Proofs.Ythfhkcicpfnedaa.Crc
