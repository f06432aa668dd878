-- A part of the text PageFit, thinned by a program of this session.
import Derived.Test.YtgjibcfkjaedfaaTHPageEnc
namespace Go.Proofs.Ytgjibcfkjaedfaa.Page
open Go.RowKit Go.Proofs.YtgjibcfkjaedfaaW.PrintWords Go.Proofs.YtgjibcfkjaedfaaW.PrintLast Go.Proofs.YtgjibcfkjaedfaaW.PrintMore Go.Proofs.Ytgjibcfkjaedfaa.Wire Go.Proofs.Ytgjibcfkjaedfaa.Crc Go.Proofs.Ytgjibcfkjaedfaa.Pr
open Go.Proofs.Ytgjibcfkjaedfaa.Back (AllB numB numB_small)
open Go.Proofs.Ytgjibcfkjaedfaa.Pure
set_option linter.unusedVariables false
set_option linter.unusedSimpArgs false
theorem kAll_get {high:ByteArray} {keys:List ByteArray}:∀ (d i:Nat),kAll high keys d i=true→∀ j,i≤j→j < i+d→kB high keys j=true
 | 0,i,_,j,h1,h2=>by omega
 | d+1,i,h,j,h1,h2=>by
  rw [kAll,Bool.and_eq_true] at h
  by_cases e:j=i
  ·rw [e];exact h.1
  ·exact kAll_get d (i+1) h.2 j (by omega) (by omega)
theorem sz_le (c:Nat):∀ l:List ByteArray,(∀ y ∈ l,y.size≤c)→2*(l.length:Int)≤sz l∧sz l≤(2+(c:Int))*(l.length:Int)
 | [],_=>by simp [sz]
 | x::l,h=>by
  have h1:=h x (by simp)
  have ⟨h2,h3⟩:=sz_le c l (fun y hy=>h y (by simp [hy]))
  simp only [sz,List.length_cons]
  refine ⟨by omega,?_⟩
  have:(2+(c:Int))*((l.length+1:Nat):Int)=(2+(c:Int))*(l.length:Int)+(2+(c:Int)):=by
   rw [Int.natCast_add,Int.mul_add];simp
  rw [this]
  omega
theorem ckey_small {x:ByteArray} (h:ckey x=0):0 < x.size∧x.size≤16:=by
 unfold ckey at h
 by_cases z:x.size=0∨16 < x.size
 ·rw [if_pos z] at h;cases h
 ·omega
theorem keys_small {high:ByteArray} {keys:List ByteArray} (h:kAll high keys keys.length 0=true):∀ y ∈ keys,y.size≤16:=by
 intro y hy
 obtain ⟨j,hj,rfl⟩:=List.getElem_of_mem hy
 have:=kAll_get _ 0 h j (Nat.zero_le _) (by omega)
 unfold kB at this
 simp only [Bool.and_eq_true,decide_eq_true_eq] at this
 have q:=this.1
 rw [rd_get hj] at q
 exact (ckey_small q).2
theorem vals_small {vals:List ByteArray} (h:(!(vals.any badV))=true):∀ y ∈ vals,y.size≤32:=by
 intro y hy
 by_cases c:y.size≤32
 ·exact c
 ·exfalso
  have:vals.any badV=true:=List.any_eq_true.2 ⟨y,hy,by unfold badV;rw [decide_eq_true];omega⟩
  rw [this] at h
  cases h
theorem kids_small {kids:List Int} (h:(!(kids.any badK))=true):∀ y ∈ kids,1≤y∧y≤4096:=by
 intro y hy
 by_cases c:1≤y∧y≤4096
 ·exact c
 ·exfalso
  have:kids.any badK=true:=List.any_eq_true.2 ⟨y,hy,by unfold badK;rw [Bool.or_eq_true,decide_eq_true_eq,decide_eq_true_eq];omega⟩
  rw [this] at h
  cases h
theorem sz_take {keys:List ByteArray} (i:Nat) (h:i < keys.length):sz (keys.take (i+1))=sz (keys.take i)+(2+((rdOf ByteArray.empty keys (i:Int)).size:Int)):=by
 rw [List.take_succ_eq_append_getElem h,rd_get h]
 have:∀ a:List ByteArray,∀ y,sz (a++[y])=sz a+(2+(y.size:Int)):=by
  intro a y
  induction a with
  | nil=>simp [sz]
  | cons x a ih=>simp only [List.cons_append,sz,ih];omega
 exact this _ _
theorem kidsB_len {keys:List ByteArray} (kids:List Int):∀ i,i≤keys.length→((kidsB keys kids (i+1)).length:Int)=sz (keys.take i)+4*((i+1:Nat):Int)
 | 0,_=>by simp [kidsB,le_length,sz]
 | i+1,h=>by
  have ih:=kidsB_len (keys:=keys) kids i (by omega)
  rw [kidsB,List.length_append,List.length_append,le_length,if_neg (by omega),txB_length,sz_take (keys:=keys) i (by omega)]
  have e:((i+1:Nat):Int) - 1=(i:Int):=by omega
  rw [e]
  omega
theorem valsB_len {keys vals:List ByteArray}:∀ i,i≤keys.length→i≤vals.length→((valsB keys vals i).length:Int)=sz (keys.take i)+sz (vals.take i)
 | 0,_,_=>by simp [valsB,sz]
 | i+1,h,k=>by
  have ih:=valsB_len (keys:=keys) (vals:=vals) i (by omega) (by omega)
  rw [valsB,List.length_append,List.length_append,txB_length,txB_length,sz_take (keys:=keys) i (by omega),sz_take (keys:=vals) i (by omega)]
  omega
theorem fit_of {lv lsn rt:Int} {high:ByteArray} {keys vals:List ByteArray} {kids:List Int} (h:nodeB lv lsn rt high keys vals kids=true) (hl:keys.length*16≤140737488351232):Fit lv lsn rt high keys vals kids:=by
 unfold nodeB at h
 simp only [Bool.and_eq_true,Bool.or_eq_true,decide_eq_true_eq] at h
 obtain ⟨q1,q2,q3,q4,hp,hs,ha⟩:=h
 have hk:=keys_small ha
 have hh:high.size≤16:=by
  rcases q4 with q4|q4
  ·have:=(tl_nil high).1 q4;omega
  ·exact (ckey_small q4).2
 obtain ⟨s1,s2⟩:=sz_le 16 keys hk
 have hbl:(bodyB lv lsn rt high keys vals kids).length=17+high.size+(kidsB keys kids kids.length).length+(valsB keys vals vals.length).length:=by
  unfold bodyB
  rw [List.length_append,List.length_append,hdrB_length]
 unfold szN at hs
 unfold partsB at hp
 by_cases e:lv=0
 ·rw [if_pos e] at hp hs
  simp only [Bool.and_eq_true,decide_eq_true_eq] at hp
  obtain ⟨p1,p2,p3⟩:=hp
  have hv:=vals_small p3
  obtain ⟨v1,v2⟩:=sz_le 32 vals hv
  rw [w64 (by omega) (by omega)] at hs
  have hkn:=List.length_eq_zero_iff.1 p2
  subst hkn
  have hvl:=valsB_len (keys:=keys) (vals:=vals) vals.length (by omega) (Nat.le_refl _)
  rw [List.take_length,p1,List.take_length] at hvl
  rw [p1] at hbl
  refine ⟨q1,q2,q3,hh,hk,hv,fun x hx=>absurd hx (by simp),by omega,.inr p1,.inl rfl,?_⟩
  rw [hbl]
  simp only [List.length_nil,kidsB]
  omega
 ·rw [if_neg e] at hp hs
  simp only [Bool.and_eq_true,decide_eq_true_eq] at hp
  obtain ⟨p1,p2,p3⟩:=hp
  rw [w64 (by omega) (by omega)] at hs
  have hvn:=List.length_eq_zero_iff.1 p2
  subst hvn
  have hkl:=kidsB_len (keys:=keys) kids keys.length (Nat.le_refl _)
  rw [List.take_length] at hkl
  rw [p1] at hbl
  refine ⟨q1,q2,q3,hh,hk,fun x hx=>absurd hx (by simp),kids_small p3,by omega,.inl rfl,.inr p1,?_⟩
  rw [hbl]
  simp only [List.length_nil,valsB]
  omega
theorem encode_ok (a0_0:Int) (a0_1:Int) (a0_2:Int) (a0_3:ByteArray) (A0_4:Option Addr) (c0_4:Nat) (l0_4:List ByteArray) (A0_5:Option Addr) (c0_5:Nat) (l0_5:List ByteArray) (A0_6:Option Addr) (c0_6:Nat) (l0_6:List Int) (w:World) (hr0_4:Kd.C Kd.string w A0_4 l0_4.length l0_4) (hc0_4:l0_4.length≤c0_4) (hr0_5:Kd.C Kd.string w A0_5 l0_5.length l0_5) (hc0_5:l0_5.length≤c0_5) (hr0_6:Kd.C (Kd.int .i64) w A0_6 l0_6.length l0_6) (hc0_6:l0_6.length≤c0_6) (hl:l0_4.length*16≤140737488351232) (hv:l0_5.length*16≤140737488351232) :
  Calls Try.prog 104 #[.agg #[.int .i64 a0_0,.int .i64 a0_1,.int .i64 a0_2,.string a0_3,.slice A0_4 l0_4.length c0_4,.slice A0_5 l0_5.length c0_5,.slice A0_6 l0_6.length c0_6]] w fun e w'=>∃ v0_:Value,e=.returned (.tuple #[v0_,.int .i64 (pageF a0_0 a0_1 a0_2 a0_3 l0_4 l0_5 l0_6).2])∧Kd.R (Kd.int .u8) 5 w' w.heap.size (fun _=>True) v0_ (pageF a0_0 a0_1 a0_2 a0_3 l0_4 l0_5 l0_6).1∧Below w.heap.size w w':=by
 obtain ⟨k,hk⟩:=(check_ev a0_0 a0_1 a0_2 a0_3 l0_4 l0_5 l0_6 hl hv).rounds
 unfold pageF
 by_cases c:nodeB a0_0 a0_1 a0_2 a0_3 l0_4 l0_5 l0_6=true
 ·rw [if_pos c] at hk ⊢
  exact enc_yes a0_0 a0_1 a0_2 a0_3 A0_4 c0_4 l0_4 A0_5 c0_5 l0_5 A0_6 c0_6 l0_6 w hr0_4 hc0_4 hr0_5 hc0_5 hr0_6 hc0_6 k hk (fit_of c hl)
 ·rw [if_neg c] at hk ⊢
  refine (enc_no a0_0 a0_1 a0_2 a0_3 A0_4 c0_4 l0_4 A0_5 c0_5 l0_5 A0_6 c0_6 l0_6 w hr0_4 hc0_4 hr0_5 hc0_5 hr0_6 hc0_6 k hk).mono ?_
  rintro e w' ⟨rfl,hB⟩
  exact ⟨_,rfl,Kd.R_nil _ _ _ _ _,hB⟩
end Go.Proofs.Ytgjibcfkjaedfaa.Page
