-- A part of the text RecV, thinned by a program of this session.
import Derived.Test.YtgjibcfkjaedfaaTHRecIR
import Derived.Test.YtgjibcfkjaedfaaTHCrcTurn
namespace Go.Proofs.Ytgjibcfkjaedfaa.Rec
open Go.RowKit Go.Proofs.YtgjibcfkjaedfaaW.PrintWords Go.Proofs.YtgjibcfkjaedfaaW.PrintLast Go.Proofs.YtgjibcfkjaedfaaW.PrintMore Go.Proofs.Ytgjibcfkjaedfaa.Wire Go.Proofs.Ytgjibcfkjaedfaa.Crc Go.Proofs.Ytgjibcfkjaedfaa.Pr Go.Proofs.Ytgjibcfkjaedfaa.Page
open Go.Proofs.Ytgjibcfkjaedfaa.Back (AllB numB numB_small numB_eight hor hor_lt hor_last pow_le7)
open Go.Proofs.Ytgjibcfkjaedfaa.Pure
set_option linter.unusedVariables false
set_option linter.unusedSimpArgs false
abbrev RecV:=Int×Int×Int×Int×Int×Int×ByteArray×ByteArray
def zeroR:RecV:=(0,0,0,0,0,0,⟨#[]⟩,⟨#[]⟩)
def rightV (v:RecV):Bool:=rightB v.1 v.2.1 v.2.2.1 v.2.2.2.1 v.2.2.2.2.1 v.2.2.2.2.2.1 v.2.2.2.2.2.2.1 v.2.2.2.2.2.2.2
def bodyR (v:RecV):List Int:=le v.1 8++(le v.2.1 8++(le v.2.2.1 1++(le v.2.2.2.1 4++(le v.2.2.2.2.1 4++(le v.2.2.2.2.2.1 8++(txB v.2.2.2.2.2.2.1++txB v.2.2.2.2.2.2.2))))))
def frameB (v:RecV):List Int:=sealB (le ((bodyR v).length:Int) 2++bodyR v)
def frameF (v:RecV):List Int×Int:=if rightV v=true then (frameB v,0) else ([],90)
structure Fits (v:RecV):Prop where
 h1:numOk v.1 ((8:Nat):Int)=true
 h2:numOk v.2.1 ((8:Nat):Int)=true
 h3:numOk v.2.2.1 ((1:Nat):Int)=true
 h4:numOk v.2.2.2.1 ((4:Nat):Int)=true
 h5:numOk v.2.2.2.2.1 ((4:Nat):Int)=true
 h6:numOk v.2.2.2.2.2.1 ((8:Nat):Int)=true
 h7:v.2.2.2.2.2.2.1.size≤65535
 h8:v.2.2.2.2.2.2.2.size≤65535
def q1 (ys:List Int):=rdNum ys 0 ((8:Nat):Int)
def q2 (ys:List Int):=rdNum (q1 ys).2.1 (q1 ys).2.2 ((8:Nat):Int)
def q3 (ys:List Int):=rdNum (q2 ys).2.1 (q2 ys).2.2 ((1:Nat):Int)
def q4 (ys:List Int):=rdNum (q3 ys).2.1 (q3 ys).2.2 ((4:Nat):Int)
def q5 (ys:List Int):=rdNum (q4 ys).2.1 (q4 ys).2.2 ((4:Nat):Int)
def q6 (ys:List Int):=rdNum (q5 ys).2.1 (q5 ys).2.2 ((8:Nat):Int)
def q7 (ys:List Int):=rdText (q6 ys).2.1 (q6 ys).2.2 65535
def q8 (ys:List Int):=rdText (q7 ys).2.1 (q7 ys).2.2 65535
def recOf (ys:List Int):RecV:=((q1 ys).1.1,(q2 ys).1.1,(q3 ys).1.1,(q4 ys).1.1,(q5 ys).1.1,(q6 ys).1.1,strOfNums (q7 ys).1.1,strOfNums (q8 ys).1.1)
def endOf (ys:List Int):Int:=rdEnd (q8 ys).2.1 (q8 ys).2.2
def readF (ys:List Int):RecV×Int:=if endOf ys≠0 then (zeroR,90) else (recOf ys,if rightV (recOf ys)=true then 0 else 90)
def decF9 (xs:List Int):RecV×Int×Int :=
 if xs.length < 2 then (zeroR,0,10)
 else if (xs.length:Int) < numB (xs.take 2)+6 then (zeroR,0,10)
 else if (opOf (xs.take ((numB (xs.take 2)).toNat+6))).2≠0 then (zeroR,0,20)
 else if (readF ((xs.drop 2).take (numB (xs.take 2)).toNat)).2≠0 then (zeroR,0,90)
 else ((readF ((xs.drop 2).take (numB (xs.take 2)).toNat)).1,numB (xs.take 2)+6,0)
theorem read_rt {v:RecV} (h:Fits v) (rest:List Int):recOf (bodyR v++rest)=v∧(q8 (bodyR v++rest)).2=(rest,0):=by
 obtain ⟨v1,v2,v3,v4,v5,v6,v7,v8⟩:=v
 have e1:q1 (bodyR (v1,v2,v3,v4,v5,v6,v7,v8)++rest)=((v1,0),(le v2 8++(le v3 1++(le v4 4++(le v5 4++(le v6 8++(txB v7++(txB v8++rest)))))),0)):=by
  unfold q1 bodyR
  simp only [List.append_assoc]
  exact rdNum_le h.h1 _
 have e2:q2 (bodyR (v1,v2,v3,v4,v5,v6,v7,v8)++rest)=((v2,0),(le v3 1++(le v4 4++(le v5 4++(le v6 8++(txB v7++(txB v8++rest))))),0)):=by
  unfold q2
  rw [e1]
  exact rdNum_le h.h2 _
 have e3:q3 (bodyR (v1,v2,v3,v4,v5,v6,v7,v8)++rest)=((v3,0),(le v4 4++(le v5 4++(le v6 8++(txB v7++(txB v8++rest)))),0)):=by
  unfold q3
  rw [e2]
  exact rdNum_le h.h3 _
 have e4:q4 (bodyR (v1,v2,v3,v4,v5,v6,v7,v8)++rest)=((v4,0),(le v5 4++(le v6 8++(txB v7++(txB v8++rest))),0)):=by
  unfold q4
  rw [e3]
  exact rdNum_le h.h4 _
 have e5:q5 (bodyR (v1,v2,v3,v4,v5,v6,v7,v8)++rest)=((v5,0),(le v6 8++(txB v7++(txB v8++rest)),0)):=by
  unfold q5
  rw [e4]
  exact rdNum_le h.h5 _
 have e6:q6 (bodyR (v1,v2,v3,v4,v5,v6,v7,v8)++rest)=((v6,0),(txB v7++(txB v8++rest),0)):=by
  unfold q6
  rw [e5]
  exact rdNum_le h.h6 _
 have e7:q7 (bodyR (v1,v2,v3,v4,v5,v6,v7,v8)++rest)=((bytesOf v7,0),(txB v8++rest,0)):=by
  unfold q7
  rw [e6]
  exact rdText_le h.h7 (by have:=h.h7;omega) _
 have e8:q8 (bodyR (v1,v2,v3,v4,v5,v6,v7,v8)++rest)=((bytesOf v8,0),(rest,0)):=by
  unfold q8
  rw [e7]
  exact rdText_le h.h8 (by have:=h.h8;omega) _
 unfold recOf
 rw [e1,e2,e3,e4,e5,e6,e7,e8,str_bytesOf,str_bytesOf]
 exact ⟨rfl,rfl⟩
theorem numOk_of {n:Int} {s:Nat} (hs:s=1∨s=2∨s=4∨s=8) (h0:0≤n) (h1:n.toNat < 256 ^ s) (h2:n < 9223372036854775808):numOk n (s:Int)=true:=by
 unfold numOk numTop
 rcases hs with rfl|rfl|rfl|rfl
 ·simp at h1 ⊢;omega
 ·simp at h1 ⊢;omega
 ·simp at h1 ⊢;omega
 ·simp at h1 ⊢;omega
theorem rdNum_inv {xs:List Int} {wg:Int} {s:Nat} (hs:s=1∨s=2∨s=4∨s=8) (hb:AllB xs) (h:(rdNum xs wg (s:Int)).2.2=0):wg=0∧xs=le (rdNum xs wg (s:Int)).1.1 s++(rdNum xs wg (s:Int)).2.1∧numOk (rdNum xs wg (s:Int)).1.1 (s:Int)=true∧AllB (rdNum xs wg (s:Int)).2.1:=by
 have hz:sizedB (s:Int)=true:=sizedB_yes (by omega)
 unfold rdNum at h ⊢
 rw [if_neg (by rw [hz];decide)] at h ⊢
 by_cases hw:wg=0
 ·rw [if_neg (by omega)] at h ⊢
  by_cases hl:(xs.length:Int) < (s:Int)
  ·rw [if_pos hl] at h;cases h
  ·rw [if_neg hl] at h ⊢
   rw [Int.toNat_natCast] at h ⊢
   have hbt:AllB (xs.take s):=fun x hx=>hb x (List.mem_of_mem_take hx)
   have htl:(xs.take s).length=s:=by rw [List.length_take];omega
   by_cases hn:numB (xs.take s) < 0
   ·rw [if_pos hn] at h;cases h
   ·rw [if_neg hn]
    have hh:=hor_lt hbt
    rw [htl] at hh
    have hlh:=le_hor hbt
    rw [htl] at hlh
    have hnb:numB (xs.take s)=(hor (xs.take s):Int):=by
     rcases hs with e|e|e|e
     ·exact numB_small hbt (by omega)
     ·exact numB_small hbt (by omega)
     ·exact numB_small hbt (by omega)
     ·obtain ⟨a,b⟩:=numB_eight hbt (by omega)
      by_cases c:(xs.take s).getD 7 0≤127
      ·exact a c
      ·exact absurd (b (by omega)) hn
    refine ⟨hw,?_,?_,fun x hx=>hb x (List.mem_of_mem_drop hx)⟩
    ·simp only
     rw [hnb,hlh,List.take_append_drop]
    ·simp only
     rw [hnb]
     refine numOk_of hs (by omega) (by rw [Int.toNat_natCast];exact hh) ?_
     rcases hs with e|e|e|e
     ·subst e;simp at hh;omega
     ·subst e;simp at hh;omega
     ·subst e;simp at hh;omega
     ·obtain ⟨a,b⟩:=numB_eight hbt (by omega)
      by_cases c:(xs.take s).getD 7 0≤127
      ·have:=(hor_last (by omega) hbt).2 c
       omega
      ·exact absurd (b (by omega)) hn
 ·rw [if_pos hw] at h
  exact absurd h hw
theorem tx_str {xs:List Int} (hb:AllB xs):txB (strOfNums xs)=le (xs.length:Int) 2++xs:=by
 unfold txB
 rw [strOfNums_size]
 have:bytesOf (strOfNums xs)=xs:=by
  unfold bytesOf
  rw [Go.strOfNums_data,List.map_map]
  conv=>rhs;rw [← List.map_id xs]
  apply List.map_congr_left
  intro x hx
  have:=hb x hx
  simp
  omega
 rw [this]
theorem rdText_inv {xs:List Int} {wg:Int} (hb:AllB xs) (h:(rdText xs wg 65535).2.2=0):wg=0∧xs=txB (strOfNums (rdText xs wg 65535).1.1)++(rdText xs wg 65535).2.1∧(strOfNums (rdText xs wg 65535).1.1).size≤65535∧AllB (rdText xs wg 65535).2.1:=by
 unfold rdText at h ⊢
 rw [if_neg (by omega)] at h ⊢
 by_cases hw:wg=0
 ·rw [if_neg (by omega)] at h ⊢
  by_cases hl:xs.length < 2
  ·rw [if_pos hl] at h;cases h
  ·rw [if_neg hl] at h ⊢
   have hbt:AllB (xs.take 2):=fun x hx=>hb x (List.mem_of_mem_take hx)
   have htl:(xs.take 2).length=2:=by rw [List.length_take];omega
   have hh:=hor_lt hbt
   rw [htl] at hh
   have hlh:=le_hor hbt
   rw [htl] at hlh
   have hnb:numB (xs.take 2)=(hor (xs.take 2):Int):=numB_small hbt (by omega)
   by_cases hc:((xs.length - 2:Nat):Int) < numB (xs.take 2)
   ·rw [if_pos hc] at h;cases h
   ·rw [if_neg hc] at h ⊢
    by_cases hm:(65535:Int) < numB (xs.take 2)
    ·rw [if_pos hm] at h;cases h
    ·rw [if_neg hm]
     have hn:(numB (xs.take 2)).toNat=hor (xs.take 2):=by rw [hnb];omega
     have htd:((xs.drop 2).take (numB (xs.take 2)).toNat).length=hor (xs.take 2):=by rw [List.length_take,List.length_drop,hn];omega
     have hbd:AllB ((xs.drop 2).take (numB (xs.take 2)).toNat):=fun x hx=>hb x (List.mem_of_mem_drop (List.mem_of_mem_take hx))
     refine ⟨hw,?_,?_,fun x hx=>hb x (List.mem_of_mem_drop hx)⟩
     ·simp only
      rw [tx_str hbd,htd,hlh,hn,List.append_assoc,← List.drop_drop,List.take_append_drop,List.take_append_drop]
     ·simp only
      rw [strOfNums_size,htd]
      omega
 ·rw [if_pos hw] at h
  exact absurd h hw
theorem allB_num {xs:List Int} (hb:AllB xs) (wg size:Int):AllB (rdNum xs wg size).2.1:=by
 obtain ⟨m,e⟩:=num_sub xs wg size
 rw [e]
 exact fun x hx=>hb x (List.mem_of_mem_drop hx)
theorem allB_text {xs:List Int} (hb:AllB xs) (wg most:Int):AllB (rdText xs wg most).2.1:=by
 obtain ⟨m,e⟩:=text_sub xs wg most
 rw [e]
 exact fun x hx=>hb x (List.mem_of_mem_drop hx)
theorem read_inv {ys:List Int} (hb:AllB ys) (h:endOf ys=0):ys=bodyR (recOf ys)∧Fits (recOf ys):=by
 unfold endOf rdEnd at h
 by_cases hw:(q8 ys).2.2=0
 ·rw [if_neg (by omega)] at h
  by_cases hx:(q8 ys).2.1=[]
  ·have b1:AllB (q1 ys).2.1:=allB_num hb _ _
   have b2:AllB (q2 ys).2.1:=allB_num b1 _ _
   have b3:AllB (q3 ys).2.1:=allB_num b2 _ _
   have b4:AllB (q4 ys).2.1:=allB_num b3 _ _
   have b5:AllB (q5 ys).2.1:=allB_num b4 _ _
   have b6:AllB (q6 ys).2.1:=allB_num b5 _ _
   have b7:AllB (q7 ys).2.1:=allB_text b6 _ _
   obtain ⟨w7,e8,s8,_⟩:=rdText_inv (xs:=(q7 ys).2.1) (wg:=(q7 ys).2.2) b7 hw
   obtain ⟨w6,e7,s7,_⟩:=rdText_inv (xs:=(q6 ys).2.1) (wg:=(q6 ys).2.2) b6 w7
   obtain ⟨w5,e6,s6,_⟩:=rdNum_inv (xs:=(q5 ys).2.1) (wg:=(q5 ys).2.2) (s:=8) (.inr (.inr (.inr rfl))) b5 w6
   obtain ⟨w4,e5,s5,_⟩:=rdNum_inv (xs:=(q4 ys).2.1) (wg:=(q4 ys).2.2) (s:=4) (.inr (.inr (.inl rfl))) b4 w5
   obtain ⟨w3,e4,s4,_⟩:=rdNum_inv (xs:=(q3 ys).2.1) (wg:=(q3 ys).2.2) (s:=4) (.inr (.inr (.inl rfl))) b3 w4
   obtain ⟨w2,e3,s3,_⟩:=rdNum_inv (xs:=(q2 ys).2.1) (wg:=(q2 ys).2.2) (s:=1) (.inl rfl) b2 w3
   obtain ⟨w1,e2,s2,_⟩:=rdNum_inv (xs:=(q1 ys).2.1) (wg:=(q1 ys).2.2) (s:=8) (.inr (.inr (.inr rfl))) b1 w2
   obtain ⟨_,e1,s1,_⟩:=rdNum_inv (xs:=ys) (wg:=0) (s:=8) (.inr (.inr (.inr rfl))) hb w1
   refine ⟨?_,⟨s1,s2,s3,s4,s5,s6,s7,s8⟩⟩
   have f8:(q7 ys).2.1=txB (strOfNums (q8 ys).1.1)++(q8 ys).2.1:=e8
   have f7:(q6 ys).2.1=txB (strOfNums (q7 ys).1.1)++(q7 ys).2.1:=e7
   have f6:(q5 ys).2.1=le (q6 ys).1.1 8++(q6 ys).2.1:=e6
   have f5:(q4 ys).2.1=le (q5 ys).1.1 4++(q5 ys).2.1:=e5
   have f4:(q3 ys).2.1=le (q4 ys).1.1 4++(q4 ys).2.1:=e4
   have f3:(q2 ys).2.1=le (q3 ys).1.1 1++(q3 ys).2.1:=e3
   have f2:(q1 ys).2.1=le (q2 ys).1.1 8++(q2 ys).2.1:=e2
   have f1:ys=le (q1 ys).1.1 8++(q1 ys).2.1:=e1
   rw [hx,List.append_nil] at f8
   have key:ys=le (q1 ys).1.1 8++(le (q2 ys).1.1 8++(le (q3 ys).1.1 1++(le (q4 ys).1.1 4++(le (q5 ys).1.1 4++(le (q6 ys).1.1 8++(txB (strOfNums (q7 ys).1.1)++txB (strOfNums (q8 ys).1.1))))))):=by
    rw [← f8,← f7,← f6,← f5,← f4,← f3,← f2,← f1]
   exact key
  ·rw [if_neg hx] at h;cases h
 ·rw [if_pos hw] at h
  exact absurd h hw
theorem body_allB (v:RecV):AllB (bodyR v):=allB_append (le_allB _ _) (allB_append (le_allB _ _) (allB_append (le_allB _ _) (allB_append (le_allB _ _) (allB_append (le_allB _ _) (allB_append (le_allB _ _) (allB_append (txB_allB _) (txB_allB _)))))))
theorem body_length (v:RecV):(bodyR v).length=37+v.2.2.2.2.2.2.1.size+v.2.2.2.2.2.2.2.size:=by
 unfold bodyR
 simp only [List.length_append,le_length,txB_length]
 omega
theorem read_cut {v:RecV} (h:Fits v) {m:Nat} (hm:m < (bodyR v).length):endOf ((bodyR v).take m)≠0:=by
 intro he
 obtain ⟨e,hf⟩:=read_inv (fun x hx=>body_allB v x (List.mem_of_mem_take hx)) he
 have h1:=(read_rt hf ((bodyR v).drop m)).2
 rw [← e,List.take_append_drop] at h1
 have h2:=(read_rt h []).2
 rw [List.append_nil,h1] at h2
 have h3:(bodyR v).drop m=[]:=(congrArg Prod.fst h2)
 have h4:=congrArg List.length h3
 rw [List.length_drop,List.length_nil] at h4
 omega
theorem image_size {s:ByteArray} (h:imageB s=true):s.size=256:=by
 unfold imageB at h
 simp only [Bool.and_eq_true,decide_eq_true_eq] at h
 have h1:=enc_dec h.1
 obtain ⟨c,e⟩:=pageV_eq h1
 have hf:=fit_of c (by have:=dec_few (xs:=bytesOf s);omega)
 have hpl:=padB_length hf.fbody
 have hl:=congrArg List.length e
 unfold sealB at hl
 rw [bytesOf_length,List.length_append,hpl,le_length] at hl
 omega
theorem fits_of {v:RecV} (h:rightV v=true):Fits v∧(bodyR v).length≤309:=by
 obtain ⟨v1,v2,v3,v4,v5,v6,v7,v8⟩:=v
 rw [body_length]
 unfold rightV rightB at h
 dsimp only at h ⊢
 simp only [Bool.and_eq_true,decide_eq_true_eq] at h
 obtain ⟨ha,hb⟩:=h
 have keys:∀ {s:ByteArray},keyB s=true→s.size≤16:=fun {s} h=>(ckey_small (of_decide_eq_true h)).2
 have vals:∀ {s:ByteArray},valB s=true→s.size≤32:=fun {s} h=>by
  unfold valB badV at h
  rw [Bool.not_eq_true',decide_eq_false_iff_not] at h
  omega
 have nos:∀ {s:ByteArray},noText s=true→s.size=0:=fun {s} h=>by
  unfold noText at h
  exact (tl_nil s).1 (List.isEmpty_iff.1 h)
 have pgs:∀ {n:Int},pagedB n=true→1≤n∧n≤4096:=fun {n} h=>of_decide_eq_true h
 have hsz:0≤v3∧v3≤7∧0≤v4∧v4≤4096∧0≤v5∧v5≤4096∧0≤v6∧v6≤1099511627776∧v7.size≤16∧v8.size≤256:=by
  by_cases k7:v3=7
  ·rw [if_pos k7] at hb
   simp only [Bool.and_eq_true,Bool.or_eq_true,decide_eq_true_eq] at hb
   obtain ⟨⟨⟨b1,b2⟩,b3⟩,b4⟩:=hb
   have:=keys b4
   rcases b2 with b2|b2
   ·have:=vals b2.2;omega
   ·have:=nos b2.2;omega
  ·rw [if_neg k7] at hb
   simp only [Bool.and_eq_true,decide_eq_true_eq] at hb
   obtain ⟨b0,hb⟩:=hb
   by_cases k1:v3=1
   ·rw [if_pos k1] at hb
    simp only [Bool.and_eq_true,decide_eq_true_eq] at hb
    have:=nos hb.1.2
    have:=nos hb.2
    omega
   ·rw [if_neg k1] at hb
    by_cases k2:v3=2
    ·rw [if_pos k2] at hb
     simp only [Bool.and_eq_true,decide_eq_true_eq] at hb
     have:=pgs hb.1.1.1
     have:=keys hb.1.2
     have:=vals hb.2
     omega
    ·rw [if_neg k2] at hb
     by_cases k3:v3=3
     ·rw [if_pos k3] at hb
      simp only [Bool.and_eq_true,decide_eq_true_eq] at hb
      have:=pgs hb.1.1.1
      have:=keys hb.1.2
      have:=nos hb.2
      omega
     ·rw [if_neg k3] at hb
      by_cases k4:v3=4
      ·rw [if_pos k4] at hb
       simp only [Bool.and_eq_true,decide_eq_true_eq] at hb
       have:=pgs hb.1.1.1
       have:=nos hb.1.2
       have:=image_size hb.2
       omega
      ·rw [if_neg k4] at hb
       by_cases k5:v3=5∨v3=6
       ·rw [if_pos k5] at hb
        simp only [Bool.and_eq_true] at hb
        have:=pgs hb.1.1.1
        have:=pgs hb.1.1.2
        have:=keys hb.1.2
        have:=nos hb.2
        omega
       ·rw [if_neg k5] at hb
        cases hb
 obtain ⟨g1,g2,g3,g4,g5,g6,g7,g8,g9,g10⟩:=hsz
 obtain ⟨a1,a2,a3,a4⟩:=ha
 exact ⟨⟨numOk8 (by omega) a2,numOk8 a3 a4,numOk1 g1 (by show v3≤20;omega),numOk4 g3 g4,numOk4 g5 g6,numOk8 g7 g8,(by show v7.size≤65535;omega),(by show v8.size≤65535;omega)⟩,by omega⟩
theorem open_inv {zs:List Int} (hb:AllB zs) (h:(opOf zs).2=0):zs=sealB (zs.take (zs.length - 4))∧4≤zs.length:=by
 unfold opOf at h
 split at h
 ·cases h
 ·rename_i h4
  split at h
  ·cases h
  ·rename_i h5
   have hd:(zs.drop (zs.length - 4)).length=4:=by rw [List.length_drop];omega
   have h6:=(four_eq hd (fun x hx=>hb x (List.mem_of_mem_drop hx)) (sum_lt (fun x hx=>hb x (List.mem_of_mem_take hx)))).1 (Classical.not_not.1 h5)
   refine ⟨?_,by omega⟩
   unfold sealB
   rw [← h6,List.take_append_drop]
theorem frame_allB (v:RecV):AllB (frameB v):=allB_append (allB_append (le_allB _ _) (body_allB v)) (le_allB _ _)
theorem frame_length (v:RecV):(frameB v).length=(bodyR v).length+6:=by
 unfold frameB sealB
 simp only [List.length_append,le_length]
 omega
theorem frame_take2 {v:RecV} (h:(bodyR v).length≤65535) (more:List Int):numB ((frameB v++more).take 2)=((bodyR v).length:Int):=by
 unfold frameB sealB
 simp only [List.append_assoc]
 exact take2_le h _
theorem frame_mid (v:RecV) (more:List Int):((frameB v++more).drop 2).take (bodyR v).length=bodyR v:=by
 unfold frameB sealB
 simp only [List.append_assoc]
 rw [List.drop_append_of_le_length (by rw [le_length];omega),List.drop_of_length_le (by rw [le_length];omega),List.nil_append,List.take_append_of_le_length (Nat.le_refl _),List.take_length]
theorem dec_frame {v:RecV} (h:rightV v=true) (more:List Int):decF9 (frameB v++more)=(v,((bodyR v).length:Int)+6,0):=by
 obtain ⟨hf,hl⟩:=fits_of h
 have ht:=frame_take2 (v:=v) (by omega) more
 have hfl:=frame_length v
 have hlen:(frameB v++more).length=(bodyR v).length+6+more.length:=by rw [List.length_append,hfl]
 unfold decF9
 rw [if_neg (by omega),ht,if_neg (by omega),Int.toNat_natCast,frame_mid]
 have hop:opOf ((frameB v++more).take ((bodyR v).length+6))=(le ((bodyR v).length:Int) 2++bodyR v,0):=by
  rw [List.take_append_of_le_length (by omega),List.take_of_length_le (by omega)]
  exact opOf_sealed (allB_append (le_allB _ _) (body_allB v))
 rw [hop,if_neg (by simp)]
 have h1:=read_rt hf []
 rw [List.append_nil] at h1
 have he:endOf (bodyR v)=0:=by
  unfold endOf rdEnd
  rw [h1.2]
  simp
 have hr:readF (bodyR v)=(v,0):=by
  unfold readF
  rw [if_neg (by omega),h1.1,if_pos h]
 rw [hr,if_neg (by simp)]
theorem frame_dec {xs:List Int} (hb:AllB xs) (h:(decF9 xs).2.2=0):rightV (decF9 xs).1=true∧(decF9 xs).2.1=((bodyR (decF9 xs).1).length:Int)+6∧(bodyR (decF9 xs).1).length+6≤xs.length∧xs.take ((bodyR (decF9 xs).1).length+6)=frameB (decF9 xs).1:=by
 unfold decF9 at h ⊢
 split at h
 ·cases h
 ·rename_i h1
  rw [if_neg h1]
  split at h
  ·cases h
  ·rename_i h2
   rw [if_neg h2]
   split at h
   ·cases h
   ·rename_i h3
    rw [if_neg h3]
    split at h
    ·cases h
    ·rename_i h4
     rw [if_neg h4]
     have hbt:AllB (xs.take 2):=fun x hx=>hb x (List.mem_of_mem_take hx)
     have htl:(xs.take 2).length=2:=by rw [List.length_take];omega
     have hnb:numB (xs.take 2)=(hor (xs.take 2):Int):=numB_small hbt (by omega)
     have hlh:=le_hor hbt
     rw [htl] at hlh
     rw [hnb,Int.toNat_natCast] at h3 h4 ⊢
     rw [hnb] at h2
     generalize hor (xs.take 2)=n at h2 h3 h4 hlh ⊢
     have hmid:((xs.drop 2).take n).length=n:=by rw [List.length_take,List.length_drop];omega
     have hbm:AllB ((xs.drop 2).take n):=fun x hx=>hb x (List.mem_of_mem_drop (List.mem_of_mem_take hx))
     have hrd:(readF ((xs.drop 2).take n)).2=0:=Classical.not_not.1 h4
     unfold readF at hrd ⊢
     split at hrd
     ·cases hrd
     ·rename_i h5
      rw [if_neg h5]
      have he:endOf ((xs.drop 2).take n)=0:=Classical.not_not.1 h5
      split at hrd
      ·rename_i h6
       obtain ⟨e,hf⟩:=read_inv hbm he
       simp only
       have hln:(bodyR (recOf ((xs.drop 2).take n))).length=n:=by rw [← e];exact hmid
       refine ⟨h6,by rw [hln],by omega,?_⟩
       rw [hln]
       have hop:(opOf (xs.take (n+6))).2=0:=Classical.not_not.1 h3
       have hbo:AllB (xs.take (n+6)):=fun x hx=>hb x (List.mem_of_mem_take hx)
       obtain ⟨o1,_⟩:=open_inv hbo hop
       have hol:(xs.take (n+6)).length=n+6:=by rw [List.length_take];omega
       rw [hol,List.take_take,show min (n+6 - 4) (n+6)=2+n by omega,show xs.take (2+n)=xs.take 2++(xs.drop 2).take n from List.take_add,← hlh] at o1
       rw [o1]
       unfold frameB
       rw [hln,← e]
      ·cases hrd
theorem dec9_not {xs:List Int} (h:(decF9 xs).2.2≠0):(decF9 xs).1=zeroR∧(decF9 xs).2.1=0:=by
 unfold decF9 at h ⊢
 split
 ·exact ⟨rfl,rfl⟩
 ·rename_i h1
  rw [if_neg h1] at h
  split
  ·exact ⟨rfl,rfl⟩
  ·rename_i h2
   rw [if_neg h2] at h
   split
   ·exact ⟨rfl,rfl⟩
   ·rename_i h3
    rw [if_neg h3] at h
    split
    ·exact ⟨rfl,rfl⟩
    ·rename_i h4
     rw [if_neg h4] at h
     exact absurd rfl h
theorem dec_cut {v:RecV} (h:rightV v=true) {m:Nat} (hm:m < (frameB v).length):decF9 ((frameB v).take m)=(zeroR,0,10):=by
 obtain ⟨hf,hl⟩:=fits_of h
 have hfl:=frame_length v
 have hml:((frameB v).take m).length=m:=by rw [List.length_take];omega
 unfold decF9
 by_cases h2:m < 2
 ·rw [if_pos (by omega)]
 ·have ht:=frame_take2 (v:=v) (by omega) []
  rw [List.append_nil] at ht
  rw [if_neg (by omega),List.take_take,show min 2 m=2 by omega,ht,if_pos (by omega)]
end Go.Proofs.Ytgjibcfkjaedfaa.Rec
