-- A part of the text RecV, thinned by a program of this session.
import Derived.Test.YteipehiiaggenaaTRecordDecodesRecRgt
import Derived.Test.YteipehiiaggenaaTRecordDecodesCrcRef
import Derived.Lib.SlBytesConst
import Derived.StillTailTactics
namespace Go.Proofs.Yteipehiiaggenaa.Rec
open Go.RowKit Go.Proofs.YteipehiiaggenaaW.PrintWords Go.Proofs.YteipehiiaggenaaW.PrintLast Go.Proofs.YteipehiiaggenaaW.PrintMore Go.Proofs.Yteipehiiaggenaa.Wire Go.Proofs.Yteipehiiaggenaa.Crc Go.Proofs.Yteipehiiaggenaa.Pr Go.Proofs.Yteipehiiaggenaa.Page
open Go.Proofs.Yteipehiiaggenaa.Back (AllB numB numB_small numB_eight hor hor_lt hor_last pow_le7)
open Go.Proofs.Yteipehiiaggenaa.Pure
set_option linter.unusedVariables false
set_option linter.unusedSimpArgs false
abbrev RecV:=Int×Int×Int×Int×Int×Int×ByteArray×ByteArray
def zeroR:RecV:=(0,0,0,0,0,0,⟨#[]⟩,⟨#[]⟩)
def rightV (v:RecV):Bool:=rightB v.1 v.2.1 v.2.2.1 v.2.2.2.1 v.2.2.2.2.1 v.2.2.2.2.2.1 v.2.2.2.2.2.2.1 v.2.2.2.2.2.2.2
def bodyR (v:RecV):List Int:=le v.1 8++(le v.2.1 8++(le v.2.2.1 1++(le v.2.2.2.1 4++(le v.2.2.2.2.1 4++(le v.2.2.2.2.2.1 8++(txB v.2.2.2.2.2.2.1++txB v.2.2.2.2.2.2.2))))))
def frameB (v:RecV):List Int:=sealB (le ((bodyR v).length:Int) 2++bodyR v)
def frameF (v:RecV):List Int×Int:=if rightV v=true then (frameB v,0) else ([],90)
structure Fits (v:RecV):Prop where
 h1:numOk v.1 ((8:Nat):Int)=true
 h2:numOk v.2.1 ((8:Nat):Int)=true
 h3:numOk v.2.2.1 ((1:Nat):Int)=true
 h4:numOk v.2.2.2.1 ((4:Nat):Int)=true
 h5:numOk v.2.2.2.2.1 ((4:Nat):Int)=true
 h6:numOk v.2.2.2.2.2.1 ((8:Nat):Int)=true
 h7:v.2.2.2.2.2.2.1.size≤65535
 h8:v.2.2.2.2.2.2.2.size≤65535
def q1 (ys:List Int):=rdNum ys 0 ((8:Nat):Int)
def q2 (ys:List Int):=rdNum (q1 ys).2.1 (q1 ys).2.2 ((8:Nat):Int)
def q3 (ys:List Int):=rdNum (q2 ys).2.1 (q2 ys).2.2 ((1:Nat):Int)
def q4 (ys:List Int):=rdNum (q3 ys).2.1 (q3 ys).2.2 ((4:Nat):Int)
def q5 (ys:List Int):=rdNum (q4 ys).2.1 (q4 ys).2.2 ((4:Nat):Int)
def q6 (ys:List Int):=rdNum (q5 ys).2.1 (q5 ys).2.2 ((8:Nat):Int)
def q7 (ys:List Int):=rdText (q6 ys).2.1 (q6 ys).2.2 65535
def q8 (ys:List Int):=rdText (q7 ys).2.1 (q7 ys).2.2 65535
def recOf (ys:List Int):RecV:=((q1 ys).1.1,(q2 ys).1.1,(q3 ys).1.1,(q4 ys).1.1,(q5 ys).1.1,(q6 ys).1.1,strOfNums (q7 ys).1.1,strOfNums (q8 ys).1.1)
def endOf (ys:List Int):Int:=rdEnd (q8 ys).2.1 (q8 ys).2.2
def readF (ys:List Int):RecV×Int:=if endOf ys≠0 then (zeroR,90) else (recOf ys,if rightV (recOf ys)=true then 0 else 90)
def decF9 (xs:List Int):RecV×Int×Int :=
 if xs.length < 2 then (zeroR,0,10)
 else if (xs.length:Int) < numB (xs.take 2)+6 then (zeroR,0,10)
 else if (opOf (xs.take ((numB (xs.take 2)).toNat+6))).2≠0 then (zeroR,0,20)
 else if (readF ((xs.drop 2).take (numB (xs.take 2)).toNat)).2≠0 then (zeroR,0,90)
 else ((readF ((xs.drop 2).take (numB (xs.take 2)).toNat)).1,numB (xs.take 2)+6,0)
theorem read_rt {v:RecV} (h:Fits v) (rest:List Int):recOf (bodyR v++rest)=v∧(q8 (bodyR v++rest)).2=(rest,0):=by
 obtain ⟨v1,v2,v3,v4,v5,v6,v7,v8⟩:=v
 have e1:q1 (bodyR (v1,v2,v3,v4,v5,v6,v7,v8)++rest)=((v1,0),(le v2 8++(le v3 1++(le v4 4++(le v5 4++(le v6 8++(txB v7++(txB v8++rest)))))),0)):=by
  unfold q1 bodyR
  simp only [List.append_assoc]
  exact rdNum_le h.h1 _
 have e2:q2 (bodyR (v1,v2,v3,v4,v5,v6,v7,v8)++rest)=((v2,0),(le v3 1++(le v4 4++(le v5 4++(le v6 8++(txB v7++(txB v8++rest))))),0)):=by
  unfold q2
  rw [e1]
  exact rdNum_le h.h2 _
 have e3:q3 (bodyR (v1,v2,v3,v4,v5,v6,v7,v8)++rest)=((v3,0),(le v4 4++(le v5 4++(le v6 8++(txB v7++(txB v8++rest)))),0)):=by
  unfold q3
  rw [e2]
  exact rdNum_le h.h3 _
 have e4:q4 (bodyR (v1,v2,v3,v4,v5,v6,v7,v8)++rest)=((v4,0),(le v5 4++(le v6 8++(txB v7++(txB v8++rest))),0)):=by
  unfold q4
  rw [e3]
  exact rdNum_le h.h4 _
 have e5:q5 (bodyR (v1,v2,v3,v4,v5,v6,v7,v8)++rest)=((v5,0),(le v6 8++(txB v7++(txB v8++rest)),0)):=by
  unfold q5
  rw [e4]
  exact rdNum_le h.h5 _
 have e6:q6 (bodyR (v1,v2,v3,v4,v5,v6,v7,v8)++rest)=((v6,0),(txB v7++(txB v8++rest),0)):=by
  unfold q6
  rw [e5]
  exact rdNum_le h.h6 _
 have e7:q7 (bodyR (v1,v2,v3,v4,v5,v6,v7,v8)++rest)=((bytesOf v7,0),(txB v8++rest,0)):=by
  unfold q7
  rw [e6]
  exact rdText_le h.h7 (by have:=h.h7;omega) _
 have e8:q8 (bodyR (v1,v2,v3,v4,v5,v6,v7,v8)++rest)=((bytesOf v8,0),(rest,0)):=by
  unfold q8
  rw [e7]
  exact rdText_le h.h8 (by have:=h.h8;omega) _
 unfold recOf
 rw [e1,e2,e3,e4,e5,e6,e7,e8,str_bytesOf,str_bytesOf]
 exact ⟨rfl,rfl⟩
theorem tx_str {xs:List Int} (hb:AllB xs):txB (strOfNums xs)=le (xs.length:Int) 2++xs:=by
 unfold txB
 rw [strOfNums_size]
 have:bytesOf (strOfNums xs)=xs:=by
  unfold bytesOf
  rw [Go.strOfNums_data,List.map_map]
  conv=>rhs;rw [← List.map_id xs]
  apply List.map_congr_left
  intro x hx
  have:=hb x hx
  simp
  omega
 rw [this]
theorem body_allB (v:RecV):AllB (bodyR v):=allB_append (le_allB _ _) (allB_append (le_allB _ _) (allB_append (le_allB _ _) (allB_append (le_allB _ _) (allB_append (le_allB _ _) (allB_append (le_allB _ _) (allB_append (txB_allB _) (txB_allB _)))))))
theorem body_length (v:RecV):(bodyR v).length=37+v.2.2.2.2.2.2.1.size+v.2.2.2.2.2.2.2.size:=by
 unfold bodyR
 simp only [List.length_append,le_length,txB_length]
 omega
theorem image_size {s:ByteArray} (h:imageB s=true):s.size=256:=by
 unfold imageB at h
 simp only [Bool.and_eq_true,decide_eq_true_eq] at h
 have h1:=enc_dec h.1
 obtain ⟨c,e⟩:=pageV_eq h1
 have hf:=fit_of c (by have:=dec_few (xs:=bytesOf s);omega)
 have hpl:=padB_length hf.fbody
 have hl:=congrArg List.length e
 unfold sealB at hl
 rw [bytesOf_length,List.length_append,hpl,le_length] at hl
 omega
theorem fits_of {v:RecV} (h:rightV v=true):Fits v∧(bodyR v).length≤309:=by
 obtain ⟨v1,v2,v3,v4,v5,v6,v7,v8⟩:=v
 rw [body_length]
 unfold rightV rightB at h
 dsimp only at h ⊢
 simp only [Bool.and_eq_true,decide_eq_true_eq] at h
 obtain ⟨ha,hb⟩:=h
 have keys:∀ {s:ByteArray},keyB s=true→s.size≤16:=fun {s} h=>(ckey_small (of_decide_eq_true h)).2
 have vals:∀ {s:ByteArray},valB s=true→s.size≤32:=fun {s} h=>by
  unfold valB badV at h
  rw [Bool.not_eq_true',decide_eq_false_iff_not] at h
  omega
 have nos:∀ {s:ByteArray},noText s=true→s.size=0:=fun {s} h=>by
  unfold noText at h
  exact (tl_nil s).1 (List.isEmpty_iff.1 h)
 have pgs:∀ {n:Int},pagedB n=true→1≤n∧n≤4096:=fun {n} h=>of_decide_eq_true h
 have hsz:0≤v3∧v3≤7∧0≤v4∧v4≤4096∧0≤v5∧v5≤4096∧0≤v6∧v6≤1099511627776∧v7.size≤16∧v8.size≤256:=by
  by_cases k7:v3=7
  ·rw [if_pos k7] at hb
   simp only [Bool.and_eq_true,Bool.or_eq_true,decide_eq_true_eq] at hb
   obtain ⟨⟨⟨b1,b2⟩,b3⟩,b4⟩:=hb
   have:=keys b4
   rcases b2 with b2|b2
   ·have:=vals b2.2;omega
   ·have:=nos b2.2;omega
  ·rw [if_neg k7] at hb
   simp only [Bool.and_eq_true,decide_eq_true_eq] at hb
   obtain ⟨b0,hb⟩:=hb
   by_cases k1:v3=1
   ·rw [if_pos k1] at hb
    simp only [Bool.and_eq_true,decide_eq_true_eq] at hb
    have:=nos hb.1.2
    have:=nos hb.2
    omega
   ·rw [if_neg k1] at hb
    by_cases k2:v3=2
    ·rw [if_pos k2] at hb
     simp only [Bool.and_eq_true,decide_eq_true_eq] at hb
     have:=pgs hb.1.1.1
     have:=keys hb.1.2
     have:=vals hb.2
     omega
    ·rw [if_neg k2] at hb
     by_cases k3:v3=3
     ·rw [if_pos k3] at hb
      simp only [Bool.and_eq_true,decide_eq_true_eq] at hb
      have:=pgs hb.1.1.1
      have:=keys hb.1.2
      have:=nos hb.2
      omega
     ·rw [if_neg k3] at hb
      by_cases k4:v3=4
      ·rw [if_pos k4] at hb
       simp only [Bool.and_eq_true,decide_eq_true_eq] at hb
       have:=pgs hb.1.1.1
       have:=nos hb.1.2
       have:=image_size hb.2
       omega
      ·rw [if_neg k4] at hb
       by_cases k5:v3=5∨v3=6
       ·rw [if_pos k5] at hb
        simp only [Bool.and_eq_true] at hb
        have:=pgs hb.1.1.1
        have:=pgs hb.1.1.2
        have:=keys hb.1.2
        have:=nos hb.2
        omega
       ·rw [if_neg k5] at hb
        cases hb
 obtain ⟨g1,g2,g3,g4,g5,g6,g7,g8,g9,g10⟩:=hsz
 obtain ⟨a1,a2,a3,a4⟩:=ha
 exact ⟨⟨numOk8 (by omega) a2,numOk8 a3 a4,numOk1 g1 (by show v3≤20;omega),numOk4 g3 g4,numOk4 g5 g6,numOk8 g7 g8,(by show v7.size≤65535;omega),(by show v8.size≤65535;omega)⟩,by omega⟩
theorem frame_allB (v:RecV):AllB (frameB v):=allB_append (allB_append (le_allB _ _) (body_allB v)) (le_allB _ _)
theorem frame_length (v:RecV):(frameB v).length=(bodyR v).length+6:=by
 unfold frameB sealB
 simp only [List.length_append,le_length]
 omega
theorem frame_take2 {v:RecV} (h:(bodyR v).length≤65535) (more:List Int):numB ((frameB v++more).take 2)=((bodyR v).length:Int):=by
 unfold frameB sealB
 simp only [List.append_assoc]
 exact take2_le h _
theorem frame_mid (v:RecV) (more:List Int):((frameB v++more).drop 2).take (bodyR v).length=bodyR v:=by
 unfold frameB sealB
 simp only [List.append_assoc]
 rw [List.drop_append_of_le_length (by rw [le_length];omega),List.drop_of_length_le (by rw [le_length];omega),List.nil_append,List.take_append_of_le_length (Nat.le_refl _),List.take_length]
theorem dec_frame {v:RecV} (h:rightV v=true) (more:List Int):decF9 (frameB v++more)=(v,((bodyR v).length:Int)+6,0):=by
 obtain ⟨hf,hl⟩:=fits_of h
 have ht:=frame_take2 (v:=v) (by omega) more
 have hfl:=frame_length v
 have hlen:(frameB v++more).length=(bodyR v).length+6+more.length:=by rw [List.length_append,hfl]
 unfold decF9
 rw [if_neg (by omega),ht,if_neg (by omega),Int.toNat_natCast,frame_mid]
 have hop:opOf ((frameB v++more).take ((bodyR v).length+6))=(le ((bodyR v).length:Int) 2++bodyR v,0):=by
  rw [List.take_append_of_le_length (by omega),List.take_of_length_le (by omega)]
  exact opOf_sealed (allB_append (le_allB _ _) (body_allB v))
 rw [hop,if_neg (by simp)]
 have h1:=read_rt hf []
 rw [List.append_nil] at h1
 have he:endOf (bodyR v)=0:=by
  unfold endOf rdEnd
  rw [h1.2]
  simp
 have hr:readF (bodyR v)=(v,0):=by
  unfold readF
  rw [if_neg (by omega),h1.1,if_pos h]
 rw [hr,if_neg (by simp)]
end Go.Proofs.Yteipehiiaggenaa.Rec
