-- A part of the text THRecV, thinned by a program of this session.
import Derived.Test.YtgjibcfkjaedfaaTSTHRecIR
import Derived.Test.YtgjibcfkjaedfaaTSTHCrcR
import Derived.Lib.SlBytesConst
import Derived.StillTailTactics
namespace Go.Proofs.Ytgjibcfkjaedfaa.Rec
open Go.RowKit Go.Proofs.YtgjibcfkjaedfaaW.PrintWords Go.Proofs.YtgjibcfkjaedfaaW.PrintLast Go.Proofs.YtgjibcfkjaedfaaW.PrintMore Go.Proofs.Ytgjibcfkjaedfaa.Wire Go.Proofs.Ytgjibcfkjaedfaa.Crc Go.Proofs.Ytgjibcfkjaedfaa.Pr Go.Proofs.Ytgjibcfkjaedfaa.Page
open Go.Proofs.Ytgjibcfkjaedfaa.Back (AllB numB numB_small numB_eight hor hor_lt hor_last pow_le7)
open Go.Proofs.Ytgjibcfkjaedfaa.Pure
set_option linter.unusedVariables false
set_option linter.unusedSimpArgs false
abbrev RecV:=Int×Int×Int×Int×Int×Int×ByteArray×ByteArray
def rightV (v:RecV):Bool:=rightB v.1 v.2.1 v.2.2.1 v.2.2.2.1 v.2.2.2.2.1 v.2.2.2.2.2.1 v.2.2.2.2.2.2.1 v.2.2.2.2.2.2.2
def bodyR (v:RecV):List Int:=le v.1 8++(le v.2.1 8++(le v.2.2.1 1++(le v.2.2.2.1 4++(le v.2.2.2.2.1 4++(le v.2.2.2.2.2.1 8++(txB v.2.2.2.2.2.2.1++txB v.2.2.2.2.2.2.2))))))
def frameB (v:RecV):List Int:=sealB (le ((bodyR v).length:Int) 2++bodyR v)
def frameF (v:RecV):List Int×Int:=if rightV v=true then (frameB v,0) else ([],90)
structure Fits (v:RecV):Prop where
 h1:numOk v.1 ((8:Nat):Int)=true
 h2:numOk v.2.1 ((8:Nat):Int)=true
 h3:numOk v.2.2.1 ((1:Nat):Int)=true
 h4:numOk v.2.2.2.1 ((4:Nat):Int)=true
 h5:numOk v.2.2.2.2.1 ((4:Nat):Int)=true
 h6:numOk v.2.2.2.2.2.1 ((8:Nat):Int)=true
 h7:v.2.2.2.2.2.2.1.size≤65535
 h8:v.2.2.2.2.2.2.2.size≤65535
def q1 (ys:List Int):=rdNum ys 0 ((8:Nat):Int)
def q2 (ys:List Int):=rdNum (q1 ys).2.1 (q1 ys).2.2 ((8:Nat):Int)
def q3 (ys:List Int):=rdNum (q2 ys).2.1 (q2 ys).2.2 ((1:Nat):Int)
def q4 (ys:List Int):=rdNum (q3 ys).2.1 (q3 ys).2.2 ((4:Nat):Int)
def q5 (ys:List Int):=rdNum (q4 ys).2.1 (q4 ys).2.2 ((4:Nat):Int)
def q6 (ys:List Int):=rdNum (q5 ys).2.1 (q5 ys).2.2 ((8:Nat):Int)
def q7 (ys:List Int):=rdText (q6 ys).2.1 (q6 ys).2.2 65535
def q8 (ys:List Int):=rdText (q7 ys).2.1 (q7 ys).2.2 65535
theorem tx_str {xs:List Int} (hb:AllB xs):txB (strOfNums xs)=le (xs.length:Int) 2++xs:=by
 unfold txB
 rw [strOfNums_size]
 have:bytesOf (strOfNums xs)=xs:=by
  unfold bytesOf
  rw [Go.strOfNums_data,List.map_map]
  conv=>rhs;rw [← List.map_id xs]
  apply List.map_congr_left
  intro x hx
  have:=hb x hx
  simp
  omega
 rw [this]
theorem body_allB (v:RecV):AllB (bodyR v):=allB_append (le_allB _ _) (allB_append (le_allB _ _) (allB_append (le_allB _ _) (allB_append (le_allB _ _) (allB_append (le_allB _ _) (allB_append (le_allB _ _) (allB_append (txB_allB _) (txB_allB _)))))))
theorem body_length (v:RecV):(bodyR v).length=37+v.2.2.2.2.2.2.1.size+v.2.2.2.2.2.2.2.size:=by
 unfold bodyR
 simp only [List.length_append,le_length,txB_length]
 omega
theorem image_size {s:ByteArray} (h:imageB s=true):s.size=256:=by
 unfold imageB at h
 simp only [Bool.and_eq_true,decide_eq_true_eq] at h
 have h1:=enc_dec h.1
 obtain ⟨c,e⟩:=pageV_eq h1
 have hf:=fit_of c (by have:=dec_few (xs:=bytesOf s);omega)
 have hpl:=padB_length hf.fbody
 have hl:=congrArg List.length e
 unfold sealB at hl
 rw [bytesOf_length,List.length_append,hpl,le_length] at hl
 omega
theorem fits_of {v:RecV} (h:rightV v=true):Fits v∧(bodyR v).length≤309:=by
 obtain ⟨v1,v2,v3,v4,v5,v6,v7,v8⟩:=v
 rw [body_length]
 unfold rightV rightB at h
 dsimp only at h ⊢
 simp only [Bool.and_eq_true,decide_eq_true_eq] at h
 obtain ⟨ha,hb⟩:=h
 have keys:∀ {s:ByteArray},keyB s=true→s.size≤16:=fun {s} h=>(ckey_small (of_decide_eq_true h)).2
 have vals:∀ {s:ByteArray},valB s=true→s.size≤32:=fun {s} h=>by
  unfold valB badV at h
  rw [Bool.not_eq_true',decide_eq_false_iff_not] at h
  omega
 have nos:∀ {s:ByteArray},noText s=true→s.size=0:=fun {s} h=>by
  unfold noText at h
  exact (tl_nil s).1 (List.isEmpty_iff.1 h)
 have pgs:∀ {n:Int},pagedB n=true→1≤n∧n≤4096:=fun {n} h=>of_decide_eq_true h
 have hsz:0≤v3∧v3≤7∧0≤v4∧v4≤4096∧0≤v5∧v5≤4096∧0≤v6∧v6≤1099511627776∧v7.size≤16∧v8.size≤256:=by
  by_cases k7:v3=7
  ·rw [if_pos k7] at hb
   simp only [Bool.and_eq_true,Bool.or_eq_true,decide_eq_true_eq] at hb
   obtain ⟨⟨⟨b1,b2⟩,b3⟩,b4⟩:=hb
   have:=keys b4
   rcases b2 with b2|b2
   ·have:=vals b2.2;omega
   ·have:=nos b2.2;omega
  ·rw [if_neg k7] at hb
   simp only [Bool.and_eq_true,decide_eq_true_eq] at hb
   obtain ⟨b0,hb⟩:=hb
   by_cases k1:v3=1
   ·rw [if_pos k1] at hb
    simp only [Bool.and_eq_true,decide_eq_true_eq] at hb
    have:=nos hb.1.2
    have:=nos hb.2
    omega
   ·rw [if_neg k1] at hb
    by_cases k2:v3=2
    ·rw [if_pos k2] at hb
     simp only [Bool.and_eq_true,decide_eq_true_eq] at hb
     have:=pgs hb.1.1.1
     have:=keys hb.1.2
     have:=vals hb.2
     omega
    ·rw [if_neg k2] at hb
     by_cases k3:v3=3
     ·rw [if_pos k3] at hb
      simp only [Bool.and_eq_true,decide_eq_true_eq] at hb
      have:=pgs hb.1.1.1
      have:=keys hb.1.2
      have:=nos hb.2
      omega
     ·rw [if_neg k3] at hb
      by_cases k4:v3=4
      ·rw [if_pos k4] at hb
       simp only [Bool.and_eq_true,decide_eq_true_eq] at hb
       have:=pgs hb.1.1.1
       have:=nos hb.1.2
       have:=image_size hb.2
       omega
      ·rw [if_neg k4] at hb
       by_cases k5:v3=5∨v3=6
       ·rw [if_pos k5] at hb
        simp only [Bool.and_eq_true] at hb
        have:=pgs hb.1.1.1
        have:=pgs hb.1.1.2
        have:=keys hb.1.2
        have:=nos hb.2
        omega
       ·rw [if_neg k5] at hb
        cases hb
 obtain ⟨g1,g2,g3,g4,g5,g6,g7,g8,g9,g10⟩:=hsz
 obtain ⟨a1,a2,a3,a4⟩:=ha
 exact ⟨⟨numOk8 (by omega) a2,numOk8 a3 a4,numOk1 g1 (by show v3≤20;omega),numOk4 g3 g4,numOk4 g5 g6,numOk8 g7 g8,(by show v7.size≤65535;omega),(by show v8.size≤65535;omega)⟩,by omega⟩
theorem frame_length (v:RecV):(frameB v).length=(bodyR v).length+6:=by
 unfold frameB sealB
 simp only [List.length_append,le_length]
 omega
end Go.Proofs.Ytgjibcfkjaedfaa.Rec
