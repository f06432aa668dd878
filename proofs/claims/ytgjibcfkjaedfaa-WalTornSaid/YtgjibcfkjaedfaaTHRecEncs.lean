-- A part of the text RecEncs, thinned by a program of this session.
import Derived.Test.YtgjibcfkjaedfaaTHRecLaw
import Derived.Test.YtgjibcfkjaedfaaTHPagePure
import Derived.Test.YtgjibcfkjaedfaaTHPrx26
namespace Go.Proofs.Ytgjibcfkjaedfaa.Rec
open Go.RowKit Go.Proofs.YtgjibcfkjaedfaaW.PrintWords Go.Proofs.YtgjibcfkjaedfaaW.PrintLast Go.Proofs.YtgjibcfkjaedfaaW.PrintMore Go.Proofs.Ytgjibcfkjaedfaa.Wire Go.Proofs.Ytgjibcfkjaedfaa.Crc Go.Proofs.Ytgjibcfkjaedfaa.Pr Go.Proofs.Ytgjibcfkjaedfaa.Page
open Go.Proofs.Ytgjibcfkjaedfaa.Back (AllB)
open Go.Proofs.Ytgjibcfkjaedfaa.Pure
set_option linter.unusedVariables false
set_option linter.unusedSimpArgs false
theorem num_ok_f {n:Int} {s:Nat} (h:numOk n (s:Int)=true) (hs:s≤8):latticeref01_Num.f n (s:Int)=some (le n s):=by
 obtain ⟨h0,hc⟩:=top_cases h
 have e:=num_f (n:=n) (s:=(s:Int)) (by omega) (by omega) (by omega) (by omega)
 rw [Int.toNat_natCast] at e
 exact e
theorem right_f {a1 a2 a3 a4 a5 a6:Int} {a7 a8:ByteArray} (hv:a8.size≤140737488351232):latticeref09_Right.f a1 a2 a3 a4 a5 a6 a7 a8=some (rightB a1 a2 a3 a4 a5 a6 a7 a8):=by
 unfold latticeref09_Right.f
 rw [if_pos hv]
theorem small_add {a b:Nat} (ha:a≤1000) (hb:b≤1000):a+b < 140737488355328:=by omega
theorem refenc_f (a1 a2 a3 a4 a5 a6:Int) (a7 a8:ByteArray) (hv:a8.size≤140737488351232):latticeref09_Encode.f a1 a2 a3 a4 a5 a6 a7 a8=some (frameF (a1,a2,a3,a4,a5,a6,a7,a8)):=by
 unfold latticeref09_Encode.f
 rw [right_f hv,Option.bind_some]
 by_cases hr:rightB a1 a2 a3 a4 a5 a6 a7 a8=true
 ·rw [if_pos hr]
  have hr':rightV (a1,a2,a3,a4,a5,a6,a7,a8)=true:=hr
  obtain ⟨hf,hl⟩:=fits_of hr'
  have hlb:=body_length (a1,a2,a3,a4,a5,a6,a7,a8)
  have h7:a7.size+a8.size≤272:=by
   have e:(bodyR (a1,a2,a3,a4,a5,a6,a7,a8)).length=37+a7.size+a8.size:=hlb
   omega
  have n1:latticeref01_Num.f a1 8=some (le a1 8):=num_ok_f (s:=8) hf.h1 (by omega)
  have n2:latticeref01_Num.f a2 8=some (le a2 8):=num_ok_f (s:=8) hf.h2 (by omega)
  have n3:latticeref01_Num.f a3 1=some (le a3 1):=num_ok_f (s:=1) hf.h3 (by omega)
  have n4:latticeref01_Num.f a4 4=some (le a4 4):=num_ok_f (s:=4) hf.h4 (by omega)
  have n5:latticeref01_Num.f a5 4=some (le a5 4):=num_ok_f (s:=4) hf.h5 (by omega)
  have n6:latticeref01_Num.f a6 8=some (le a6 8):=num_ok_f (s:=8) hf.h6 (by omega)
  have t7:latticeref01_Text.f a7=some (txB a7):=text_f (by omega)
  have t8:latticeref01_Text.f a8=some (txB a8):=text_f (by omega)
  have hbody:[]++le a1 8++le a2 8++le a3 1++le a4 4++le a5 4++le a6 8++txB a7++txB a8=bodyR (a1,a2,a3,a4,a5,a6,a7,a8):=by
   unfold bodyR
   simp only [List.nil_append,List.append_assoc]
  have hba:=body_allB (a1,a2,a3,a4,a5,a6,a7,a8)
  have ht:latticeref01_Text.f (strOfNums (bodyR (a1,a2,a3,a4,a5,a6,a7,a8)))=some (le ((bodyR (a1,a2,a3,a4,a5,a6,a7,a8)).length:Int) 2++bodyR (a1,a2,a3,a4,a5,a6,a7,a8)):=by
   rw [text_f (by rw [strOfNums_size];omega),tx_str hba]
  have hs:latticeref02_Seal.f (le ((bodyR (a1,a2,a3,a4,a5,a6,a7,a8)).length:Int) 2++bodyR (a1,a2,a3,a4,a5,a6,a7,a8))=some (frameB (a1,a2,a3,a4,a5,a6,a7,a8)) :=
   seal_f (allB_append (le_allB _ _) hba) (by rw [List.length_append,le_length];omega)
  clear hf hl hlb hr' hba
  rw [n1,Option.bind_some,if_pos (small_add (by simp) (by rw [le_length];omega)),Option.bind_some]
  rw [n2,Option.bind_some,if_pos (small_add (by simp only [List.length_append,List.length_nil,le_length];omega) (by rw [le_length];omega)),Option.bind_some]
  rw [n3,Option.bind_some,if_pos (small_add (by simp only [List.length_append,List.length_nil,le_length];omega) (by rw [le_length];omega)),Option.bind_some]
  rw [n4,Option.bind_some,if_pos (small_add (by simp only [List.length_append,List.length_nil,le_length];omega) (by rw [le_length];omega)),Option.bind_some]
  rw [n5,Option.bind_some,if_pos (small_add (by simp only [List.length_append,List.length_nil,le_length];omega) (by rw [le_length];omega)),Option.bind_some]
  rw [n6,Option.bind_some,if_pos (small_add (by simp only [List.length_append,List.length_nil,le_length];omega) (by rw [le_length];omega)),Option.bind_some]
  rw [t7,Option.bind_some,if_pos (small_add (by simp only [List.length_append,List.length_nil,le_length];omega) (by rw [txB_length];omega)),Option.bind_some]
  rw [t8,Option.bind_some,if_pos (small_add (by simp only [List.length_append,List.length_nil,le_length,txB_length];omega) (by rw [txB_length];omega))]
  rw [hbody,ht,Option.bind_some,hs,Option.bind_some]
  unfold frameF
  rw [if_pos (show rightV (a1,a2,a3,a4,a5,a6,a7,a8)=true from hr)]
 ·rw [if_neg hr]
  unfold frameF
  rw [if_neg (show ¬ rightV (a1,a2,a3,a4,a5,a6,a7,a8)=true from hr)]
theorem C_of_R {w:World} {b:Nat} {Q:Nat→Prop} {A:Option Addr} {c:Nat} {xs:List Int} (h:Kd.R (Kd.int .u8) 5 w b Q (.slice A xs.length c) xs):Kd.C (Kd.int .u8) w A xs.length xs∧xs.length≤c:=by
 obtain ⟨A',c',e,h1,h2⟩:=Kd.R_reads h
 injection e with e1 e2 e3
 subst e1 e3
 exact ⟨h2,h1⟩
end Go.Proofs.Ytgjibcfkjaedfaa.Rec
