-- A part of the text RecEnc, thinned by a program of this session.
import Derived.Test.YtgjibcfkjaedfaaTHRecV
import Derived.Test.YtgjibcfkjaedfaaTHRecChk
namespace Go.Proofs.Ytgjibcfkjaedfaa.Rec
open Go.RowKit Go.Proofs.YtgjibcfkjaedfaaW.PrintWords Go.Proofs.YtgjibcfkjaedfaaW.PrintLast Go.Proofs.YtgjibcfkjaedfaaW.PrintMore Go.Proofs.Ytgjibcfkjaedfaa.Wire Go.Proofs.Ytgjibcfkjaedfaa.Crc Go.Proofs.Ytgjibcfkjaedfaa.Pr Go.Proofs.Ytgjibcfkjaedfaa.Page
open Go.Proofs.Ytgjibcfkjaedfaa.Back (AllB)
open Go.Proofs.Ytgjibcfkjaedfaa.Pure
set_option linter.unusedVariables false
set_option linter.unusedSimpArgs false
structure Enc (w W:World) (rg g:Nat) (a1 a2 a3 a4 a5 a6:Int) (a7 a8:ByteArray) (xs:List Int):Prop where
 rc:RcAt W rg a1 a2 a3 a4 a5 a6 a7 a8
 wr:WrFrom g W g xs
 bl:Below w.heap.size w W
 lo:w.heap.size≤g∧rg < g∧g≤W.heap.size
section
variable {w W W2:World} {rg g:Nat} {a1 a2 a3 a4 a5 a6:Int} {a7 a8:ByteArray} {xs:List Int}
theorem Enc.below (h:Enc w W rg g a1 a2 a3 a4 a5 a6 a7 a8 xs) (hB:Below W.heap.size W W2):Enc w W2 rg g a1 a2 a3 a4 a5 a6 a7 a8 xs :=
 ⟨h.rc.below hB,h.wr.below hB,below_from2 h.bl (Nat.le_refl _) hB,by have:=h.lo;have:=hB.size;omega⟩
theorem Enc.new (hrc:RcAt W rg a1 a2 a3 a4 a5 a6 a7 a8) (hbl:Below w.heap.size w W) (hlo:w.heap.size≤W.heap.size) :
  Calls Try.prog 73 #[] W fun e w'=>e=.returned (.pointer (some ⟨W.heap.size,0,none⟩))∧Enc w w' rg W.heap.size a1 a2 a3 a4 a5 a6 a7 a8 []∧Below W.heap.size W w':=by
 refine (new_from W).mono ?_
 rintro e w' ⟨rfl,hw,hB⟩
 exact ⟨rfl,⟨hrc.below hB,hw,below_from2 hbl (Nat.le_refl _) hB,hlo,hrc.lt,hB.size⟩,hB⟩
theorem Enc.num (h:Enc w W rg g a1 a2 a3 a4 a5 a6 a7 a8 xs) {n size:Int} {s:Nat} (hs:size=(s:Int)) (hn:numOk n (s:Int)=true) (hl:xs.length≤100000) :
  Calls Try.prog 74 #[.pointer (some ⟨g,0,none⟩),.int .i64 n,.int .i64 size] W fun e w'=>e=.returned (.int .i64 0)∧Enc w w' rg g a1 a2 a3 a4 a5 a6 a7 a8 (xs++le n s)∧Below g W w':=by
 subst hs
 have hlt:n < 9223372036854775808:=by obtain ⟨_,hc⟩:=top_cases hn;omega
 have hc:=num_from n (s:Int) h.wr h.lo.2.2 hlt (by omega)
 rw [if_pos hn,if_pos hn,Int.toNat_natCast] at hc
 refine hc.mono ?_
 rintro e w' ⟨rfl,hw,hB⟩
 exact ⟨rfl,⟨(hB.block rg h.lo.2.1).trans h.rc,hw,h.bl.trans (below_le hB h.lo.1),h.lo.1,h.lo.2.1,by have:=h.lo;have:=hB.size;omega⟩,hB⟩
theorem Enc.text (h:Enc w W rg g a1 a2 a3 a4 a5 a6 a7 a8 xs) {t:ByteArray} (hn:t.size≤65535) (hl:xs.length≤100000) :
  Calls Try.prog 75 #[.pointer (some ⟨g,0,none⟩),.string t] W fun e w'=>e=.returned (.int .i64 0)∧Enc w w' rg g a1 a2 a3 a4 a5 a6 a7 a8 (xs++txB t)∧Below g W w':=by
 have hc:=text_from t h.wr h.lo.2.2 (by omega)
 rw [if_pos hn,if_pos hn] at hc
 refine hc.mono ?_
 rintro e w' ⟨rfl,hw,hB⟩
 exact ⟨rfl,⟨(hB.block rg h.lo.2.1).trans h.rc,hw,h.bl.trans (below_le hB h.lo.1),h.lo.1,h.lo.2.1,by have:=h.lo;have:=hB.size;omega⟩,hB⟩
end
set_option maxHeartbeats 8000000 in
set_option maxRecDepth 100000 in
theorem recenc_ok (a1 a2 a3 a4 a5 a6:Int) (a7 a8:ByteArray) (hv:a8.size≤140737488351232) (w:World) :
  Calls Try.prog 56 #[.agg #[.int .i64 a1,.int .i64 a2,.int .i64 a3,.int .i64 a4,.int .i64 a5,.int .i64 a6,.string a7,.string a8]] w fun e w'=>∃ A c,e=.returned (.tuple #[.slice A (frameF (a1,a2,a3,a4,a5,a6,a7,a8)).1.length c,.int .i64 (frameF (a1,a2,a3,a4,a5,a6,a7,a8)).2])∧Kd.R (Kd.int .u8) 5 w' w.heap.size (fun _=>True) (.slice A (frameF (a1,a2,a3,a4,a5,a6,a7,a8)).1.length c) (frameF (a1,a2,a3,a4,a5,a6,a7,a8)).1∧Below w.heap.size w w':=by
 have hrc:=rc_new w a1 a2 a3 a4 a5 a6 a7 a8
 have HB:=Aside0.mk (below_alloc (Below.refl w.heap.size w) (.cells #[.int .i64 a1,.int .i64 a2,.int .i64 a3,.int .i64 a4,.int .i64 a5,.int .i64 a6,.string a7,.string a8] 53))
 have hck:=reccheck_ok a1 a2 a3 a4 a5 a6 a7 a8 hv (w.alloc (.cells #[.int .i64 a1,.int .i64 a2,.int .i64 a3,.int .i64 a4,.int .i64 a5,.int .i64 a6,.string a7,.string a8] 53))
 obtain ⟨⟨b0,b1,b2,b3,b4,b5,b6,b7⟩,_⟩:=hrc.cells
 have HRC:=Aside0.mk hrc
 clear hrc hv
 by_cases hr:rightV (a1,a2,a3,a4,a5,a6,a7,a8)=true
 ·have hr':rightB a1 a2 a3 a4 a5 a6 a7 a8=true:=hr
  rw [if_pos hr'] at hck
  obtain ⟨hf,hl⟩:=fits_of hr
  have hF:frameF (a1,a2,a3,a4,a5,a6,a7,a8)=(frameB (a1,a2,a3,a4,a5,a6,a7,a8),0):=by unfold frameF;rw [if_pos hr]
  rw [hF]
  have hbody:[]++le a1 8++le a2 8++le a3 1++le a4 4++le a5 4++le a6 8++txB a7++txB a8=bodyR (a1,a2,a3,a4,a5,a6,a7,a8):=by
   unfold bodyR
   simp only [List.nil_append,List.append_assoc]
  have HF:=Aside0.mk hf
  have HL:=Aside0.mk hl
  have HBODY:=Aside0.mk hbody
  have hlb:=body_length (a1,a2,a3,a4,a5,a6,a7,a8)
  have HLB:=Aside0.mk hlb
  have HBB:=Aside0.mk (body_allB (a1,a2,a3,a4,a5,a6,a7,a8))
  have hfr:frameB (a1,a2,a3,a4,a5,a6,a7,a8)=sealB ([]++txB (strOfNums (bodyR (a1,a2,a3,a4,a5,a6,a7,a8)))):=by
   rw [List.nil_append,tx_str HBB.out]
   rfl
  have HFR:=Aside0.mk hfr
  have HAB:Aside0 (AllB (txB (strOfNums (bodyR (a1,a2,a3,a4,a5,a6,a7,a8))))):=⟨txB_allB _⟩
  clear hr hr' hf hl hF hbody hlb hfr
  generalize hX:frameB (a1,a2,a3,a4,a5,a6,a7,a8)=X at HFR ⊢
  clear hX
  generalize bodyR (a1,a2,a3,a4,a5,a6,a7,a8)=B at HL HBODY HLB HBB HFR HAB
  go_enter Try.func56,Try.ntmps56
  go_wp2_with (first
   | (go_at_call 55;(with_reducible refine hck.mono ?_);rintro e w2 ⟨rfl,hB⟩;clear b0 b1 b2 b3 b4 b5 b6 b7;(replace HB:=Aside0.mk (below_from2 HB.out (Nat.le_refl _) hB));(replace HRC:=Aside0.mk (HRC.out.below hB));obtain ⟨⟨b0,b1,b2,b3,b4,b5,b6,b7⟩,_⟩:=HRC.out.cells;(have hnew:=Enc.new HRC.out HB.out HB.out.size);clear hB hck)
   | (go_at_call 73;(with_reducible refine hnew.mono ?_);rintro e w3 ⟨rfl,hE,_⟩;clear b0 b1 b2 b3 b4 b5 b6 b7;(have HE:=Aside0.mk hE);obtain ⟨⟨b0,b1,b2,b3,b4,b5,b6,b7⟩,_⟩:=HE.out.rc.cells;(have hn1:=HE.out.num (n:=a1) (size:=8) (s:=8) rfl HF.out.h1 (by simp));clear hE hnew)
   | (go_at_call 74;(with_reducible refine hn1.mono ?_);rintro e w4 ⟨rfl,hE,_⟩;clear b0 b1 b2 b3 b4 b5 b6 b7;(replace HE:=Aside0.mk hE);obtain ⟨⟨b0,b1,b2,b3,b4,b5,b6,b7⟩,_⟩:=HE.out.rc.cells;(have hn2:=HE.out.num (n:=a2) (size:=8) (s:=8) rfl HF.out.h2 (by simp only [List.length_append,List.length_nil,le_length];omega));clear hE hn1)
   | (go_at_call 74;(with_reducible refine hn2.mono ?_);rintro e w5 ⟨rfl,hE,_⟩;clear b0 b1 b2 b3 b4 b5 b6 b7;(replace HE:=Aside0.mk hE);obtain ⟨⟨b0,b1,b2,b3,b4,b5,b6,b7⟩,_⟩:=HE.out.rc.cells;(have hn3:=HE.out.num (n:=a3) (size:=1) (s:=1) rfl HF.out.h3 (by simp only [List.length_append,List.length_nil,le_length];omega));clear hE hn2)
   | (go_at_call 74;(with_reducible refine hn3.mono ?_);rintro e w6 ⟨rfl,hE,_⟩;clear b0 b1 b2 b3 b4 b5 b6 b7;(replace HE:=Aside0.mk hE);obtain ⟨⟨b0,b1,b2,b3,b4,b5,b6,b7⟩,_⟩:=HE.out.rc.cells;(have hn4:=HE.out.num (n:=a4) (size:=4) (s:=4) rfl HF.out.h4 (by simp only [List.length_append,List.length_nil,le_length];omega));clear hE hn3)
   | (go_at_call 74;(with_reducible refine hn4.mono ?_);rintro e w7 ⟨rfl,hE,_⟩;clear b0 b1 b2 b3 b4 b5 b6 b7;(replace HE:=Aside0.mk hE);obtain ⟨⟨b0,b1,b2,b3,b4,b5,b6,b7⟩,_⟩:=HE.out.rc.cells;(have hn5:=HE.out.num (n:=a5) (size:=4) (s:=4) rfl HF.out.h5 (by simp only [List.length_append,List.length_nil,le_length];omega));clear hE hn4)
   | (go_at_call 74;(with_reducible refine hn5.mono ?_);rintro e w8 ⟨rfl,hE,_⟩;clear b0 b1 b2 b3 b4 b5 b6 b7;(replace HE:=Aside0.mk hE);obtain ⟨⟨b0,b1,b2,b3,b4,b5,b6,b7⟩,_⟩:=HE.out.rc.cells;(have hn6:=HE.out.num (n:=a6) (size:=8) (s:=8) rfl HF.out.h6 (by simp only [List.length_append,List.length_nil,le_length];omega));clear hE hn5)
   | (go_at_call 74;(with_reducible refine hn6.mono ?_);rintro e w9 ⟨rfl,hE,_⟩;clear b0 b1 b2 b3 b4 b5 b6 b7;(replace HE:=Aside0.mk hE);obtain ⟨⟨b0,b1,b2,b3,b4,b5,b6,b7⟩,_⟩:=HE.out.rc.cells;(have ht1:=HE.out.text (t:=a7) HF.out.h7 (by simp only [List.length_append,List.length_nil,le_length];omega));clear hE hn6)
   | (go_at_call 75;(with_reducible refine ht1.mono ?_);rintro e w10 ⟨rfl,hE,_⟩;clear b0 b1 b2 b3 b4 b5 b6 b7;(replace HE:=Aside0.mk hE);obtain ⟨⟨b0,b1,b2,b3,b4,b5,b6,b7⟩,_⟩:=HE.out.rc.cells;(have ht2:=HE.out.text (t:=a8) HF.out.h8 (by have:=HLB.out;have:=HL.out;simp only [List.length_append,List.length_nil,le_length,txB_length] at this ⊢;omega));clear hE ht1)
   | (go_at_call 75;(with_reducible refine ht2.mono ?_);rintro e w11 ⟨rfl,hE,_⟩;clear b0 b1 b2 b3 b4 b5 b6 b7;rw [HBODY.out] at hE;(have HD:=Aside0.mk hE);(have hnew:=Enc.new hE.rc hE.bl hE.bl.size);clear hE ht2)
   | (go_at_call 73;(with_reducible refine hnew.mono ?_);rintro e w12 ⟨rfl,hE,hB⟩;(replace HD:=Aside0.mk (HD.out.below hB));(replace HE:=Aside0.mk hE);(have hby:=bytes_from HD.out.wr (by have:=HL.out;omega));clear hE hB hnew)
   | (go_at_call 76;(with_reducible refine hby.mono ?_);rintro e w13 ⟨A,c,rfl,_,hC,hB,_⟩;(replace HE:=Aside0.mk (HE.out.below hB));(have cv1:=Kd.C_string (P:=Try.prog) (c:=c) Try.underlying67 Try.underlying5 Try.underlying9 hC);(have ht3:=HE.out.text (t:=strOfNums B) (by rw [strOfNums_size];have:=HL.out;omega) (by simp));clear hC hB hby)
   | (go_at_call 75;(with_reducible refine ht3.mono ?_);rintro e w14 ⟨rfl,hE,_⟩;(replace HE:=Aside0.mk hE);(have hby2:=bytes_from HE.out.wr (by rw [List.nil_append,txB_length,strOfNums_size];have:=HL.out;omega));clear hE ht3)
   | (go_at_call 76;(with_reducible refine hby2.mono ?_);rintro e w15 ⟨A9,c9,rfl,_,hC,hB,_⟩;(replace HE:=Aside0.mk (HE.out.below hB));rw [List.nil_append] at hC;(have hse:=seal_ok A9 c9 (txB (strOfNums B)) w15 hC HAB.out (by rw [txB_length,strOfNums_size];have:=HL.out;omega));clear hC hB hby2)
   | (go_at_call 77;(with_reducible refine hse.mono ?_);rintro e w16 ⟨u,rfl,hR,hB⟩;(have HR:=Aside0.mk hR);(have HB16:=Aside0.mk (below_from2 HE.out.bl (Nat.le_refl _) hB));(have HLO:=Aside0.mk HE.out.bl.size);clear hR hB hse))
  go_ret2
  have hR:=Kd.R_lower HR.out HLO.out
  have hX:X=txB (strOfNums B)++le (sumOf (txB (strOfNums B)):Int) 4:=HFR.out
  rw [← hX] at hR
  obtain ⟨A,c,rfl,_,_⟩:=Kd.R_reads hR
  exact ⟨A,c,rfl,hR,HB16.out⟩
 ·have hr':¬ rightB a1 a2 a3 a4 a5 a6 a7 a8=true:=hr
  rw [if_neg hr'] at hck
  have hF:frameF (a1,a2,a3,a4,a5,a6,a7,a8)=([],90):=by unfold frameF;rw [if_neg hr]
  rw [hF]
  clear hr hr' hF
  go_enter Try.func56,Try.ntmps56
  go_wp2_with (go_at_call 55;(with_reducible refine hck.mono ?_);rintro e w2 ⟨rfl,hB⟩;(replace HB:=Aside0.mk (below_from2 HB.out (Nat.le_refl _) hB));clear hB hck)
  go_ret2
  exact ⟨none,0,rfl,Kd.R_nil _ _ _ _ _,HB.out⟩
end Go.Proofs.Ytgjibcfkjaedfaa.Rec
