-- A part of the text RecLaw, thinned by a program of this session.
import Derived.Test.YteipehiiaggenaaTRecordDecodesRecEnc
import Derived.Test.YteipehiiaggenaaTRecordDecodesRecRefDec
namespace Go.Proofs.Yteipehiiaggenaa.Rec
open Go.RowKit Go.Proofs.YteipehiiaggenaaW.PrintWords Go.Proofs.YteipehiiaggenaaW.PrintLast Go.Proofs.YteipehiiaggenaaW.PrintMore Go.Proofs.Yteipehiiaggenaa.Wire Go.Proofs.Yteipehiiaggenaa.Crc Go.Proofs.Yteipehiiaggenaa.Pr Go.Proofs.Yteipehiiaggenaa.Page
open Go.Proofs.Yteipehiiaggenaa.Back (AllB)
open Go.Proofs.Yteipehiiaggenaa.Pure
set_option linter.unusedVariables false
set_option linter.unusedSimpArgs false
theorem eqRc (W:World) (a1 a2 a3 a4 a5 a6:Int) (a7 a8:ByteArray):(binOp .eql 23 (.agg #[.int .i64 a1,.int .i64 a2,.int .i64 a3,.int .i64 a4,.int .i64 a5,.int .i64 a6,.string a7,.string a8]) (.agg #[.int .i64 a1,.int .i64 a2,.int .i64 a3,.int .i64 a4,.int .i64 a5,.int .i64 a6,.string a7,.string a8])).run Try.prog W=.ok (.bool true) W:=by
 rw [run_eql_struct,eqA_of (d:=9999) (r:=(a1==a1&&(a2==a2&&(a3==a3&&(a4==a4&&(a5==a5&&(a6==a6&&(a7.toList==a7.toList&&a8.toList==a8.toList)))))))) Try.underlying23 (by kernel_rfl)]
 ·simp
 ·exact eqf_cons (a:=.int .i64 a1) (b:=.int .i64 a1) (by decide) (by kernel_rfl) (by kernel_rfl) (by kernel_rfl) (eqf_cons (a:=.int .i64 a2) (b:=.int .i64 a2) (by decide) (by kernel_rfl) (by kernel_rfl) (by kernel_rfl) (eqf_cons (a:=.int .i64 a3) (b:=.int .i64 a3) (by decide) (by kernel_rfl) (by kernel_rfl) (by kernel_rfl) (eqf_cons (a:=.int .i64 a4) (b:=.int .i64 a4) (by decide) (by kernel_rfl) (by kernel_rfl) (by kernel_rfl) (eqf_cons (a:=.int .i64 a5) (b:=.int .i64 a5) (by decide) (by kernel_rfl) (by kernel_rfl) (by kernel_rfl) (eqf_cons (a:=.int .i64 a6) (b:=.int .i64 a6) (by decide) (by kernel_rfl) (by kernel_rfl) (by kernel_rfl) (eqf_cons (a:=.string a7) (b:=.string a7) (by decide) (by kernel_rfl) (by kernel_rfl) (by exact run_equalIn_string W 9998 9 a7 a7 Try.underlying9) (eqf_last (a:=.string a8) (b:=.string a8) (by decide) (by kernel_rfl) (by kernel_rfl) (by exact run_equalIn_string W 9998 9 a8 a8 Try.underlying9))))))))
theorem rbelow_next {w0 w w1:World} (h:Below w0.heap.size w0 w) (hB:Below w.heap.size w w1) (o:Obj):Below w0.heap.size w0 (w1.alloc o):=below_alloc (below_from2 h (Nat.le_refl _) hB) o
theorem rbelow_same {w0 w w1:World} (h:Below w0.heap.size w0 w) (hB:Below w.heap.size w w1):Below w0.heap.size w0 w1:=below_from2 h (Nat.le_refl _) hB
theorem RcAt.step {w w1:World} {g:Nat} {a1 a2 a3 a4 a5 a6:Int} {a7 a8:ByteArray} (h:RcAt w g a1 a2 a3 a4 a5 a6 a7 a8) (hB:Below w.heap.size w w1) (o:Obj):RcAt (w1.alloc o) g a1 a2 a3 a4 a5 a6 a7 a8:=(h.below hB).below (below_alloc (Below.refl _ _) o)
abbrev vOne:RecV:=(1,1,1,0,0,0,⟨#[]⟩,⟨#[]⟩)
theorem one_right:rightV vOne=true:=by decide +kernel
theorem zero_wrong:rightB 0 0 0 0 0 0 ⟨#[]⟩ ⟨#[]⟩=false:=by
 unfold rightB
 rw [decide_eq_false (by omega),Bool.false_and]
theorem one_length:(frameB vOne).length=43:=by
 rw [frame_length,body_length]
 rfl
theorem one_dec:decF9 (frameB vOne)=(vOne,43,0):=by
 have h:=dec_frame one_right []
 rw [List.append_nil,body_length] at h
 exact h
set_option maxHeartbeats 8000000 in
set_option maxRecDepth 100000 in
theorem speaks9_ok (w:World):Calls Try.prog 12 #[] w fun e w'=>e=.returned (.bool true)∧Below w.heap.size w w':=by
 have hn:=rc_new w 1 1 1 0 0 0 ⟨#[]⟩ ⟨#[]⟩
 have HB:=Aside0.mk (below_alloc (Below.refl w.heap.size w) (.cells #[.int .i64 1,.int .i64 1,.int .i64 1,.int .i64 0,.int .i64 0,.int .i64 0,.string ⟨#[]⟩,.string ⟨#[]⟩] 23))
 have hen:=recenc_ok 1 1 1 0 0 0 ⟨#[]⟩ ⟨#[]⟩ (by decide) (w.alloc (.cells #[.int .i64 1,.int .i64 1,.int .i64 1,.int .i64 0,.int .i64 0,.int .i64 0,.string ⟨#[]⟩,.string ⟨#[]⟩] 23))
 have hF:frameF (1,1,1,0,0,0,⟨#[]⟩,⟨#[]⟩)=(frameB vOne,0):=by unfold frameF;rw [if_pos one_right]
 rw [hF] at hen
 have HL:=Aside0.mk one_length
 have HD:=Aside0.mk one_dec
 have HAB:=Aside0.mk (frame_allB vOne)
 have HN:=Aside0.mk hn
 obtain ⟨⟨b0,b1,b2,b3,b4,b5,b6,b7⟩,_⟩:=hn.cells
 have ltn:=hn.lt
 clear hn hF
 generalize frameB vOne=xs at hen HL HD HAB
 dsimp only at hen
 rw [HL.out] at hen
 have hck:=fun W=>reccheck_ok 0 0 0 0 0 0 ⟨#[]⟩ ⟨#[]⟩ (by decide) W
 rw [zero_wrong] at hck
 have heq:=fun W=>eqRc W 1 1 1 0 0 0 ⟨#[]⟩ ⟨#[]⟩
 go_enter Try.func12,Try.ntmps12
 go_wp2_with (first
  | (go_at_call 8;(with_reducible refine hen.mono ?_);rintro e w2 ⟨A,c,rfl,hR,hB⟩;clear b0 b1 b2 b3 b4 b5 b6 b7 ltn;(replace HN:=Aside0.mk (HN.out.below hB));(replace HB:=Aside0.mk (rbelow_same HB.out hB));obtain ⟨⟨b0,b1,b2,b3,b4,b5,b6,b7⟩,_⟩:=HN.out.cells;(have ltn:=HN.out.lt);(have hde:=recdec_ok A c xs w2 (by rw [HL.out];obtain ⟨A',c',e,h1,h2⟩:=Kd.R_reads hR;injection e with e1 e2 e3;subst e1;exact h2 |> fun h=>by rw [HL.out] at h;exact h) (by rw [HL.out];obtain ⟨A',c',e,h1,h2⟩:=Kd.R_reads hR;injection e with e1 e2 e3;rw [HL.out] at h1;omega) HAB.out (by rw [HL.out];decide));rw [HL.out,HD.out] at hde;clear hR hB hen)
  | (go_at_call 13;(with_reducible refine hde.mono ?_);rintro e w3 ⟨rfl,hB⟩;clear b0 b1 b2 b3 b4 b5 b6 b7 ltn;(have HM:=Aside0.mk (rc_new w3 1 1 1 0 0 0 ⟨#[]⟩ ⟨#[]⟩));(replace HN:=Aside0.mk (HN.out.step hB (.cells #[.int .i64 1,.int .i64 1,.int .i64 1,.int .i64 0,.int .i64 0,.int .i64 0,.string ⟨#[]⟩,.string ⟨#[]⟩] 23)));(replace HB:=Aside0.mk (rbelow_next HB.out hB (.cells #[.int .i64 1,.int .i64 1,.int .i64 1,.int .i64 0,.int .i64 0,.int .i64 0,.string ⟨#[]⟩,.string ⟨#[]⟩] 23)));obtain ⟨⟨b0,b1,b2,b3,b4,b5,b6,b7⟩,_⟩:=HN.out.cells;obtain ⟨⟨m0,m1,m2,m3,m4,m5,m6,m7⟩,_⟩:=HM.out.cells;(have ltn:=HN.out.lt);clear hB hde)
  | (go_at_call 10;(with_reducible refine (hck _).mono ?_);rintro e w4 ⟨rfl,hB⟩;(replace HB:=Aside0.mk (rbelow_same HB.out hB));clear hB hck))
 go_ret
 exact ⟨rfl,HB.out⟩
set_option maxHeartbeats 8000000 in
set_option maxRecDepth 100000 in
theorem rdecodes_ok (A:Option Addr) (c:Nat) (xs:List Int) (w:World) (hr:Kd.C (Kd.int .u8) w A xs.length xs) (hc:xs.length≤c) (hb:AllB xs) (hl:xs.length≤140737488355328) :
  Calls Try.prog 4 #[.slice A xs.length c] w fun e w'=>e=.returned (.bool true)∧Below w.heap.size w w':=by
 have hde:=recdec_ok A c xs w hr hc hb hl
 have HREF:=Aside0.mk (fun W (hB:Below w.heap.size w W)=>rfdec9_ok A c xs W (Kd.C_below hr hB) hc hb hl)
 clear hr hc hb hl
 generalize decF9 xs=D at hde HREF
 obtain ⟨⟨a1,a2,a3,a4,a5,a6,a7,a8⟩,n,f⟩:=D
 dsimp only at hde HREF
 have d0:(f==f)=true:=by simp
 have d1:(n==n)=true:=by simp
 have heq:=fun W=>eqRc W a1 a2 a3 a4 a5 a6 a7 a8
 go_enter Try.func4,Try.ntmps4
 go_wp2_with (first
  | (go_at_call 13;(with_reducible refine hde.mono ?_);rintro e w2 ⟨rfl,hB⟩;(have HN:=Aside0.mk (rc_new w2 a1 a2 a3 a4 a5 a6 a7 a8));obtain ⟨⟨b0,b1,b2,b3,b4,b5,b6,b7⟩,_⟩:=HN.out.cells;(have ltn:=HN.out.lt);(have HB:=Aside0.mk (below_alloc hB (.cells #[.int .i64 a1,.int .i64 a2,.int .i64 a3,.int .i64 a4,.int .i64 a5,.int .i64 a6,.string a7,.string a8] 23)));(have href:=HREF.out _ HB.out);clear hB hde)
  | (go_at_call 14;(with_reducible refine href.mono ?_);rintro e w3 ⟨rfl,hB⟩;clear b0 b1 b2 b3 b4 b5 b6 b7 ltn;(have HM:=Aside0.mk (rc_new w3 a1 a2 a3 a4 a5 a6 a7 a8));(replace HN:=Aside0.mk (HN.out.step hB (.cells #[.int .i64 a1,.int .i64 a2,.int .i64 a3,.int .i64 a4,.int .i64 a5,.int .i64 a6,.string a7,.string a8] 23)));obtain ⟨⟨b0,b1,b2,b3,b4,b5,b6,b7⟩,_⟩:=HN.out.cells;obtain ⟨⟨m0,m1,m2,m3,m4,m5,m6,m7⟩,_⟩:=HM.out.cells;(have ltn:=HN.out.lt);(replace HB:=Aside0.mk (rbelow_next HB.out hB (.cells #[.int .i64 a1,.int .i64 a2,.int .i64 a3,.int .i64 a4,.int .i64 a5,.int .i64 a6,.string a7,.string a8] 23)));(have hsp:=speaks9_ok (w3.alloc (.cells #[.int .i64 a1,.int .i64 a2,.int .i64 a3,.int .i64 a4,.int .i64 a5,.int .i64 a6,.string a7,.string a8] 23)));clear hB href)
  | (go_at_call 12;(with_reducible refine hsp.mono ?_);rintro e w5 ⟨rfl,hB⟩;(replace HB:=Aside0.mk (rbelow_same HB.out hB));clear hB hsp))
 go_ret
 exact ⟨rfl,HB.out⟩
end Go.Proofs.Yteipehiiaggenaa.Rec
