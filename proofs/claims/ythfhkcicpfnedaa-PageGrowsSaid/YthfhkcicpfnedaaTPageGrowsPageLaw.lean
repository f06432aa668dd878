-- A part of the text PageLaw, thinned by a program of this session.
import Derived.Test.YthfhkcicpfnedaaTPageGrowsPageRef
import Derived.Test.YthfhkcicpfnedaaTPageGrowsPlain
namespace Go.Proofs.Ythfhkcicpfnedaa.Page
open Go.RowKit Go.Proofs.YthfhkcicpfnedaaW.PrintWords Go.Proofs.YthfhkcicpfnedaaW.PrintLast Go.Proofs.YthfhkcicpfnedaaW.PrintMore Go.Proofs.Ythfhkcicpfnedaa.Wire Go.Proofs.Ythfhkcicpfnedaa.Crc Go.Proofs.Ythfhkcicpfnedaa.Pr
open Go.Proofs.Ythfhkcicpfnedaa.Back (AllB)
open Go.Proofs.Ythfhkcicpfnedaa.Pure
set_option linter.unusedVariables false
set_option linter.unusedSimpArgs false
def NdC (w:World) (A4:Option Addr) (c4:Nat) (l4:List ByteArray) (A5:Option Addr) (c5:Nat) (l5:List ByteArray) (A6:Option Addr) (c6:Nat) (l6:List Int):Prop :=
 (Kd.C Kd.string w A4 l4.length l4∧l4.length≤c4)∧(Kd.C Kd.string w A5 l5.length l5∧l5.length≤c5)∧(Kd.C (Kd.int .i64) w A6 l6.length l6∧l6.length≤c6)
def NdA (w:World) (g:Nat) (x0 x1 x2:Int) (x3:ByteArray) (A4:Option Addr) (c4:Nat) (l4:List ByteArray) (A5:Option Addr) (c5:Nat) (l5:List ByteArray) (A6:Option Addr) (c6:Nat) (l6:List Int):Prop:=NdAt w g x0 x1 x2 x3 (.slice A4 l4.length c4) (.slice A5 l5.length c5) (.slice A6 l6.length c6)∧NdC w A4 c4 l4 A5 c5 l5 A6 c6 l6
theorem size_alloc (w:World) (o:Obj):(w.alloc o).heap.size=w.heap.size+1:=by
 show (w.heap.push _).size=_
 simp
section
variable {w w1 W:World} {g b:Nat} {x0 x1 x2:Int} {x3:ByteArray} {A4 A5 A6:Option Addr} {c4 c5 c6:Nat} {l4 l5:List ByteArray} {l6:List Int} {u:Value} {v:NdV}
theorem NdC.below (h:NdC w A4 c4 l4 A5 c5 l5 A6 c6 l6) (hB:Below w.heap.size w w1):NdC w1 A4 c4 l4 A5 c5 l5 A6 c6 l6 :=
 ⟨⟨Kd.C_below h.1.1 hB,h.1.2⟩,⟨Kd.C_below h.2.1.1 hB,h.2.1.2⟩,⟨Kd.C_below h.2.2.1 hB,h.2.2.2⟩⟩
theorem NdA.below (h:NdA w g x0 x1 x2 x3 A4 c4 l4 A5 c5 l5 A6 c6 l6) (hB:Below w.heap.size w w1):NdA w1 g x0 x1 x2 x3 A4 c4 l4 A5 c5 l5 A6 c6 l6:=⟨h.1.below hB,h.2.below hB⟩
theorem NdA.step (h:NdA w g x0 x1 x2 x3 A4 c4 l4 A5 c5 l5 A6 c6 l6) (hB:Below w.heap.size w w1) (o:Obj):NdA (w1.alloc o) g x0 x1 x2 x3 A4 c4 l4 A5 c5 l5 A6 c6 l6:=(h.below hB).below (below_alloc (Below.refl _ _) o)
theorem NdC.boxed (h:NdC w A4 c4 l4 A5 c5 l5 A6 c6 l6) (x0 x1 x2:Int) (x3:ByteArray):NdA (w.alloc (.cells #[.int .i64 x0,.int .i64 x1,.int .i64 x2,.string x3,.slice A4 l4.length c4,.slice A5 l5.length c5,.slice A6 l6.length c6] 25)) w.heap.size x0 x1 x2 x3 A4 c4 l4 A5 c5 l5 A6 c6 l6 :=
 ⟨blk_newN _ _,h.below (below_alloc (Below.refl _ _) _)⟩
theorem NdRes.parts (h:NdRes w u v):∃ A4 c4 A5 c5 A6 c6,u=.agg #[.int .i64 v.1,.int .i64 v.2.1,.int .i64 v.2.2.1,.string v.2.2.2.1,.slice A4 v.2.2.2.2.1.length c4,.slice A5 v.2.2.2.2.2.1.length c5,.slice A6 v.2.2.2.2.2.2.length c6]∧NdC w A4 c4 v.2.2.2.2.1 A5 c5 v.2.2.2.2.2.1 A6 c6 v.2.2.2.2.2.2:=by
 obtain ⟨A4,c4,A5,c5,A6,c6,e,h4,k4,h5,k5,h6,k6⟩:=h
 exact ⟨A4,c4,A5,c5,A6,c6,e,⟨h4,k4⟩,⟨h5,k5⟩,⟨h6,k6⟩⟩
theorem below_next {w0:World} (h:Below w0.heap.size w0 w) (hB:Below w.heap.size w w1) (o:Obj):Below w0.heap.size w0 (w1.alloc o):=below_alloc (below_from2 h (Nat.le_refl _) hB) o
theorem below_same {w0:World} (h:Below w0.heap.size w0 w) (hB:Below w.heap.size w w1):Below w0.heap.size w0 w1:=below_from2 h (Nat.le_refl _) hB
theorem enc_nd (x0 x1 x2:Int) (x3:ByteArray) (h:NdC W A4 c4 l4 A5 c5 l5 A6 c6 l6) (hl:l4.length*16≤140737488351232) (hv:l5.length*16≤140737488351232) :
  Calls Try.prog 14 #[.agg #[.int .i64 x0,.int .i64 x1,.int .i64 x2,.string x3,.slice A4 l4.length c4,.slice A5 l5.length c5,.slice A6 l6.length c6]] W fun e w'=>∃ A c,e=.returned (.tuple #[.slice A (pageF x0 x1 x2 x3 l4 l5 l6).1.length c,.int .i64 (pageF x0 x1 x2 x3 l4 l5 l6).2])∧(pageF x0 x1 x2 x3 l4 l5 l6).1.length≤c∧Kd.C (Kd.int .u8) w' A (pageF x0 x1 x2 x3 l4 l5 l6).1.length (pageF x0 x1 x2 x3 l4 l5 l6).1∧Kd.R (Kd.int .u8) 5 w' W.heap.size (fun _=>True) (.slice A (pageF x0 x1 x2 x3 l4 l5 l6).1.length c) (pageF x0 x1 x2 x3 l4 l5 l6).1∧Below W.heap.size W w':=by
 refine (encode_ok x0 x1 x2 x3 A4 c4 l4 A5 c5 l5 A6 c6 l6 W h.1.1 h.1.2 h.2.1.1 h.2.1.2 h.2.2.1 h.2.2.2 hl hv).mono ?_
 rintro e w' ⟨v0,rfl,hR,hB⟩
 obtain ⟨A,c,rfl,l7,k7⟩:=Kd.R_reads hR
 exact ⟨A,c,rfl,l7,k7,hR,hB⟩
end
theorem C_enc {α:Type} (enc:α→Value) (h1:∀ x,(enc x).oneCell'=true) (w:World) (xs:List α) (C:Array Value) (t:TypeId) (hC:C.toList=xs.map enc) (hl:xs.length≤9223372036854775807):Kd.C (Kd.scalar enc h1) (w.alloc (.cells C t)) (some ⟨w.heap.size,0,none⟩) xs.length xs:=by
 refine ⟨rfl,hl,fun _=>⟨_,rfl,fun j p hj=>⟨[enc p],rfl,rfl,fun i u hu=>?_⟩⟩⟩
 have hi:i=0:=by
  have:=(List.getElem?_eq_some_iff.1 hu).1
  simp at this
  omega
 subst hi
 have e1:j*(Kd.scalar enc h1).sz+0=j:=by show j*1+0=j;omega
 rw [e1]
 have hu2:enc p=u:=by simpa using hu
 subst hu2
 rw [show (⟨w.heap.size,0,none⟩:Addr).add j=⟨w.heap.size,j,none⟩ by simp [Addr.add];omega,World.cell?_alloc_mark,← Array.getElem?_toList,hC]
 simp [hj]
abbrev tA:ByteArray:=⟨#[97]⟩
abbrev tB:ByteArray:=⟨#[98]⟩
abbrev tX:ByteArray:=⟨#[120]⟩
theorem sp_node:nodeB 0 7 2 tB [tA] [tX] []=true:=by decide +kernel
theorem sp_size:page_Size.f 10 0 7 2 tB [tA] [tX] []=some 28:=by kernel_rfl
theorem sp_check:page_Check.f 10 1 0 0 ⟨#[]⟩ [] [] []=some 60:=by kernel_rfl
theorem sp_page:∃ xs,pageF 0 7 2 tB [tA] [tX] []=(xs,0)∧xs.length=256∧AllB xs:=by
 refine ⟨_,by unfold pageF;rw [if_pos sp_node],?_,?_⟩
 ·unfold sealB
  rw [List.length_append,le_length,padB_length (fit_of sp_node (by decide)).fbody]
 ·have h:=(pageF_ok 0 7 2 tB [tA] [tX] []).1
  unfold pageF at h
  rw [if_pos sp_node] at h
  exact h
theorem sp_res {w:World} {u:Value} (h:NdRes w u (0,7,2,tB,[tA],[tX],[])):∃ A4 c4 A5 c5 A6 c6,u=.agg #[.int .i64 0,.int .i64 7,.int .i64 2,.string tB,.slice A4 1 c4,.slice A5 1 c5,.slice A6 0 c6]∧NdC w A4 c4 [tA] A5 c5 [tX] A6 c6 []:=h.parts
theorem sp_boxed {w:World} {A4 A5 A6:Option Addr} {c4 c5 c6:Nat} (h:NdC w A4 c4 [tA] A5 c5 [tX] A6 c6 []):NdAt (w.alloc (.cells #[.int .i64 0,.int .i64 7,.int .i64 2,.string tB,.slice A4 1 c4,.slice A5 1 c5,.slice A6 0 c6] 25)) w.heap.size 0 7 2 tB (.slice A4 1 c4) (.slice A5 1 c5) (.slice A6 0 c6)∧NdC (w.alloc (.cells #[.int .i64 0,.int .i64 7,.int .i64 2,.string tB,.slice A4 1 c4,.slice A5 1 c5,.slice A6 0 c6] 25)) A4 c4 [tA] A5 c5 [tX] A6 c6 []:=h.boxed 0 7 2 tB
theorem sp_enc {W:World} {A4 A5 A6:Option Addr} {c4 c5 c6:Nat} (h:NdC W A4 c4 [tA] A5 c5 [tX] A6 c6 []) {xs:List Int} (hp:pageF 0 7 2 tB [tA] [tX] []=(xs,0)) (hl:xs.length=256) :
  Calls Try.prog 14 #[.agg #[.int .i64 0,.int .i64 7,.int .i64 2,.string tB,.slice A4 1 c4,.slice A5 1 c5,.slice A6 0 c6]] W fun e w'=>∃ A c,e=.returned (.tuple #[.slice A 256 c,.int .i64 0])∧256≤c∧Kd.C (Kd.int .u8) w' A 256 xs∧Below W.heap.size W w':=by
 have he:=enc_nd 0 7 2 tB h (by decide) (by decide)
 rw [hp,hl] at he
 refine he.mono ?_
 rintro e w' ⟨A,c,rfl,h1,h2,_,hB⟩
 exact ⟨A,c,rfl,h1,h2,hB⟩
theorem sp_same {W:World} {A4 A5 A6 B4 B5 B6:Option Addr} {c4 c5 c6 d4 d5 d6:Nat} (h:NdC W A4 c4 [tA] A5 c5 [tX] A6 c6 []) (h':NdC W B4 d4 [tA] B5 d5 [tX] B6 d6 []) :
  Calls Try.prog 18 #[.agg #[.int .i64 0,.int .i64 7,.int .i64 2,.string tB,.slice A4 1 c4,.slice A5 1 c5,.slice A6 0 c6],.agg #[.int .i64 0,.int .i64 7,.int .i64 2,.string tB,.slice B4 1 d4,.slice B5 1 d5,.slice B6 0 d6]] W fun e w'=>e=.returned (.bool true)∧Below W.heap.size W w':=by
 have e:=node_same 0 7 2 tB A4 c4 [tA] A5 c5 [tX] A6 c6 [] B4 d4 B5 d5 B6 d6 W h.1.1 h.2.1.1 h.2.2.1 h'.1.1 h'.2.1.1 h'.2.2.1
 exact e
theorem sp_sizes {W:World} {A4 A5 A6:Option Addr} {c4 c5 c6:Nat} (h:NdC W A4 c4 [tA] A5 c5 [tX] A6 c6 []) :
  Calls Try.prog 11 #[.agg #[.int .i64 0,.int .i64 7,.int .i64 2,.string tB,.slice A4 1 c4,.slice A5 1 c5,.slice A6 0 c6]] W fun e w'=>e=.returned (.int .i64 28)∧Below W.heap.size W w':=page_Size.calls 10 0 7 2 tB A4 c4 [tA] A5 c5 [tX] A6 c6 [] 28 W h.1.1 h.1.2 h.2.1.1 h.2.1.2 h.2.2.1 h.2.2.2 sp_size
theorem sp_checks (W:World) :
  Calls Try.prog 9 #[.agg #[.int .i64 1,.int .i64 0,.int .i64 0,.string ⟨#[]⟩,.slice none 0 0,.slice none 0 0,.slice none 0 0]] W fun e w'=>e=.returned (.int .i64 60)∧Below W.heap.size W w':=page_Check.calls 10 1 0 0 ⟨#[]⟩ none 0 [] none 0 [] none 0 [] 60 W (Kd.C_nil _ _) (by decide) (Kd.C_nil _ _) (by decide) (Kd.C_nil _ _) (by decide) sp_check
set_option maxHeartbeats 8000000 in
set_option maxRecDepth 100000 in
theorem speaks6_ok (w:World):Calls Try.prog 13 #[] w fun e w'=>e=.returned (.bool true)∧Below w.heap.size w w':=by
 obtain ⟨xs,hp,hl,hb⟩:=sp_page
 have hdec:=dec_enc (v:=(0,7,2,tB,[tA],[tX],[])) hp (by decide)
 have hs1:=size_alloc w (.cells #[.string tA] 9)
 have hk:=Kd.C_below (C_enc Value.string (fun _=>rfl) w [tA] #[.string tA] 9 rfl (by decide)) (below_alloc (Below.refl _ _) (.cells #[.string tX] 9))
 have hv:=C_enc Value.string (fun _=>rfl) (w.alloc (.cells #[.string tA] 9)) [tX] #[.string tX] 9 rfl (by decide)
 rw [hs1] at hv
 have hn:NdC ((w.alloc (.cells #[.string tA] 9)).alloc (.cells #[.string tX] 9)) (some ⟨w.heap.size,0,none⟩) 1 [tA] (some ⟨w.heap.size+1,0,none⟩) 1 [tX] none 0 []:=⟨⟨hk,by decide⟩,⟨hv,by decide⟩,⟨Kd.C_nil _ _,by decide⟩⟩
 have hn0:=sp_boxed hn
 have hs2:((w.alloc (.cells #[.string tA] 9)).alloc (.cells #[.string tX] 9)).heap.size=w.heap.size+1+1:=by rw [size_alloc,size_alloc]
 rw [hs2] at hn0
 have HB:=Aside0.mk (below_alloc (below_alloc (below_alloc (Below.refl w.heap.size w) (.cells #[.string tA] 9)) (.cells #[.string tX] 9)) (.cells #[.int .i64 0,.int .i64 7,.int .i64 2,.string tB,.slice (some ⟨w.heap.size,0,none⟩) 1 1,.slice (some ⟨w.heap.size+1,0,none⟩) 1 1,.slice none 0 0] 25))
 have hen:=sp_enc hn0.2 hp hl
 have HN:=Aside0.mk hn0
 have HDEC:=Aside0.mk hdec
 have HL:=Aside0.mk hl
 have HAB:=Aside0.mk hb
 clear hs1 hs2 hk hv hn hn0 hdec hl hb hp
 go_enter Try.func13,Try.ntmps13
 go_wp2_with (first
  | (go_at_call 14;(with_reducible refine hen.mono ?_);rintro e w2 ⟨A,c,rfl,h1,h2,hB⟩;(replace HN:=Aside0.mk (And.intro (HN.out.1.below hB) (HN.out.2.below hB)));obtain ⟨⟨b0,b1,b2,b3,b4,b5,b6⟩,_⟩:=HN.out.1.cells;(have ltn:=HN.out.1.lt);(replace HB:=Aside0.mk (below_same HB.out hB));(have hde:=decode_ok A c xs w2 (by rw [HL.out];exact h2) (by rw [HL.out];exact h1) HAB.out);rw [HL.out,HDEC.out] at hde;clear h1 h2 hB hen)
  | (go_at_call 16;(with_reducible refine hde.mono ?_);rintro e w3 ⟨u,rfl,hr,hB⟩;obtain ⟨A4,c4,A5,c5,A6,c6,rfl,hc⟩:=sp_res hr;clear b0 b1 b2 b3 b4 b5 b6;(have HM:=Aside0.mk (sp_boxed hc));(have hBn:=below_alloc (Below.refl w3.heap.size w3) (.cells #[.int .i64 0,.int .i64 7,.int .i64 2,.string tB,.slice A4 1 c4,.slice A5 1 c5,.slice A6 0 c6] 25));(replace HN:=Aside0.mk (And.intro ((HN.out.1.below hB).below hBn) ((HN.out.2.below hB).below hBn)));obtain ⟨⟨b0,b1,b2,b3,b4,b5,b6⟩,_⟩:=HN.out.1.cells;obtain ⟨⟨d0,d1,d2,d3,d4,d5,d6⟩,_⟩:=HM.out.1.cells;(have ltm:=HM.out.1.lt);(replace HB:=Aside0.mk (below_next HB.out hB (.cells #[.int .i64 0,.int .i64 7,.int .i64 2,.string tB,.slice A4 1 c4,.slice A5 1 c5,.slice A6 0 c6] 25)));(have hsm:=sp_same HM.out.2 HN.out.2);clear hr hc hB hde hBn)
  | (go_at_call 18;(with_reducible refine hsm.mono ?_);rintro e w4 ⟨rfl,hB⟩;clear b0 b1 b2 b3 b4 b5 b6;clear d0 d1 d2 d3 d4 d5 d6;(replace HN:=Aside0.mk (And.intro (HN.out.1.below hB) (HN.out.2.below hB)));obtain ⟨⟨b0,b1,b2,b3,b4,b5,b6⟩,_⟩:=HN.out.1.cells;(replace HB:=Aside0.mk (below_same HB.out hB));(have hsz:=sp_sizes HN.out.2);clear hB hsm)
  | (go_at_call 11;(with_reducible refine hsz.mono ?_);rintro e w5 ⟨rfl,hB⟩;clear b0 b1 b2 b3 b4 b5 b6;(replace HB:=Aside0.mk (below_same HB.out hB));(have hck:=sp_checks w5);clear hB hsz)
  | (go_at_call 9;(with_reducible refine hck.mono ?_);rintro e w6 ⟨rfl,hB⟩;(replace HB:=Aside0.mk (below_same HB.out hB));clear hB hck))
 go_ret
 exact ⟨rfl,HB.out⟩
end Go.Proofs.Ythfhkcicpfnedaa.Page
