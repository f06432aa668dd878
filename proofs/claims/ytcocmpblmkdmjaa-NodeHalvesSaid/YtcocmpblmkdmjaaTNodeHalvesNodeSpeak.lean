-- A part of the text NodeSpeak, thinned by a program of this session.
import Derived.Test.YtcocmpblmkdmjaaTNodeHalvesNodeRest
import Derived.Test.YtcocmpblmkdmjaaTNodeHalvesPrx4
import Derived.Test.YtcocmpblmkdmjaaTNodeHalvesPrx15
namespace Go.Proofs.Ytcocmpblmkdmjaa.Pr
open Go.RowKit Go.Proofs.YtcocmpblmkdmjaaW.PrintWords Go.Proofs.YtcocmpblmkdmjaaW.PrintLast Go.Proofs.YtcocmpblmkdmjaaW.PrintMore
set_option linter.unusedVariables false
set_option linter.unusedSimpArgs false
abbrev tA:ByteArray:=⟨#[97]⟩
abbrev tB:ByteArray:=⟨#[98]⟩
abbrev tC:ByteArray:=⟨#[99]⟩
abbrev tD:ByteArray:=⟨#[100]⟩
abbrev tM:ByteArray:=⟨#[109]⟩
abbrev t1:ByteArray:=⟨#[49]⟩
abbrev t2:ByteArray:=⟨#[50]⟩
abbrev t3:ByteArray:=⟨#[51]⟩
abbrev t4:ByteArray:=⟨#[52]⟩
abbrev t0:ByteArray:=⟨#[]⟩
theorem sp_split:node_Split.f 30 0 0 0 t0 [tA,tB,tC,tD] [t1,t2,t3,t4] []=some (tC,0):=by kernel_rfl
theorem sp_left:leftG 30 0 0 0 t0 [tA,tB,tC,tD] [t1,t2,t3,t4] [] tC 9=some (0,0,9,tC,[tA,tB],[t1,t2],[],0):=by kernel_rfl
theorem sp_parted:node_parted.f 30 0 0 0 t0 [tA,tB,tC,tD] [t1,t2,t3,t4] [] tC 1=some (2,0):=by kernel_rfl
theorem sp_kid:node_Kid.f 30 1 0 0 t0 [tM] [] [1,2] tM=some (2,0):=by kernel_rfl
theorem C_enc {α:Type} (enc:α→Value) (h1:∀ x,(enc x).oneCell'=true) (w:World) (xs:List α) (C:Array Value) (t:TypeId) (hC:C.toList=xs.map enc) (hl:xs.length≤9223372036854775807):Kd.C (Kd.scalar enc h1) (w.alloc (.cells C t)) (some ⟨w.heap.size,0,none⟩) xs.length xs:=by
 refine ⟨rfl,hl,fun _=>⟨_,rfl,fun j p hj=>⟨[enc p],rfl,rfl,fun i u hu=>?_⟩⟩⟩
 have hi:i=0:=by
  have:=(List.getElem?_eq_some_iff.1 hu).1
  simp at this
  omega
 subst hi
 have e1:j*(Kd.scalar enc h1).sz+0=j:=by show j*1+0=j;omega
 rw [e1]
 have hu2:enc p=u:=by simpa using hu
 subst hu2
 rw [show (⟨w.heap.size,0,none⟩:Addr).add j=⟨w.heap.size,j,none⟩ by simp [Addr.add];omega,World.cell?_alloc_mark,← Array.getElem?_toList,hC]
 simp [hj]
theorem CS_two {α:Type} {d:Kd α} {w:World} {v:Value} {x y:α} (h:CS d w v [x,y]):∃ A c,v=.slice A 2 c∧2≤c∧Kd.C d w A 2 [x,y]:=h
theorem CS_zero {α:Type} {d:Kd α} {w:World} {v:Value} (h:CS d w v []):∃ A c,v=.slice A 0 c:=by
 obtain ⟨A,c,e,_⟩:=h
 exact ⟨A,c,e⟩
set_option maxHeartbeats 8000000 in
set_option maxRecDepth 100000 in
theorem speaks7_ok (w:World):Calls Try.prog 17 #[] w fun e w'=>e=.returned (.bool true)∧Below w.heap.size w w':=by
 have hs1:(w.alloc (.cells #[.string tA,.string tB,.string tC,.string tD] 9)).heap.size=w.heap.size+1:=by
  show (w.heap.push _).size=_
  simp
 have hs2:((w.alloc (.cells #[.string tA,.string tB,.string tC,.string tD] 9)).alloc (.cells #[.string t1,.string t2,.string t3,.string t4] 9)).heap.size=w.heap.size+2:=by
  show ((w.heap.push _).push _).size=_
  simp
 have hk:Kd.C Kd.string (((w.alloc (.cells #[.string tA,.string tB,.string tC,.string tD] 9)).alloc (.cells #[.string t1,.string t2,.string t3,.string t4] 9)).alloc (.cells #[.int .i64 0,.int .i64 0,.int .i64 0,.string t0,.slice (some ⟨w.heap.size,0,none⟩) 4 4,.slice (some ⟨w.heap.size+1,0,none⟩) 4 4,.slice none 0 0] 25)) (some ⟨w.heap.size,0,none⟩) 4 [tA,tB,tC,tD]:=Kd.C_below (Kd.C_below (C_enc Value.string (fun _=>rfl) w [tA,tB,tC,tD] #[.string tA,.string tB,.string tC,.string tD] 9 rfl (by decide)) (below_alloc (Below.refl _ _) _)) (below_alloc (Below.refl _ _) _)
 have hv0:=Kd.C_below (C_enc Value.string (fun _=>rfl) (w.alloc (.cells #[.string tA,.string tB,.string tC,.string tD] 9)) [t1,t2,t3,t4] #[.string t1,.string t2,.string t3,.string t4] 9 rfl (by decide)) (below_alloc (Below.refl _ _) (.cells #[.int .i64 0,.int .i64 0,.int .i64 0,.string t0,.slice (some ⟨w.heap.size,0,none⟩) 4 4,.slice (some ⟨w.heap.size+1,0,none⟩) 4 4,.slice none 0 0] 25))
 rw [hs1] at hv0
 have hv:Kd.C Kd.string (((w.alloc (.cells #[.string tA,.string tB,.string tC,.string tD] 9)).alloc (.cells #[.string t1,.string t2,.string t3,.string t4] 9)).alloc (.cells #[.int .i64 0,.int .i64 0,.int .i64 0,.string t0,.slice (some ⟨w.heap.size,0,none⟩) 4 4,.slice (some ⟨w.heap.size+1,0,none⟩) 4 4,.slice none 0 0] 25)) (some ⟨w.heap.size+1,0,none⟩) 4 [t1,t2,t3,t4]:=hv0
 have hi:∀ W:World,Kd.C (Kd.int .i64) W none ([]:List Int).length []:=fun W=>Kd.C_nil _ _
 have hn:NdAt (((w.alloc (.cells #[.string tA,.string tB,.string tC,.string tD] 9)).alloc (.cells #[.string t1,.string t2,.string t3,.string t4] 9)).alloc (.cells #[.int .i64 0,.int .i64 0,.int .i64 0,.string t0,.slice (some ⟨w.heap.size,0,none⟩) 4 4,.slice (some ⟨w.heap.size+1,0,none⟩) 4 4,.slice none 0 0] 25)) (w.heap.size+2) 0 0 0 t0 (.slice (some ⟨w.heap.size,0,none⟩) 4 4) (.slice (some ⟨w.heap.size+1,0,none⟩) 4 4) (.slice none 0 0):=by
  rw [← hs2]
  exact blk_newN _ _
 have HN:=Aside0.mk hn
 have HB0:Aside0 (Below w.heap.size w (((w.alloc (.cells #[.string tA,.string tB,.string tC,.string tD] 9)).alloc (.cells #[.string t1,.string t2,.string t3,.string t4] 9)).alloc (.cells #[.int .i64 0,.int .i64 0,.int .i64 0,.string t0,.slice (some ⟨w.heap.size,0,none⟩) 4 4,.slice (some ⟨w.heap.size+1,0,none⟩) 4 4,.slice none 0 0] 25))):=⟨below_alloc (below_alloc (below_alloc (Below.refl _ _) _) _) _⟩
 have hsp:=node_Split.calls 30 0 0 0 t0 (some ⟨w.heap.size,0,none⟩) 4 [tA,tB,tC,tD] (some ⟨w.heap.size+1,0,none⟩) 4 [t1,t2,t3,t4] none 0 [] tC 0 (((w.alloc (.cells #[.string tA,.string tB,.string tC,.string tD] 9)).alloc (.cells #[.string t1,.string t2,.string t3,.string t4] 9)).alloc (.cells #[.int .i64 0,.int .i64 0,.int .i64 0,.string t0,.slice (some ⟨w.heap.size,0,none⟩) 4 4,.slice (some ⟨w.heap.size+1,0,none⟩) 4 4,.slice none 0 0] 25)) hk (by decide) hv (by decide) (hi _) (by decide) sp_split
 have HLF:=Aside0.mk (fun W (hB:Below (((w.alloc (.cells #[.string tA,.string tB,.string tC,.string tD] 9)).alloc (.cells #[.string t1,.string t2,.string t3,.string t4] 9)).alloc (.cells #[.int .i64 0,.int .i64 0,.int .i64 0,.string t0,.slice (some ⟨w.heap.size,0,none⟩) 4 4,.slice (some ⟨w.heap.size+1,0,none⟩) 4 4,.slice none 0 0] 25)).heap.size (((w.alloc (.cells #[.string tA,.string tB,.string tC,.string tD] 9)).alloc (.cells #[.string t1,.string t2,.string t3,.string t4] 9)).alloc (.cells #[.int .i64 0,.int .i64 0,.int .i64 0,.string t0,.slice (some ⟨w.heap.size,0,none⟩) 4 4,.slice (some ⟨w.heap.size+1,0,none⟩) 4 4,.slice none 0 0] 25)) W)=>left_calls 30 0 0 0 t0 (some ⟨w.heap.size,0,none⟩) 4 [tA,tB,tC,tD] (some ⟨w.heap.size+1,0,none⟩) 4 [t1,t2,t3,t4] none 0 [] tC 9 0 0 9 tC [tA,tB] [t1,t2] [] 0 W (Kd.C_below hk hB) (by decide) (Kd.C_below hv hB) (by decide) (hi _) (by decide) sp_left)
 have HRS:Aside0 (∀ W,Below (((w.alloc (.cells #[.string tA,.string tB,.string tC,.string tD] 9)).alloc (.cells #[.string t1,.string t2,.string t3,.string t4] 9)).alloc (.cells #[.int .i64 0,.int .i64 0,.int .i64 0,.string t0,.slice (some ⟨w.heap.size,0,none⟩) 4 4,.slice (some ⟨w.heap.size+1,0,none⟩) 4 4,.slice none 0 0] 25)).heap.size (((w.alloc (.cells #[.string tA,.string tB,.string tC,.string tD] 9)).alloc (.cells #[.string t1,.string t2,.string t3,.string t4] 9)).alloc (.cells #[.int .i64 0,.int .i64 0,.int .i64 0,.string t0,.slice (some ⟨w.heap.size,0,none⟩) 4 4,.slice (some ⟨w.heap.size+1,0,none⟩) 4 4,.slice none 0 0] 25)) W→Calls Try.prog 14 #[.agg #[.int .i64 0,.int .i64 0,.int .i64 0,.string t0,.slice (some ⟨w.heap.size,0,none⟩) 4 4,.slice (some ⟨w.heap.size+1,0,none⟩) 4 4,.slice none 0 0],.string tC] W fun e w'=>∃ v4 v5 v6:Value,e=.returned (.tuple #[.agg #[.int .i64 0,.int .i64 0,.int .i64 0,.string t0,v4,v5,v6],.int .i64 0])∧CS Kd.string w' v4 [tC,tD]∧CS Kd.string w' v5 [t3,t4]∧CS (Kd.int .i64) w' v6 []∧Below W.heap.size W w'):=⟨fun W hB=>rest_leaf 30 0 0 0 t0 (some ⟨w.heap.size,0,none⟩) 4 [tA,tB,tC,tD] (some ⟨w.heap.size+1,0,none⟩) 4 [t1,t2,t3,t4] none 0 [] tC 2 W (Kd.C_below hk hB) (by decide) (Kd.C_below hv hB) (by decide) (hi _) (by decide) sp_parted (by decide) (by decide) (by decide) (by decide) (by decide) (by decide) (by decide)⟩
 have HKD:=Aside0.mk (fun (W:World) (g:Nat) (hk:Kd.C Kd.string W (some ⟨g,0,none⟩) 1 [tM]) (hi:Kd.C (Kd.int .i64) W (some ⟨g+1,0,none⟩) 2 [1,2])=>node_Kid.calls 30 1 0 0 t0 (some ⟨g,0,none⟩) 1 [tM] none 0 [] (some ⟨g+1,0,none⟩) 2 [1,2] tM 2 0 W hk (by decide) (Kd.C_nil _ _) (by decide) hi (by decide) sp_kid)
 clear hs1 hs2 hk hv0 hv hi hn
 go_enter Try.func17,Try.ntmps17
 go_wp2_with (first
  | (go_at_call 10;refine hsp.mono ?_;rintro r w2 ⟨rfl,hB2⟩;(have hn2:=HN.out.below hB2);obtain ⟨⟨b0,b1,b2,b3,b4,b5,b6⟩,_⟩:=hn2.cells;(have l2:=hn2.lt);(have HN2:=Aside0.mk hn2);(have HB2:=Aside0.mk hB2);(have hlf:=HLF.out w2 hB2);clear hB2 hn2 hsp)
  | (go_at_call 12;refine hlf.mono ?_;rintro r w3 ⟨v4,v5,v6,rfl,h4,h5,h6,hB3⟩;obtain ⟨L4,lc4,rfl,_,_⟩:=CS_two h4;obtain ⟨L5,lc5,rfl,_,_⟩:=CS_two h5;obtain ⟨L6,lc6,rfl⟩:=CS_zero h6;(have hn3:=(HN2.out.below hB3).below (below_alloc (Below.refl _ _) (.cells #[.int .i64 0,.int .i64 0,.int .i64 9,.string tC,.slice L4 2 lc4,.slice L5 2 lc5,.slice L6 0 lc6] 25)));clear b0 b1 b2 b3 b4 b5 b6 l2;obtain ⟨⟨b0,b1,b2,b3,b4,b5,b6⟩,_⟩:=(HN2.out.below hB3).cells;(have l2:=(HN2.out.below hB3).lt);(have HL3:Aside0 (NdAt (w3.alloc (.cells #[.int .i64 0,.int .i64 0,.int .i64 9,.string tC,.slice L4 2 lc4,.slice L5 2 lc5,.slice L6 0 lc6] 25)) w3.heap.size 0 0 9 tC (.slice L4 2 lc4) (.slice L5 2 lc5) (.slice L6 0 lc6)):=⟨blk_newN _ _⟩);(have hB03:=(below_from2 HB2.out (Nat.le_refl _) hB3).alloc (below_from2 HB2.out (Nat.le_refl _) hB3).size (.cells #[.int .i64 0,.int .i64 0,.int .i64 9,.string tC,.slice L4 2 lc4,.slice L5 2 lc5,.slice L6 0 lc6] 25));(have HB3:=Aside0.mk hB03);(have hrs:=HRS.out _ hB03);clear hB3 hn3 h4 h5 h6 hB03 hlf)
  | (go_at_call 14;refine hrs.mono ?_;rintro r w5 ⟨v4,v5,v6,rfl,h4,h5,h6,hB5⟩;obtain ⟨R4,rc4,rfl,_,_⟩:=CS_two h4;obtain ⟨R5,rc5,rfl,hrc5,hC5⟩:=CS_two h5;obtain ⟨R6,rc6,rfl⟩:=CS_zero h6;clear b0 b1 b2 b3 b4 b5 b6 l2;(have hW5:(w5.alloc (.cells #[.int .i64 0,.int .i64 0,.int .i64 0,.string t0,.slice R4 2 rc4,.slice R5 2 rc5,.slice R6 0 rc6] 25)).heap.size=w5.heap.size+1:=by (show (w5.heap.push _).size=_;simp));(have HL6:Aside0 (NdAt (((w5.alloc (.cells #[.int .i64 0,.int .i64 0,.int .i64 0,.string t0,.slice R4 2 rc4,.slice R5 2 rc5,.slice R6 0 rc6] 25)).alloc (.cells #[.string tM] 9)).alloc (.cells #[.int .i64 1,.int .i64 2] 3)) w3.heap.size 0 0 9 tC (.slice L4 2 lc4) (.slice L5 2 lc5) (.slice L6 0 lc6)):=⟨(((HL3.out.below hB5).below (below_alloc (Below.refl _ _) _)).below (below_alloc (Below.refl _ _) _)).below (below_alloc (Below.refl _ _) _)⟩);(have HR6:Aside0 (NdAt (((w5.alloc (.cells #[.int .i64 0,.int .i64 0,.int .i64 0,.string t0,.slice R4 2 rc4,.slice R5 2 rc5,.slice R6 0 rc6] 25)).alloc (.cells #[.string tM] 9)).alloc (.cells #[.int .i64 1,.int .i64 2] 3)) w5.heap.size 0 0 0 t0 (.slice R4 2 rc4) (.slice R5 2 rc5) (.slice R6 0 rc6)):=⟨((NdAt.below (blk_newN w5 (.cells #[.int .i64 0,.int .i64 0,.int .i64 0,.string t0,.slice R4 2 rc4,.slice R5 2 rc5,.slice R6 0 rc6] 25)) (below_alloc (Below.refl _ _) _)).below (below_alloc (Below.refl _ _) _))⟩);(have HC6:Aside0 (Kd.C Kd.string (((w5.alloc (.cells #[.int .i64 0,.int .i64 0,.int .i64 0,.string t0,.slice R4 2 rc4,.slice R5 2 rc5,.slice R6 0 rc6] 25)).alloc (.cells #[.string tM] 9)).alloc (.cells #[.int .i64 1,.int .i64 2] 3)) R5 2 [t3,t4]):=⟨Kd.C_below (Kd.C_below (Kd.C_below hC5 (below_alloc (Below.refl _ _) _)) (below_alloc (Below.refl _ _) _)) (below_alloc (Below.refl _ _) _)⟩);(have hm0:=Kd.C_below (C_enc Value.string (fun _=>rfl) (w5.alloc (.cells #[.int .i64 0,.int .i64 0,.int .i64 0,.string t0,.slice R4 2 rc4,.slice R5 2 rc5,.slice R6 0 rc6] 25)) [tM] #[.string tM] 9 rfl (by decide)) (below_alloc (Below.refl _ _) (.cells #[.int .i64 1,.int .i64 2] 3)));(have hi0:=C_enc (Value.int .i64) (fun _=>rfl) ((w5.alloc (.cells #[.int .i64 0,.int .i64 0,.int .i64 0,.string t0,.slice R4 2 rc4,.slice R5 2 rc5,.slice R6 0 rc6] 25)).alloc (.cells #[.string tM] 9)) [1,2] #[.int .i64 1,.int .i64 2] 3 rfl (by decide));(have hW6:((w5.alloc (.cells #[.int .i64 0,.int .i64 0,.int .i64 0,.string t0,.slice R4 2 rc4,.slice R5 2 rc5,.slice R6 0 rc6] 25)).alloc (.cells #[.string tM] 9)).heap.size=w5.heap.size+1+1:=by (show ((w5.heap.push _).push _).size=_;simp));rw [hW5] at hm0;rw [hW6] at hi0;(have hkd:=HKD.out _ _ hm0 hi0);(have HB6:Aside0 (Below w.heap.size w (((w5.alloc (.cells #[.int .i64 0,.int .i64 0,.int .i64 0,.string t0,.slice R4 2 rc4,.slice R5 2 rc5,.slice R6 0 rc6] 25)).alloc (.cells #[.string tM] 9)).alloc (.cells #[.int .i64 1,.int .i64 2] 3))):=⟨(((below_from2 HB0.out (Nat.le_refl _) (below_from2 HB3.out (Nat.le_refl _) hB5)).alloc (below_from2 HB0.out (Nat.le_refl _) (below_from2 HB3.out (Nat.le_refl _) hB5)).size _).alloc ((below_from2 HB0.out (Nat.le_refl _) (below_from2 HB3.out (Nat.le_refl _) hB5)).alloc (below_from2 HB0.out (Nat.le_refl _) (below_from2 HB3.out (Nat.le_refl _) hB5)).size _).size _).alloc (((below_from2 HB0.out (Nat.le_refl _) (below_from2 HB3.out (Nat.le_refl _) hB5)).alloc (below_from2 HB0.out (Nat.le_refl _) (below_from2 HB3.out (Nat.le_refl _) hB5)).size _).alloc ((below_from2 HB0.out (Nat.le_refl _) (below_from2 HB3.out (Nat.le_refl _) hB5)).alloc (below_from2 HB0.out (Nat.le_refl _) (below_from2 HB3.out (Nat.le_refl _) hB5)).size _).size _).size _⟩);clear hB5 h4 h5 h6 hC5 hm0 hi0 hW5 hW6 hrs hrc5)
  | (go_at_call 20;refine hkd.mono ?_;rintro r w7 ⟨rfl,hB7⟩;(have hl7:=HL6.out.below hB7);(have hr7:=HR6.out.below hB7);obtain ⟨⟨b0,b1,b2,b3,b4,b5,b6⟩,_⟩:=hl7.cells;obtain ⟨⟨c0,c1,c2,c3,c4,c5,c6⟩,_⟩:=hr7.cells;(have l1:=hl7.lt);(have l2:=hr7.lt);obtain ⟨ad,rfl,hx⟩:=Kd.at_string (Kd.C_below HC6.out hB7) (0:Int) (by decide) (by decide);(have hx2:w7.cell? (ad.add 0)=some (.string t3):=hx);rw [Addr.add_zero'] at hx2;obtain ⟨ab,ao,aa⟩:=ad;(have HB7:=Aside0.mk (below_from2 HB6.out (Nat.le_refl _) hB7));clear hB7 hl7 hr7 hx hkd))
 go_ret
 exact ⟨rfl,HB7.out⟩
end Go.Proofs.Ytcocmpblmkdmjaa.Pr
