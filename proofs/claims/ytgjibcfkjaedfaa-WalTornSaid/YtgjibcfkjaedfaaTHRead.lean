-- A part of the text Read, thinned by a program of this session.
import Derived.Test.YtgjibcfkjaedfaaTHWire
import Derived.Test.YtgjibcfkjaedfaaTHBack
import Derived.Test.YtgjibcfkjaedfaaTHWRest
import Derived.Outline
import Derived.Deep.RegionHeld3
namespace Go.Proofs.Ytgjibcfkjaedfaa.Wire
open Go.RowKit Go.Proofs.YtgjibcfkjaedfaaW.PrintWords Go.Proofs.YtgjibcfkjaedfaaW.PrintLast Go.Proofs.YtgjibcfkjaedfaaW.PrintMore
open Go.Proofs.Ytgjibcfkjaedfaa.Back (numB number_ok)
set_option linter.unusedVariables false
set_option linter.unusedSimpArgs false
theorem Chg.kept {w w1:World} {S:Nat→Prop} (h:Chg w w1 S):Kept w w1 S:=⟨h.size,h.block⟩
theorem C_chg {k:IntKind} {w w1:World} {S:Nat→Prop} {A:Option Addr} {n:Nat} {xs:List Int} (h:Kd.C (Kd.int k) w A n xs) (hc:Chg w w1 S) (hn:∀ ad,A=some ad→0 < n→¬ S ad.block):Kd.C (Kd.int k) w1 A n xs :=
 Kd.C_foot_neS (d:=Kd.int k) (fun h=>h) h hn w1 hc.kept
def At (g:Nat):Nat→Prop:=fun k=>k=g
def RdT (T:TypeId) (w:World) (g:Nat) (xs:List Int) (wrong:Int) (F:Nat→Prop):Prop :=
 ∃ A c,w.heap[g]?=some (.cells #[.slice A xs.length c,.int .i64 wrong] T (0,0))∧xs.length≤c∧Kd.C (Kd.int .u8) w A xs.length xs∧(∀ ad,A=some ad→0 < xs.length→F ad.block∧ad.block≠g)∧F g∧∀ k,F k→k < w.heap.size
theorem RdT.chg {T:TypeId} {w w1:World} {g:Nat} {xs:List Int} {wrong:Int} {F S:Nat→Prop} (h:RdT T w g xs wrong F) (hc:Chg w w1 S) (hn:∀ k,F k→¬ S k):RdT T w1 g xs wrong F:=by
 obtain ⟨A,c,h1,h2,h3,h4,h5,h6⟩:=h
 exact ⟨A,c,hc.blk h1 (hn g h5),h2,C_chg h3 hc (fun ad e h0=>hn _ (h4 ad e h0).1),h4,h5,fun k hk=>Nat.lt_of_lt_of_le (h6 k hk) hc.size⟩
theorem RdT.below {T:TypeId} {w w1:World} {g:Nat} {xs:List Int} {wrong:Int} {F:Nat→Prop} (h:RdT T w g xs wrong F) (hc:Below w.heap.size w w1):RdT T w1 g xs wrong F:=h.chg (Chg.of_below hc (fun _=>False)) (fun _ _ hk=>hk)
theorem RdT.mine {T:TypeId} {w:World} {g:Nat} {xs:List Int} {wrong:Int} {F:Nat→Prop} (h:RdT T w g xs wrong F):F g:=by
 obtain ⟨_,_,_,_,_,_,h5,_⟩:=h
 exact h5
abbrev RdAt:=RdT 153
theorem two_cells {w:World} {b:Nat} {u v:Value} {t:TypeId} (h:w.heap[b]?=some (.cells #[u,v] t (0,0))):w.cell? ⟨b,0,none⟩=some u∧w.cell? ⟨b,1,none⟩=some v∧w.frozen? ⟨b,0,none⟩=false∧w.frozen? ⟨b,1,none⟩=false:=by
 simp [World.cell?,World.frozen?,h]
theorem two_set0 {w:World} {b:Nat} {u v x:Value} {t:TypeId} (h:w.heap[b]?=some (.cells #[u,v] t (0,0))):(w.setCell ⟨b,0,none⟩ x).heap[b]?=some (.cells #[x,v] t (0,0)):=by
 have hlt:=lt_of_block h
 have h':w.heap[b]=.cells #[u,v] t (0,0):=by simpa [Array.getElem?_eq_getElem hlt] using h
 show (w.heap.modify b _)[b]?=_
 rw [Array.getElem?_eq_getElem (by simpa using hlt),Array.getElem_modify_self,h']
 rfl
theorem two_set1 {w:World} {b:Nat} {u v x:Value} {t:TypeId} (h:w.heap[b]?=some (.cells #[u,v] t (0,0))):(w.setCell ⟨b,1,none⟩ x).heap[b]?=some (.cells #[u,x] t (0,0)):=by
 have hlt:=lt_of_block h
 have h':w.heap[b]=.cells #[u,v] t (0,0):=by simpa [Array.getElem?_eq_getElem hlt] using h
 show (w.heap.modify b _)[b]?=_
 rw [Array.getElem?_eq_getElem (by simpa using hlt),Array.getElem_modify_self,h']
 rfl
theorem rd_wrong {T:TypeId} {w:World} {g:Nat} {xs:List Int} {wrong:Int} {F:Nat→Prop} (h:RdT T w g xs wrong F) (e:Int):RdT T (w.setCell ⟨g,1,none⟩ (.int .i64 e)) g xs e F∧Chg w (w.setCell ⟨g,1,none⟩ (.int .i64 e)) (At g):=by
 obtain ⟨A,c,h1,h2,h3,h4,h5,h6⟩:=h
 have hc:=Chg.setCell w ⟨g,1,none⟩ (.int .i64 e)
 refine ⟨⟨A,c,two_set1 h1,h2,C_chg h3 hc (fun ad ea h0 hk=>(h4 ad ea h0).2 hk),h4,h5,fun k hk=>Nat.lt_of_lt_of_le (h6 k hk) hc.size⟩,hc⟩
theorem rd_drop {T:TypeId} {w:World} {g:Nat} {xs:List Int} {wrong:Int} {F:Nat→Prop} {A:Option Addr} {c m:Nat} (h1:w.heap[g]?=some (.cells #[.slice A xs.length c,.int .i64 wrong] T (0,0))) (h2:xs.length≤c) (h3:Kd.C (Kd.int .u8) w A xs.length xs)
  (h4:∀ ad,A=some ad→0 < xs.length→F ad.block∧ad.block≠g) (h5:F g) (h6:∀ k,F k→k < w.heap.size) (hm:m≤xs.length) (hm0:0 < m) :
  RdT T (w.setCell ⟨g,0,none⟩ (.slice (if c=m then A else A.map (·.add m)) (xs.length - m) (c - m))) g (xs.drop m) wrong F∧Chg w (w.setCell ⟨g,0,none⟩ (.slice (if c=m then A else A.map (·.add m)) (xs.length - m) (c - m))) (At g):=by
 have hc:=Chg.setCell w ⟨g,0,none⟩ (.slice (if c=m then A else A.map (·.add m)) (xs.length - m) (c - m))
 have hd:=Kd.C_drop h3 hm h2
 have e1:m*(Kd.int IntKind.u8).sz=m:=Nat.mul_one m
 rw [e1] at hd
 have hne:∀ ad,(if c=m then A else A.map (·.add m))=some ad→0 < (xs.drop m).length→F ad.block∧ad.block≠g:=by
  intro ad e h0
  rw [List.length_drop] at h0
  split at e
  ·exact h4 ad e (by omega)
  ·cases A with
   | none=>cases e
   | some a =>
    injection e with e
    subst e
    have:=h4 a rfl (by omega)
    rw [add_block]
    exact this
 refine ⟨⟨_,c - m,?_,?_,C_chg hd hc (fun ad e h0 hk=>(hne ad e h0).2 hk),hne,h5,fun k hk=>Nat.lt_of_lt_of_le (h6 k hk) hc.size⟩,hc⟩
 ·rw [List.length_drop];exact two_set0 h1
 ·rw [List.length_drop];omega
def rdNum (xs:List Int) (wrong size:Int):(Int×Int)×(List Int×Int) :=
 if sizedB size=false then ((0,1),(xs,wrong))
 else if wrong≠0 then ((0,wrong),(xs,wrong))
 else if (xs.length:Int) < size then ((0,10),(xs,10))
 else if numB (xs.take size.toNat) < 0 then ((0,1),(xs,1))
 else ((numB (xs.take size.toNat),0),(xs.drop size.toNat,0))
theorem fail_ok (g:Nat) (e:Int) (w:World) {v:Value} (hc1:w.cell? ⟨g,1,none⟩=some v) (hf1:w.frozen? ⟨g,1,none⟩=false) :
  Calls Try.prog 96 #[.pointer (some ⟨g,0,none⟩),.int .i64 e] w fun e' w'=>e'=.returned (.int .i64 e)∧w'=w.setCell ⟨g,1,none⟩ (.int .i64 e):=by
 go_enter Try.func96,Try.ntmps96
 go_wp2
 go_ret
 exact ⟨rfl,rfl⟩
set_option maxHeartbeats 4000000 in
theorem rdnum_ok (g:Nat) (xs:List Int) (wrong size:Int) (F:Nat→Prop) (w:World) (hr:RdAt w g xs wrong F) (hl:xs.length≤140737488355328) :
  Calls Try.prog 97 #[.pointer (some ⟨g,0,none⟩),.int .i64 size] w fun e w'=>e=.returned (.tuple #[.int .i64 (rdNum xs wrong size).1.1,.int .i64 (rdNum xs wrong size).1.2])∧RdAt w' g (rdNum xs wrong size).2.1 (rdNum xs wrong size).2.2 F∧Chg w w' (At g):=by
 have hcall:=fun W=>sized_any size W
 unfold rdNum
 cases hs:sizedB size with
 | false =>
  rw [if_pos rfl]
  rw [hs] at hcall
  have HR:=Aside0.mk hr
  clear hr hs
  go_enter Try.func97,Try.ntmps97
  go_wp2_with (go_at_call 93;refine (hcall _).mono ?_;rintro e w' ⟨rfl,⟨nd,rfl⟩⟩)
  go_ret2
  exact ⟨rfl,HR.out.chg ((Chg.refl w (fun _=>False)).drewN _) (fun _ _ h=>h),(Chg.refl _ _).drewN _⟩
 | true =>
  rw [if_neg (by decide)]
  rw [hs] at hcall
  have hs0:1≤size∧size≤8:=by
   have:=of_decide_eq_true hs
   omega
  obtain ⟨s,hsz⟩:∃ s:Nat,size=s:=⟨size.toNat,by omega⟩
  subst hsz
  rw [Int.toNat_natCast]
  obtain ⟨A,c,h1,h2,h3,h4,h5,h6⟩:=hr
  obtain ⟨hc0,hc1,hf0,hf1⟩:=two_cells h1
  have hgl:=blk_lt h1
  by_cases hw:wrong=0
  ·rw [if_neg (by omega)]
   subst hw
   by_cases hlt:(xs.length:Int) < s
   ·rw [if_pos hlt]
    have HR:=Aside0.mk (rd_wrong ⟨A,c,h1,h2,h3,h4,h5,h6⟩ 10)
    have hltN:xs.length < s:=by omega
    have d1:decide ((xs.length:Int) < (s:Int))=true:=decide_eq_true hlt
    have d2:decide (xs.length < s)=true:=decide_eq_true hltN
    clear hlt hltN h1 h2 h3 h4 h6 hs
    go_enter Try.func97,Try.ntmps97
    go_wp2_with (go_at_call 93;refine (hcall _).mono ?_;rintro e w' ⟨rfl,⟨nd,rfl⟩⟩)
    refine (fail_ok g 10 (w.drewN nd) (v:=.int .i64 0) hc1 hf1).mono ?_
    rintro e w' ⟨rfl,rfl⟩
    go_wp2
    go_ret2
    exact ⟨rfl,HR.out.1.chg ((Chg.refl _ (fun _=>False)).drewN _) (fun _ _ h=>h),HR.out.2.drewN _⟩
   ·rw [if_neg hlt]
    have hle:s≤xs.length:=by omega
    have hltI:(s:Int)≤(xs.length:Int):=by omega
    have d1:decide ((xs.length:Int) < (s:Int))=false:=decide_eq_false hlt
    have d2:decide (xs.length < s)=false:=decide_eq_false (by omega)
    obtain ⟨ad,rfl⟩:∃ ad,A=some ad:=by
     obtain ⟨ad,e,_⟩:=h3.2.2 (by omega)
     exact ⟨ad,e⟩
    have htk:(xs.take s).length=s:=by rw [List.length_take];omega
    have hC1:=Kd.C_take h3 hle
    have hnum:=fun nd=>number_ok (some ad) c (xs.take s) (w.drewN nd) hC1 (by omega)
    rw [htk] at hnum
    have hs1:=hs0.1
    have hs8:=hs0.2
    have hsc:(s:Int)≤(c:Int):=by omega
    have H1:=Aside0.mk h1
    have H2:=Aside0.mk h2
    have H3:=Aside0.mk h3
    have H4:=Aside0.mk h4
    have H6:=Aside0.mk h6
    have HLE:=Aside0.mk hle
    clear h1 h2 h3 h4 h6 hle hC1 htk hs hs0 hlt
    generalize hnb:numB (xs.take s)=nb at hnum ⊢
    clear hnb
    by_cases hneg:nb < 0
    ·rw [if_pos hneg]
     have d3:decide (nb < 0)=true:=decide_eq_true hneg
     clear hneg
     go_enter Try.func97,Try.ntmps97
     go_wp2_with (first|(go_at_call 93;refine (hcall _).mono ?_;rintro e w' ⟨rfl,⟨nd,rfl⟩⟩)|(go_at_call 95;refine (hnum _).mono ?_;rintro e w1 ⟨rfl,hB⟩;(have hcc1:=(hB.cell (p:=⟨g,1,none⟩) hgl).trans hc1);(have hff1:=(hB.frozen (p:=⟨g,1,none⟩) hgl).trans hf1);(have HB:=Aside0.mk hB);clear hB))
     refine (fail_ok g 1 _ (v:=.int .i64 0) hcc1 hff1).mono ?_
     rintro e w' ⟨rfl,rfl⟩
     go_wp2
     go_ret2
     have hR:=rd_wrong ((show RdAt (w.drewN nd) g xs 0 F from ⟨some ad,c,H1.out,H2.out,H3.out,H4.out,h5,H6.out⟩).below HB.out) 1
     exact ⟨rfl,hR.1,(((Chg.refl w (At g)).drewN nd).then_below HB.out).trans hR.2 (fun _ h=>.inl h)⟩
    ·rw [if_neg hneg]
     have d3:decide (nb < 0)=false:=decide_eq_false hneg
     clear hneg
     have q0:(0:Int)≤(s:Int):=by omega
     have hsl:(s:Int)≤(xs.length:Int):=hltI
     have fin:∀ (w1:World) (nd:Nat),Below (w.drewN nd).heap.size (w.drewN nd) w1→RdAt (w1.setCell ⟨g,0,none⟩ (.slice (if c=s then some ad else some (ad.add s)) (xs.length - s) (c - s))) g (xs.drop s) 0 F∧Chg w (w1.setCell ⟨g,0,none⟩ (.slice (if c=s then some ad else some (ad.add s)) (xs.length - s) (c - s))) (At g):=by
      intro w1 nd hB
      obtain ⟨A,c',g1,g2,g3,g4,g5,g6⟩:=((show RdAt (w.drewN nd) g xs 0 F from ⟨some ad,c,H1.out,H2.out,H3.out,H4.out,h5,H6.out⟩).below hB)
      have e:=(Chg.of_below hB (fun _=>False)).blk (g:=g) H1.out (fun h=>h)
      rw [e] at g1
      simp only [Option.some.injEq,Obj.cells.injEq,Array.mk.injEq,List.cons.injEq,Value.slice.injEq,and_true,true_and] at g1
      obtain ⟨rfl,rfl⟩:=g1
      have hd:=rd_drop e g2 g3 g4 g5 g6 HLE.out (by omega)
      exact ⟨hd.1,(((Chg.refl w (At g)).drewN nd).then_below hB).trans hd.2 (fun _ h=>.inl h)⟩
     have FIN:=Aside0.mk fin
     clear fin
     by_cases hcs:c=s
     ·subst hcs
      go_enter Try.func97,Try.ntmps97
      go_wp2_with (first|(go_at_call 93;refine (hcall _).mono ?_;rintro e w' ⟨rfl,⟨nd,rfl⟩⟩)|(go_at_call 95;refine (hnum _).mono ?_;rintro e w1 ⟨rfl,hB⟩;(have hcc0:=(hB.cell (p:=⟨g,0,none⟩) hgl).trans hc0);(have hff0:=(hB.frozen (p:=⟨g,0,none⟩) hgl).trans hf0);(have HB:=Aside0.mk hB);clear hB))
      go_ret2
      have hf:=FIN.out w1 nd HB.out
      simp only [if_true,Nat.sub_self] at hf
      exact ⟨rfl,hf.1,hf.2⟩
     ·go_enter Try.func97,Try.ntmps97
      go_wp2_with (first|(go_at_call 93;refine (hcall _).mono ?_;rintro e w' ⟨rfl,⟨nd,rfl⟩⟩)|(go_at_call 95;refine (hnum _).mono ?_;rintro e w1 ⟨rfl,hB⟩;(have hcc0:=(hB.cell (p:=⟨g,0,none⟩) hgl).trans hc0);(have hff0:=(hB.frozen (p:=⟨g,0,none⟩) hgl).trans hf0);(have HB:=Aside0.mk hB);clear hB))
      go_ret2
      have hf:=FIN.out w1 nd HB.out
      rw [if_neg hcs] at hf
      exact ⟨rfl,hf.1,hf.2⟩
  ·rw [if_pos hw]
   have HR:=Aside0.mk (show RdAt w g xs wrong F from ⟨A,c,h1,h2,h3,h4,h5,h6⟩)
   have d1:(wrong==0)=false:=beq_eq_false_iff_ne.mpr hw
   have d2:(wrong != 0)=true:=bne_iff_ne.mpr hw
   clear h1 h2 h3 h4 h6 hs
   go_enter Try.func97,Try.ntmps97
   go_wp2_with (go_at_call 93;refine (hcall _).mono ?_;rintro e w' ⟨rfl,⟨nd,rfl⟩⟩)
   go_quiet (fail)
   go_wp2
   go_ret2
   exact ⟨rfl,HR.out.chg (((Chg.refl w (fun _=>False)).drewN _).drewN _) (fun _ _ h=>h),((Chg.refl _ _).drewN _).drewN _⟩
set_option maxHeartbeats 1000000 in
theorem of_ok (A:Option Addr) (c:Nat) (xs:List Int) (w:World) (hr:Kd.C (Kd.int .u8) w A xs.length xs) (hl:xs.length≤211106232532992) :
  Calls Try.prog 78 #[.slice A xs.length c] w fun e w'=>∃ g F,e=.returned (.pointer (some ⟨g,0,none⟩))∧RdAt w' g xs 0 F∧Below w.heap.size w w'∧w.heap.size≤g∧∀ k,F k→w.heap.size≤k:=by
 have hcall:=clone_bytes A c xs w hr hl
 clear hr
 go_enter Try.func78,Try.ntmps78
 go_wp2_with (go_at_call 81;refine hcall.mono ?_;rintro e w1 ⟨u,rfl,hR,hB⟩;(have HB:=Aside0.mk hB);obtain ⟨A1,c1,rfl,hlc,hC⟩:=Kd.R_reads hR;(have HR:=Aside0.mk hR);(have HLC:=Aside0.mk hlc);(have HC:=Aside0.mk hC);clear hR hB hlc hC)
 go_ret
 have hg:w.heap.size≤w1.heap.size:=HB.out.size
 refine ⟨w1.heap.size,fun k=>k=w1.heap.size∨some k=(Value.slice A1 xs.length c1).ownBlock,rfl,⟨A1,c1,heap_alloc_new w1 _,HLC.out,Kd.C_below HC.out (below_alloc (Below.refl _ _) _),?_,.inl rfl,?_⟩,HB.out.alloc hg _,hg,?_⟩
 ·intro ad e h0
  subst e
  have:=(Kd.R_bound HR.out).1 ad.block rfl
  exact ⟨.inr rfl,by omega⟩
 ·rintro k (rfl|hk)
  ·exact blk_lt (heap_alloc_new w1 _)
  ·have:=(Kd.R_bound HR.out).1 k hk.symm
   simp;omega
 ·rintro k (rfl|hk)
  ·exact hg
  ·exact ((Kd.R_bound HR.out).1 k hk.symm).2.1
def rdEnd (xs:List Int) (wrong:Int):Int:=if wrong≠0 then wrong else if xs=[] then 0 else 4
set_option maxHeartbeats 1000000 in
theorem end_ok (g:Nat) (xs:List Int) (wrong:Int) (F:Nat→Prop) (w:World) (hr:RdAt w g xs wrong F) :
  Calls Try.prog 99 #[.pointer (some ⟨g,0,none⟩)] w fun e w'=>e=.returned (.int .i64 (rdEnd xs wrong))∧Drawn0 w w':=by
 obtain ⟨A,c,h1,_⟩:=hr
 obtain ⟨hc0,hc1,_⟩:=two_cells h1
 clear h1
 unfold rdEnd
 by_cases hw:wrong=0
 ·subst hw
  rw [if_neg (by decide)]
  cases xs with
  | nil =>
   rw [if_pos rfl]
   go_enter Try.func99,Try.ntmps99
   go_wp2
   repeat (go_quiet (fail);try go_wp2)
   go_ret
   exact ⟨rfl,by repeat (first|exact Drawn0.refl _|apply Drawn0.step)⟩
  | cons x l =>
   rw [if_neg (by simp)]
   have hp:0 < (x::l).length:=by simp
   generalize (x::l).length=n at hc0 hp
   go_enter Try.func99,Try.ntmps99
   go_wp2
   repeat (go_quiet (fail);try go_wp2)
   go_ret
   exact ⟨rfl,by repeat (first|exact Drawn0.refl _|apply Drawn0.step)⟩
 ·rw [if_pos hw]
  have d1:(wrong==0)=false:=beq_eq_false_iff_ne.mpr hw
  have d2:(wrong != 0)=true:=bne_iff_ne.mpr hw
  clear hw
  go_enter Try.func99,Try.ntmps99
  go_wp2
  repeat (go_quiet (fail);try go_wp2)
  go_ret
  exact ⟨rfl,by repeat (first|exact Drawn0.refl _|apply Drawn0.step)⟩
def rdText (xs:List Int) (wrong most:Int):(List Int×Int)×(List Int×Int) :=
 if most < 0 then (([],1),(xs,wrong))
 else if wrong≠0 then (([],wrong),(xs,wrong))
 else if xs.length < 2 then (([],10),(xs,10))
 else if ((xs.length - 2:Nat):Int) < numB (xs.take 2) then (([],10),(xs,10))
 else if most < numB (xs.take 2) then (([],2),(xs,2))
 else (((xs.drop 2).take (numB (xs.take 2)).toNat,0),(xs.drop (2+(numB (xs.take 2)).toNat),0))
set_option maxHeartbeats 1000000 in
theorem rdtext_arg (p:Value) (most:Int) (w:World) (h:most < 0) :
  Calls Try.prog 79 #[p,.int .i64 most] w fun e w'=>e=.returned (.tuple #[.string .empty,.int .i64 1])∧w=w':=by
 have d1:decide (most < 0)=true:=decide_eq_true h
 go_enter Try.func79,Try.ntmps79
 go_wp2
 go_ret2
 exact ⟨rfl,rfl⟩
set_option maxRecDepth 100000 in
set_option maxHeartbeats 4000000 in
theorem rdtext_ok (g:Nat) (xs:List Int) (wrong most:Int) (F:Nat→Prop) (w:World) (hr:RdAt w g xs wrong F) (hl:xs.length≤211106232532992) (hn:2≤xs.length→0≤numB (xs.take 2)∧numB (xs.take 2) < 65536) :
  Calls Try.prog 79 #[.pointer (some ⟨g,0,none⟩),.int .i64 most] w fun e w'=>e=.returned (.tuple #[.string (strOfNums (rdText xs wrong most).1.1),.int .i64 (rdText xs wrong most).1.2])∧RdAt w' g (rdText xs wrong most).2.1 (rdText xs wrong most).2.2 F∧Chg w w' (At g):=by
 unfold rdText
 by_cases h0:most < 0
 ·rw [if_pos h0]
  refine (rdtext_arg _ most w h0).mono ?_
  rintro e w' ⟨rfl,rfl⟩
  exact ⟨rfl,hr,Chg.refl _ _⟩
 rw [if_neg h0]
 have d0:decide (most < 0)=false:=decide_eq_false h0
 obtain ⟨A,c,h1,h2,h3,h4,h5,h6⟩:=hr
 obtain ⟨hc0,hc1,hf0,hf1⟩:=two_cells h1
 have hgl:=blk_lt h1
 by_cases hw:wrong=0
 ·rw [if_neg (by omega)]
  subst hw
  have HR0:=Aside0.mk (show RdAt w g xs 0 F from ⟨A,c,h1,h2,h3,h4,h5,h6⟩)
  by_cases hlt:xs.length < 2
  ·rw [if_pos hlt]
   have HR:=Aside0.mk (rd_wrong HR0.out 10)
   have hltI:(xs.length:Int) < 2:=by omega
   clear h1 h2 h3 h4 h6 hn HR0 h0
   go_enter Try.func79,Try.ntmps79
   go_wp2
   go_quiet (fail)
   have hfail:=fun nq=>fail_ok g 10 (w.drewN nq) (v:=.int .i64 0) hc1 hf1
   go_wp2_with (go_at_call 96;refine (hfail _).mono ?_;rintro e w' ⟨rfl,rfl⟩)
   go_ret2
   exact ⟨rfl,HR.out.1.chg ((Chg.refl _ (fun _=>False)).drewN _) (fun _ _ h=>h),HR.out.2.drewN _⟩
  rw [if_neg hlt]
  have hle:2≤xs.length:=by omega
  have hltI:(2:Int)≤(xs.length:Int):=by omega
  have d2:decide ((xs.length:Int) < 2)=false:=decide_eq_false (by omega)
  have d3:decide (xs.length < 2)=false:=decide_eq_false (by omega)
  have hcap:(2:Int)≤(c:Int):=by omega
  have hsl:(2:Int)≤(xs.length:Int):=by omega
  obtain ⟨ad,rfl⟩:∃ ad,A=some ad:=by
   obtain ⟨ad,e,_⟩:=h3.2.2 (by omega)
   exact ⟨ad,e⟩
  have htk:(xs.take 2).length=2:=by rw [List.length_take];omega
  have hC1:=Kd.C_take h3 hle
  have hnum:=fun W (hB:W.cell? ⟨g,0,none⟩=some (.slice (some ad) xs.length c)∧Chg w W (fun _=>False))=>number_ok (some ad) c (xs.take 2) W (C_chg hC1 hB.2 (fun _ _ _ h=>h)) (by omega)
  rw [htk] at hnum
  obtain ⟨hn0,hn1⟩:=hn hle
  obtain ⟨n,hnn⟩:∃ n:Nat,numB (xs.take 2)=n:=⟨(numB (xs.take 2)).toNat,by omega⟩
  rw [hnn] at hnum hn0 hn1 ⊢
  clear hnn hn htk
  rw [Int.toNat_natCast]
  have hst:=(Chg.refl w (fun _=>False)).drew
  have hgo:∀ W w1,(W.cell? ⟨g,0,none⟩=some (.slice (some ad) xs.length c)∧Chg w W (fun _=>False))→Below W.heap.size W w1→w1.cell? ⟨g,0,none⟩=some (.slice (some ad) xs.length c)∧Chg w w1 (fun _=>False) :=
   fun W w1 hh hB=>⟨(hB.cell (p:=⟨g,0,none⟩) (Nat.lt_of_lt_of_le hgl hh.2.size)).trans hh.1,hh.2.then_below hB⟩
  have hnum2:∀ W (hB:W.cell? ⟨g,0,none⟩=some (.slice (some ad) xs.length c)∧Chg w W (fun _=>False)),Calls Try.prog 95 #[.slice (some ad) 2 c] W fun e w1=>e=.returned (.int .i64 n)∧(w1.cell? ⟨g,0,none⟩=some (.slice (some ad) xs.length c)∧Chg w w1 (fun _=>False)) :=
   fun W hB=>(hnum W hB).mono fun e w1 h=>⟨h.1,hgo W w1 hB h.2⟩
  have hwrap:IntKind.i64.wrap ((xs.length:Int) - 2)=(xs.length:Int) - 2:=by rw [IntKind.wrap_i64];omega
  have hone:∀ W,Chg w W (fun _=>False)→W.cell? ⟨g,1,none⟩=some (.int .i64 0)∧W.frozen? ⟨g,1,none⟩=false∧W.frozen? ⟨g,0,none⟩=false:=fun W hW=>by
   have hh:=two_cells (hW.blk h1 (fun h=>h))
   exact ⟨hh.2.1,hh.2.2.2,hh.2.2.1⟩
  have H1:=Aside0.mk h1
  have H2:=Aside0.mk h2
  have H3:=Aside0.mk h3
  have H4:=Aside0.mk h4
  have H6:=Aside0.mk h6
  have HONE:=Aside0.mk hone
  have HH0:=Aside0.mk h0
  by_cases hcut:((xs.length - 2:Nat):Int) < n
  ·rw [if_pos hcut]
   have e1:decide ((xs.length:Int) - 2 < (n:Int))=true:=decide_eq_true (by omega)
   clear h1 h2 h3 h4 h6 hC1 hnum hgo hlt hcut h0 hone
   go_enter Try.func79,Try.ntmps79
   go_wp2
   go_region_held3 (fun w'=>w'.cell? ⟨g,0,none⟩=some (.slice (some ad) xs.length c)∧Chg w w' (fun _=>False)) (first|exact ⟨hc0,hst⟩|assumption) (first|(go_at_call 95;refine (hnum2 _ ?_).mono ?_;assumption;rintro e w1 ⟨rfl,hB⟩))
   have hB:=‹_∧Chg w _ (fun _=>False)›
   obtain ⟨o1,o2,_⟩:=HONE.out _ hB.2
   have HB:=Aside0.mk hB.2
   have hfail:=fail_ok g 10 _ o1 o2
   clear hB
   go_wp2_with (go_at_call 96;refine hfail.mono ?_;rintro e w' ⟨rfl,rfl⟩)
   go_ret2
   have hR:=rd_wrong (HR0.out.chg HB.out (fun _ _ h=>h)) 10
   exact ⟨rfl,hR.1,(HB.out.mono (fun _ h=>h.elim)).trans hR.2 (fun _ h=>.inl h)⟩
  ·rw [if_neg hcut]
   have e1:decide ((xs.length:Int) - 2 < (n:Int))=false:=decide_eq_false (by omega)
   have hn2:(n:Int)+2≤(xs.length:Int):=by omega
   by_cases hmost:most < n
   ·rw [if_pos hmost]
    have e2:decide ((n:Int) > most)=true:=decide_eq_true (by omega)
    clear h1 h2 h3 h4 h6 hC1 hnum hgo hlt hcut h0 hone
    go_enter Try.func79,Try.ntmps79
    go_wp2
    go_region_held3 (fun w'=>w'.cell? ⟨g,0,none⟩=some (.slice (some ad) xs.length c)∧Chg w w' (fun _=>False)) (first|exact ⟨hc0,hst⟩|assumption) (first|(go_at_call 95;refine (hnum2 _ ?_).mono ?_;assumption;rintro e w1 ⟨rfl,hB⟩))
    have hB:=‹_∧Chg w _ (fun _=>False)›
    have hnum3:=hnum2 _ hB
    obtain ⟨hcc,_⟩:=hB
    go_wp2_with (first|(go_at_call 95;refine hnum3.mono ?_;rintro e w2 ⟨rfl,hcc2,hB2⟩;obtain ⟨o1,o2,_⟩:=HONE.out _ hB2;(have HB:=Aside0.mk hB2);(have hfail:=fail_ok g 2 _ o1 o2);clear hB2)|(go_at_call 96;refine hfail.mono ?_;rintro e w' ⟨rfl,rfl⟩))
    go_ret2
    have hR:=rd_wrong (HR0.out.chg HB.out (fun _ _ h=>h)) 2
    exact ⟨rfl,hR.1,(HB.out.mono (fun _ h=>h.elim)).trans hR.2 (fun _ h=>.inl h)⟩
   ·rw [if_neg hmost]
    have e2:decide ((n:Int) > most)=false:=decide_eq_false (by omega)
    have hw2:IntKind.i64.wrap (2+(n:Int))=2+(n:Int):=by rw [IntKind.wrap_i64];omega
    have hcap:xs.length≤c:=h2
    have hcut1:∀ W:World,(Instr.slice 67 (.slice (some ad) xs.length c) (some (.int .i64 2)) (some (.int .i64 (2+(n:Int)))) none).run Try.prog W=.ok (.slice (if c=2 then some ad else some (ad.add 2)) n (c - 2)) W:=by
     intro W
     have h:=cut_mid (P:=Try.prog) 67 5 .i64 .i64 Try.underlying67 (info_parts info8).choose_spec.1 1 (info_parts info8).choose_spec.2.2.1 (some ad) xs.length c 2 (2+(n:Int)) (by omega) (by omega) (by omega) h2 W
     have e3:(2+(n:Int)).toNat - (2:Int).toNat=n:=by omega
     rw [e3] at h
     exact h
    have hcut2:∀ W:World,(Instr.slice 67 (.slice (some ad) xs.length c) (some (.int .i64 (2+(n:Int)))) none none).run Try.prog W=.ok (.slice (if c=2+n then some ad else some (ad.add (2+n))) (xs.length - (2+n)) (c - (2+n))) W:=by
     intro W
     have h:=cut_from (P:=Try.prog) 67 5 .i64 Try.underlying67 (info_parts info8).choose_spec.1 1 (info_parts info8).choose_spec.2.2.1 (some ad) xs.length c (2+(n:Int)) (by omega) (by omega) W
     rw [show (2+(n:Int)).toNat=2+n by omega,Nat.mul_one] at h
     exact h
    have htext:∀ W:World,Chg w W (fun _=>False)→(convert 67 9 (.slice (if c=2 then some ad else some (ad.add 2)) n (c - 2))).run Try.prog W=.ok (.string (strOfNums ((xs.drop 2).take n))) W:=by
     intro W hW
     have hd:=Kd.C_take (Kd.C_drop h3 hle h2) (m:=n) (by rw [List.length_drop];omega)
     have e4:((xs.drop 2).take n).length=n:=by rw [List.length_take,List.length_drop];omega
     rw [e4] at hd
     exact Kd.C_string Try.underlying67 Try.underlying5 Try.underlying9 (C_chg hd hW (fun _ _ _ h=>h))
    obtain ⟨A3,hA3⟩:∃ a,a=(if c=2 then some ad else some (ad.add 2)):=⟨_,rfl⟩
    obtain ⟨c3,hc3⟩:∃ a,a=c - 2:=⟨_,rfl⟩
    obtain ⟨A4,hA4⟩:∃ a,a=(if c=2+n then some ad else some (ad.add (2+n))):=⟨_,rfl⟩
    obtain ⟨n4,hn4⟩:∃ a,a=xs.length - (2+n):=⟨_,rfl⟩
    obtain ⟨c4,hc4⟩:∃ a,a=c - (2+n):=⟨_,rfl⟩
    rw [← hA3,← hc3] at hcut1 htext
    rw [← hA4,← hn4,← hc4] at hcut2
    have fin:∀ W,Chg w W (fun _=>False)→RdAt (W.setCell ⟨g,0,none⟩ (.slice A4 n4 c4)) g (xs.drop (2+n)) 0 F∧Chg w (W.setCell ⟨g,0,none⟩ (.slice A4 n4 c4)) (At g):=by
     intro W hW
     have hd:=rd_drop (m:=2+n) (hW.blk h1 (fun h=>h)) h2 (C_chg h3 hW (fun _ _ _ h=>h)) h4 h5 (fun k hk=>Nat.lt_of_lt_of_le (h6 k hk) hW.size) (by omega) (by omega)
     rw [hA4,hn4,hc4]
     exact ⟨hd.1,(hW.mono (fun _ h=>h.elim)).trans hd.2 (fun _ h=>.inl h)⟩
    have FIN:=Aside0.mk fin
    have HT:=Aside0.mk htext
    clear h1 h2 h3 h4 h6 hC1 hnum hgo hlt hcut h0 hone htext fin hA3 hc3 hA4 hn4 hc4 hcap
    go_enter Try.func79,Try.ntmps79
    go_wp2
    go_region_held3 (fun w'=>w'.cell? ⟨g,0,none⟩=some (.slice (some ad) xs.length c)∧Chg w w' (fun _=>False)) (first|exact ⟨hc0,hst⟩|assumption) (first|(go_at_call 95;refine (hnum2 _ ?_).mono ?_;assumption;rintro e w1 ⟨rfl,hB⟩))
    have hB:=‹_∧Chg w _ (fun _=>False)›
    have hnum3:=hnum2 _ hB
    obtain ⟨hcc,_⟩:=hB
    go_wp2_with (first|(go_at_call 95;refine hnum3.mono ?_;rintro e w2 ⟨rfl,hcc2,hB2⟩;obtain ⟨o1,o2,o3⟩:=HONE.out _ hB2;(have ht2:=HT.out _ hB2);(have HB:=Aside0.mk hB2);clear hB2))
    go_ret2
    exact ⟨rfl,FIN.out _ HB.out⟩
 ·rw [if_pos hw]
  have HR:=Aside0.mk (show RdAt w g xs wrong F from ⟨A,c,h1,h2,h3,h4,h5,h6⟩)
  have d1:(wrong==0)=false:=beq_eq_false_iff_ne.mpr hw
  have d2:(wrong != 0)=true:=bne_iff_ne.mpr hw
  clear h1 h2 h3 h4 h6 hn
  go_enter Try.func79,Try.ntmps79
  go_wp2
  go_quiet (fail)
  go_wp2
  go_ret2
  exact ⟨rfl,HR.out.chg ((Chg.refl w (fun _=>False)).drewN _) (fun _ _ h=>h),(Chg.refl _ _).drewN _⟩
end Go.Proofs.Ytgjibcfkjaedfaa.Wire
