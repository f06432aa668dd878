-- A part of the text Plain, thinned by a program of this session.
import Derived.Test.YthfhkcicpfnedaaTPageGrowsNd
namespace Go.Proofs.Ythfhkcicpfnedaa.Pr
open Go.RowKit Go.Proofs.YthfhkcicpfnedaaW.PrintWords Go.Proofs.YthfhkcicpfnedaaW.PrintLast Go.Proofs.YthfhkcicpfnedaaW.PrintMore
set_option linter.unusedVariables false
set_option linter.unusedSimpArgs false
def textsIn (w:World) (l:List ByteArray) (v13:Value) (wr:World):Prop:=∃ x:Int,Aside0 (0≤x∧x≤(l.length:Int))∧v13=.int .i64 x∧Aside0 (Drawn0 w wr)
set_option maxRecDepth 100000 in
set_option maxHeartbeats 4000000 in
theorem texts_same (l:List ByteArray) (A:Option Addr) (c:Nat) (B:Option Addr) (d:Nat) (w:World) (hA:Kd.C Kd.string w A l.length l) (hB:Kd.C Kd.string w B l.length l) :
  Calls Try.prog 37 #[.slice A l.length c,.slice B l.length d] w fun e w'=>e=.returned (.bool true)∧Drawn0 w w':=by
 have HA:=Aside0.mk hA
 have HB:=Aside0.mk hB
 have HL:Aside0 (l.length≤9223372036854775807):=⟨hA.2.1⟩
 have d0:((l.length:Int) != (l.length:Int))=false:=by simp
 clear hA hB
 go_enter Try.func37,Try.ntmps37
 go_wp2
 repeat (go_quiet (fail);try go_wp2)
 go_loopw [13] (fun v13 wr=>textsIn w l v13 wr) (fun v13 _=>l.length - (intOf v13).toNat)
 case atStart=>exact ⟨0,⟨⟨Int.le_refl _,by omega⟩⟩,rfl,⟨⟨⟨0,rfl⟩⟩⟩⟩
 case round =>
  obtain ⟨x,HK,rfl,⟨n,rfl⟩⟩:=hrel
  by_cases hlt:x < (l.length:Int)
  ·have p0:(0:Int)≤x:=HK.out.1
   obtain ⟨ad,e1,hx⟩:=Kd.at_string HA.out x p0 hlt
   obtain ⟨bd,e2,hy⟩:=Kd.at_string HB.out x p0 hlt
   cases e1
   cases e2
   have hw1:wrap64 (x+1)=x+1:=by
    have:=HL.out
    unfold wrap64
    omega
   have HW:=Aside0.mk hw1
   have HLT:=Aside0.mk hlt
   have p2:=eq_true p0
   have d1:decide (x < (l.length:Int))=true:=decide_eq_true hlt
   replace hlt:=eq_true hlt
   clear hw1 p0
   have d3:((rdOf ByteArray.empty l x).toList != (rdOf ByteArray.empty l x).toList)=false:=by simp
   go_wp2
   repeat (go_quiet (fail);try go_wp2)
   all_goals exact ⟨⟨x+1,⟨by have:=HK.out;have:=HLT.out;omega⟩,by rw [HW.out],⟨⟨_,rfl⟩⟩⟩,by have:=HK.out;have:=HLT.out;simp only [intOf];rw [HW.out];omega⟩
  ·have d1:decide (x < (l.length:Int))=false:=decide_eq_false hlt
   go_wp2
   repeat (go_quiet (fail);try go_wp2)
   go_ret
   exact ⟨rfl,⟨⟨_,rfl⟩⟩⟩
def intsIn (w:World) (l:List Int) (v13:Value) (wr:World):Prop:=∃ x:Int,Aside0 (0≤x∧x≤(l.length:Int))∧v13=.int .i64 x∧Aside0 (Drawn0 w wr)
set_option maxRecDepth 100000 in
set_option maxHeartbeats 4000000 in
theorem ints_same (l:List Int) (A:Option Addr) (c:Nat) (B:Option Addr) (d:Nat) (w:World) (hA:Kd.C (Kd.int .i64) w A l.length l) (hB:Kd.C (Kd.int .i64) w B l.length l) :
  Calls Try.prog 38 #[.slice A l.length c,.slice B l.length d] w fun e w'=>e=.returned (.bool true)∧Drawn0 w w':=by
 have HA:=Aside0.mk hA
 have HB:=Aside0.mk hB
 have HL:Aside0 (l.length≤9223372036854775807):=⟨hA.2.1⟩
 have d0:((l.length:Int) != (l.length:Int))=false:=by simp
 clear hA hB
 go_enter Try.func38,Try.ntmps38
 go_wp2
 repeat (go_quiet (fail);try go_wp2)
 go_loopw [13] (fun v13 wr=>intsIn w l v13 wr) (fun v13 _=>l.length - (intOf v13).toNat)
 case atStart=>exact ⟨0,⟨⟨Int.le_refl _,by omega⟩⟩,rfl,⟨⟨⟨0,rfl⟩⟩⟩⟩
 case round =>
  obtain ⟨x,HK,rfl,⟨n,rfl⟩⟩:=hrel
  by_cases hlt:x < (l.length:Int)
  ·have p0:(0:Int)≤x:=HK.out.1
   obtain ⟨ad,e1,hx⟩:=Kd.at_int HA.out x p0 hlt
   obtain ⟨bd,e2,hy⟩:=Kd.at_int HB.out x p0 hlt
   cases e1
   cases e2
   have hw1:wrap64 (x+1)=x+1:=by
    have:=HL.out
    unfold wrap64
    omega
   have HW:=Aside0.mk hw1
   have HLT:=Aside0.mk hlt
   have p2:=eq_true p0
   have d1:decide (x < (l.length:Int))=true:=decide_eq_true hlt
   replace hlt:=eq_true hlt
   clear hw1 p0
   have d3:(rd l x != rd l x)=false:=by simp
   go_wp2
   repeat (go_quiet (fail);try go_wp2)
   all_goals exact ⟨⟨x+1,⟨by have:=HK.out;have:=HLT.out;omega⟩,by rw [HW.out],⟨⟨_,rfl⟩⟩⟩,by have:=HK.out;have:=HLT.out;simp only [intOf];rw [HW.out];omega⟩
  ·have d1:decide (x < (l.length:Int))=false:=decide_eq_false hlt
   go_wp2
   repeat (go_quiet (fail);try go_wp2)
   go_ret
   exact ⟨rfl,⟨⟨_,rfl⟩⟩⟩
set_option maxRecDepth 100000 in
set_option maxHeartbeats 4000000 in
theorem node_same (a0_0:Int) (a0_1:Int) (a0_2:Int) (a0_3:ByteArray) (A0_4:Option Addr) (c0_4:Nat) (l0_4:List ByteArray) (A0_5:Option Addr) (c0_5:Nat) (l0_5:List ByteArray) (A0_6:Option Addr) (c0_6:Nat) (l0_6:List Int) (A1_4:Option Addr) (c1_4:Nat) (A1_5:Option Addr) (c1_5:Nat) (A1_6:Option Addr) (c1_6:Nat) (w:World) (hr0_4:Kd.C Kd.string w A0_4 l0_4.length l0_4) (hr0_5:Kd.C Kd.string w A0_5 l0_5.length l0_5) (hr0_6:Kd.C (Kd.int .i64) w A0_6 l0_6.length l0_6) (hr1_4:Kd.C Kd.string w A1_4 l0_4.length l0_4) (hr1_5:Kd.C Kd.string w A1_5 l0_5.length l0_5) (hr1_6:Kd.C (Kd.int .i64) w A1_6 l0_6.length l0_6) :
  Calls Try.prog 18 #[.agg #[.int .i64 a0_0,.int .i64 a0_1,.int .i64 a0_2,.string a0_3,.slice A0_4 l0_4.length c0_4,.slice A0_5 l0_5.length c0_5,.slice A0_6 l0_6.length c0_6],.agg #[.int .i64 a0_0,.int .i64 a0_1,.int .i64 a0_2,.string a0_3,.slice A1_4 l0_4.length c1_4,.slice A1_5 l0_5.length c1_5,.slice A1_6 l0_6.length c1_6]] w fun e w'=>e=.returned (.bool true)∧Below w.heap.size w w':=by
 have hsz:(w.alloc (.cells #[.int .i64 a0_0,.int .i64 a0_1,.int .i64 a0_2,.string a0_3,.slice A0_4 l0_4.length c0_4,.slice A0_5 l0_5.length c0_5,.slice A0_6 l0_6.length c0_6] 25)).heap.size=w.heap.size+1:=by
  show (w.heap.push _).size=_
  simp
 have hbs:Below w.heap.size w ((w.alloc (.cells #[.int .i64 a0_0,.int .i64 a0_1,.int .i64 a0_2,.string a0_3,.slice A0_4 l0_4.length c0_4,.slice A0_5 l0_5.length c0_5,.slice A0_6 l0_6.length c0_6] 25)).alloc (.cells #[.int .i64 a0_0,.int .i64 a0_1,.int .i64 a0_2,.string a0_3,.slice A1_4 l0_4.length c1_4,.slice A1_5 l0_5.length c1_5,.slice A1_6 l0_6.length c1_6] 25)):=below_alloc (below_alloc (Below.refl _ _) _) _
 have h0:NdAt ((w.alloc (.cells #[.int .i64 a0_0,.int .i64 a0_1,.int .i64 a0_2,.string a0_3,.slice A0_4 l0_4.length c0_4,.slice A0_5 l0_5.length c0_5,.slice A0_6 l0_6.length c0_6] 25)).alloc (.cells #[.int .i64 a0_0,.int .i64 a0_1,.int .i64 a0_2,.string a0_3,.slice A1_4 l0_4.length c1_4,.slice A1_5 l0_5.length c1_5,.slice A1_6 l0_6.length c1_6] 25)) w.heap.size a0_0 a0_1 a0_2 a0_3 (.slice A0_4 l0_4.length c0_4) (.slice A0_5 l0_5.length c0_5) (.slice A0_6 l0_6.length c0_6):=NdAt.below (blk_newN _ _) (below_alloc (Below.refl _ _) _)
 have h1:NdAt ((w.alloc (.cells #[.int .i64 a0_0,.int .i64 a0_1,.int .i64 a0_2,.string a0_3,.slice A0_4 l0_4.length c0_4,.slice A0_5 l0_5.length c0_5,.slice A0_6 l0_6.length c0_6] 25)).alloc (.cells #[.int .i64 a0_0,.int .i64 a0_1,.int .i64 a0_2,.string a0_3,.slice A1_4 l0_4.length c1_4,.slice A1_5 l0_5.length c1_5,.slice A1_6 l0_6.length c1_6] 25)) (w.heap.size+1) a0_0 a0_1 a0_2 a0_3 (.slice A1_4 l0_4.length c1_4) (.slice A1_5 l0_5.length c1_5) (.slice A1_6 l0_6.length c1_6):=by
  rw [← hsz]
  exact blk_newN _ _
 have HB:=Aside0.mk hbs
 have H0:=Aside0.mk h0
 have H1:=Aside0.mk h1
 have HT:=Aside0.mk (fun W (hB:Below w.heap.size w W)=>texts_same l0_4 A0_4 c0_4 A1_4 c1_4 W (Kd.C_below hr0_4 hB) (Kd.C_below hr1_4 hB))
 have HU:=Aside0.mk (fun W (hB:Below w.heap.size w W)=>texts_same l0_5 A0_5 c0_5 A1_5 c1_5 W (Kd.C_below hr0_5 hB) (Kd.C_below hr1_5 hB))
 have HI:=Aside0.mk (fun W (hB:Below w.heap.size w W)=>ints_same l0_6 A0_6 c0_6 A1_6 c1_6 W (Kd.C_below hr0_6 hB) (Kd.C_below hr1_6 hB))
 have ht:=HT.out _ hbs
 have d0:(a0_0==a0_0)=true:=by simp
 have d1:(a0_1==a0_1)=true:=by simp
 have d2:(a0_2==a0_2)=true:=by simp
 have d3:(a0_3.toList==a0_3.toList)=true:=by simp
 obtain ⟨⟨b0,b1,b2,b3,b4,b5,b6⟩,_⟩:=h0.cells
 obtain ⟨⟨e0,e1,e2,e3,e4,e5,e6⟩,_⟩:=h1.cells
 clear hsz hbs h0 h1 hr0_4 hr0_5 hr0_6 hr1_4 hr1_5 hr1_6
 go_enter Try.func18,Try.ntmps18
 go_wp2_with (first
  | (go_at_call 37;(with_reducible refine ht.mono ?_);rintro r w2 ⟨rfl,hB2⟩;(have hb2:=below_from2 HB.out (Nat.le_refl _) hB2.below);(have h0:=H0.out.below hB2.below);(have h1:=H1.out.below hB2.below);clear b0 b1 b2 b3 b4 b5 b6 e0 e1 e2 e3 e4 e5 e6;obtain ⟨⟨b0,b1,b2,b3,b4,b5,b6⟩,_⟩:=h0.cells;obtain ⟨⟨e0,e1,e2,e3,e4,e5,e6⟩,_⟩:=h1.cells;(have HB2:=Aside0.mk hb2);(have H02:=Aside0.mk h0);(have H12:=Aside0.mk h1);(have hu:=HU.out w2 hb2);clear ht hB2 hb2 h0 h1)
  | (go_at_call 37;(with_reducible refine hu.mono ?_);rintro r w3 ⟨rfl,hB3⟩;(have hb3:=below_from2 HB2.out (Nat.le_refl _) hB3.below);(have h0:=H02.out.below hB3.below);(have h1:=H12.out.below hB3.below);clear b0 b1 b2 b3 b4 b5 b6 e0 e1 e2 e3 e4 e5 e6;obtain ⟨⟨b0,b1,b2,b3,b4,b5,b6⟩,_⟩:=h0.cells;obtain ⟨⟨e0,e1,e2,e3,e4,e5,e6⟩,_⟩:=h1.cells;(have HB3:=Aside0.mk hb3);(have hi:=HI.out w3 hb3);clear hu hB3 hb3 h0 h1)
  | (go_at_call 38;(with_reducible refine hi.mono ?_);rintro r w4 ⟨rfl,hB4⟩;(have HB4:=Aside0.mk (below_from2 HB3.out (Nat.le_refl _) hB4.below));clear hi hB4))
 go_ret
 exact ⟨rfl,HB4.out⟩
end Go.Proofs.Ythfhkcicpfnedaa.Pr
