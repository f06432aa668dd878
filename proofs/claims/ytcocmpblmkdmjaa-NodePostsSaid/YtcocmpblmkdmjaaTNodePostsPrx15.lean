-- A part of the text Prx15, thinned by a program of this session.
import Derived.Test.YtcocmpblmkdmjaaTNodePostsPrx0
import Derived.Test.YtcocmpblmkdmjaaTNodePostsPrx9
namespace Go.Proofs.Ytcocmpblmkdmjaa.Pr
open Go.RowKit Go.Proofs.YtcocmpblmkdmjaaW.PrintWords Go.Proofs.YtcocmpblmkdmjaaW.PrintLast Go.Proofs.YtcocmpblmkdmjaaW.PrintMore
attribute [local go_sem] max2_int min2_int max_two min_two max_three min_three max_four min_four
set_option linter.unusedVariables false
set_option linter.unusedSimpArgs false
def latticeplain_Texts.l0:Nat→List ByteArray→List ByteArray→Int→Int→Option (Bool)
 | 0,_,_,_,_=>none
 | k+1,x0,x1,x12,x13=>if x13 < x12 then (if 0≤x13 then (if x13 < (x0.length:Int) then (if x13 < (x1.length:Int) then (if (rdOf ByteArray.empty x0 x13).toList=(rdOf ByteArray.empty x1 x13).toList then (latticeplain_Texts.l0 k x0 x1 x12 (wrap64 (x13+1))) else (some false)) else (none)) else (none)) else (none)) else (some true)
def latticeplain_Texts.f (k:Nat) (l0:List ByteArray) (l1:List ByteArray):Option (Bool):=if (l0.length:Int)=(l1.length:Int) then (latticeplain_Texts.l0 k l0 l1 (l0.length:Int) 0) else (some false)
set_option maxHeartbeats 8000000 in
set_option maxRecDepth 100000 in
theorem latticeplain_Texts.calls (k:Nat) (A0:Option Addr) (c0:Nat) (l0:List ByteArray) (A1:Option Addr) (c1:Nat) (l1:List ByteArray) (r:Bool) (w:World) (hr0:Kd.C Kd.string w A0 l0.length l0) (hc0:l0.length≤c0) (hr1:Kd.C Kd.string w A1 l1.length l1) (hc1:l1.length≤c1) (h:latticeplain_Texts.f k l0 l1=some r) :
  Calls Try.prog 42 #[.slice A0 l0.length c0,.slice A1 l1.length c1] w fun e w'=>e=.returned (.bool r)∧Drawn0 w w':=by
 have HR0:=Aside0.mk hr0
 have HC0:=Aside0.mk hc0
 clear hr0 hc0
 have HR1:=Aside0.mk hr1
 have HC1:=Aside0.mk hc1
 clear hr1 hc1
 have H:(if (l0.length:Int)=(l1.length:Int) then (latticeplain_Texts.l0 k l0 l1 (l0.length:Int) 0) else (some false))=some r:=h
 clear h
 by_cases c3:(l0.length:Int)=(l1.length:Int)
 ·rw [if_pos c3] at H
  have c3b0:((l0.length:Int)==(l1.length:Int))=true:=beq_iff_eq.mpr c3
  have c3b1:((l0.length:Int) != (l1.length:Int))=false:=bne_eq_false_iff_eq.mpr c3
  have c3b2:(l0.length==l1.length)=true:=by first|simpa using c3|(simp at c3 ⊢;omega)
  clear c3
  have H':=Aside0.mk H
  clear H
  go_enter Try.func42,Try.ntmps42
  go_wp2
  repeat (go_quiet (fail);try go_wp2)
  go_loopg [13] k (fun kq v13 w'=>∃ (x13_1:Int),v13=.int .i64 x13_1∧Aside0 (latticeplain_Texts.l0 kq l0 l1 (l0.length:Int) x13_1=some r)∧Aside0 (kq≤k)∧Drawn0 w w')
  case atStart=>exact ⟨(0),(by first|rfl|(simp;done)|(simp [*];done)),H',⟨Nat.le_refl _⟩,by repeat (first|exact Drawn0.refl _|apply Drawn0.step)⟩
  case round =>
   clear H'
   try clear c1
   try clear p2
   try clear c3
   try clear c3b0
   try clear c3b1
   try clear c3b2
   obtain ⟨x13_1,rfl,HA,HK1,⟨m1,rfl⟩⟩:=hrel
   cases gk with
   | zero=>exact absurd HA.out (by simp [latticeplain_Texts.l0])
   | succ k1 =>
    have H:=HA.out
    clear HA
    simp only [latticeplain_Texts.l0] at H
    by_cases c4:x13_1 < (l0.length:Int)
    ·rw [if_pos c4] at H
     have c4b0:decide (x13_1 < (l0.length:Int))=true:=decide_eq_true c4
     clear c4
     by_cases c5:0≤x13_1
     ·rw [if_pos c5] at H
      have c5b0:decide (0≤x13_1)=true:=decide_eq_true c5
      clear c5
      by_cases c6:x13_1 < (l0.length:Int)
      ·rw [if_pos c6] at H
       have c6b0:decide (x13_1 < (l0.length:Int))=true:=decide_eq_true c6
       clear c6
       by_cases c7:x13_1 < (l1.length:Int)
       ·rw [if_pos c7] at H
        have c7b0:decide (x13_1 < (l1.length:Int))=true:=decide_eq_true c7
        clear c7
        by_cases c8:(rdOf ByteArray.empty l0 x13_1).toList=(rdOf ByteArray.empty l1 x13_1).toList
        ·rw [if_pos c8] at H
         have c8b0:((rdOf ByteArray.empty l0 x13_1).toList==(rdOf ByteArray.empty l1 x13_1).toList)=true:=beq_iff_eq.mpr c8
         have c8b1:((rdOf ByteArray.empty l0 x13_1).toList != (rdOf ByteArray.empty l1 x13_1).toList)=false:=bne_eq_false_iff_eq.mpr c8
         clear c8
         have H':=Aside0.mk H
         clear H
         have p291:0≤(x13_1:Int):=of_decide_eq_true (by first|(with_reducible assumption)|assumption)
         have q291:x13_1 < (l0.length:Int):=of_decide_eq_true (by first|(with_reducible assumption)|assumption)
         obtain ⟨ad291,e291,hx291_0⟩:=Kd.at_string HR0.out x13_1 p291 q291
         cases e291
         replace p291:=eq_true p291
         replace q291:=eq_true q291
         have p292:0≤(x13_1:Int):=of_decide_eq_true (by first|(with_reducible assumption)|assumption)
         have q292:x13_1 < (l1.length:Int):=of_decide_eq_true (by first|(with_reducible assumption)|assumption)
         obtain ⟨ad292,e292,hx292_0⟩:=Kd.at_string HR1.out x13_1 p292 q292
         cases e292
         replace p292:=eq_true p292
         replace q292:=eq_true q292
         go_wp2
         repeat (go_quiet (fail);try go_wp2)
         go_roundg k1
         case measure=>have:=HK1.out;omega
         case rel=>exact ⟨(wrap64 (x13_1+1)),(by first|rfl|(simp;done)|(simp [*];done)),H',⟨by have:=HK1.out;omega⟩,by repeat (first|exact Drawn0.refl _|apply Drawn0.step)⟩
        ·rw [if_neg c8] at H
         have c8b0:((rdOf ByteArray.empty l0 x13_1).toList==(rdOf ByteArray.empty l1 x13_1).toList)=false:=beq_eq_false_iff_ne.mpr c8
         have c8b1:((rdOf ByteArray.empty l0 x13_1).toList != (rdOf ByteArray.empty l1 x13_1).toList)=true:=bne_iff_ne.mpr c8
         obtain rfl:=Option.some.inj H
         have p291:0≤(x13_1:Int):=of_decide_eq_true (by first|(with_reducible assumption)|assumption)
         have q291:x13_1 < (l0.length:Int):=of_decide_eq_true (by first|(with_reducible assumption)|assumption)
         obtain ⟨ad291,e291,hx291_0⟩:=Kd.at_string HR0.out x13_1 p291 q291
         cases e291
         replace p291:=eq_true p291
         replace q291:=eq_true q291
         have p292:0≤(x13_1:Int):=of_decide_eq_true (by first|(with_reducible assumption)|assumption)
         have q292:x13_1 < (l1.length:Int):=of_decide_eq_true (by first|(with_reducible assumption)|assumption)
         obtain ⟨ad292,e292,hx292_0⟩:=Kd.at_string HR1.out x13_1 p292 q292
         cases e292
         replace p292:=eq_true p292
         replace q292:=eq_true q292
         go_wp2
         repeat (go_quiet (fail);try go_wp2)
         go_ret
         exact ⟨by first|rfl|(simp;done)|(simp [*];done),by repeat (first|exact Drawn0.refl _|apply Drawn0.step)⟩
       ·rw [if_neg c7] at H
        exact absurd H (by simp)
      ·rw [if_neg c6] at H
       exact absurd H (by simp)
     ·rw [if_neg c5] at H
      exact absurd H (by simp)
    ·rw [if_neg c4] at H
     have c4b0:decide (x13_1 < (l0.length:Int))=false:=decide_eq_false c4
     clear c4
     obtain rfl:=Option.some.inj H
     go_wp2
     repeat (go_quiet (fail);try go_wp2)
     go_ret
     exact ⟨by first|rfl|(simp;done)|(simp [*];done),by repeat (first|exact Drawn0.refl _|apply Drawn0.step)⟩
 ·rw [if_neg c3] at H
  have c3b0:((l0.length:Int)==(l1.length:Int))=false:=beq_eq_false_iff_ne.mpr c3
  have c3b1:((l0.length:Int) != (l1.length:Int))=true:=bne_iff_ne.mpr c3
  have c3b2:(l0.length==l1.length)=false:=by first|simpa using c3|(simp at c3 ⊢;omega)
  obtain rfl:=Option.some.inj H
  go_enter Try.func42,Try.ntmps42
  go_wp2
  repeat (go_quiet (fail);try go_wp2)
  go_ret
  exact ⟨by first|rfl|(simp;done)|(simp [*];done),by repeat (first|exact Drawn0.refl _|apply Drawn0.step)⟩
def latticeplain_Ints.l0:Nat→List Int→List Int→Int→Int→Option (Bool)
 | 0,_,_,_,_=>none
 | k+1,x0,x1,x12,x13=>if x13 < x12 then (if 0≤x13 then (if x13 < (x0.length:Int) then (if x13 < (x1.length:Int) then (if (rd x0 x13)=(rd x1 x13) then (latticeplain_Ints.l0 k x0 x1 x12 (wrap64 (x13+1))) else (some false)) else (none)) else (none)) else (none)) else (some true)
def latticeplain_Ints.f (k:Nat) (l0:List Int) (l1:List Int):Option (Bool):=if (l0.length:Int)=(l1.length:Int) then (latticeplain_Ints.l0 k l0 l1 (l0.length:Int) 0) else (some false)
set_option maxHeartbeats 8000000 in
set_option maxRecDepth 100000 in
theorem latticeplain_Ints.calls (k:Nat) (A0:Option Addr) (c0:Nat) (l0:List Int) (A1:Option Addr) (c1:Nat) (l1:List Int) (r:Bool) (w:World) (hr0:Kd.C (Kd.int .i64) w A0 l0.length l0) (hc0:l0.length≤c0) (hr1:Kd.C (Kd.int .i64) w A1 l1.length l1) (hc1:l1.length≤c1) (h:latticeplain_Ints.f k l0 l1=some r) :
  Calls Try.prog 43 #[.slice A0 l0.length c0,.slice A1 l1.length c1] w fun e w'=>e=.returned (.bool r)∧Drawn0 w w':=by
 have HR0:=Aside0.mk hr0
 have HC0:=Aside0.mk hc0
 clear hr0 hc0
 have HR1:=Aside0.mk hr1
 have HC1:=Aside0.mk hc1
 clear hr1 hc1
 have H:(if (l0.length:Int)=(l1.length:Int) then (latticeplain_Ints.l0 k l0 l1 (l0.length:Int) 0) else (some false))=some r:=h
 clear h
 by_cases c3:(l0.length:Int)=(l1.length:Int)
 ·rw [if_pos c3] at H
  have c3b0:((l0.length:Int)==(l1.length:Int))=true:=beq_iff_eq.mpr c3
  have c3b1:((l0.length:Int) != (l1.length:Int))=false:=bne_eq_false_iff_eq.mpr c3
  have c3b2:(l0.length==l1.length)=true:=by first|simpa using c3|(simp at c3 ⊢;omega)
  clear c3
  have H':=Aside0.mk H
  clear H
  go_enter Try.func43,Try.ntmps43
  go_wp2
  repeat (go_quiet (fail);try go_wp2)
  go_loopg [13] k (fun kq v13 w'=>∃ (x13_1:Int),v13=.int .i64 x13_1∧Aside0 (latticeplain_Ints.l0 kq l0 l1 (l0.length:Int) x13_1=some r)∧Aside0 (kq≤k)∧Drawn0 w w')
  case atStart=>exact ⟨(0),(by first|rfl|(simp;done)|(simp [*];done)),H',⟨Nat.le_refl _⟩,by repeat (first|exact Drawn0.refl _|apply Drawn0.step)⟩
  case round =>
   clear H'
   try clear c1
   try clear p2
   try clear c3
   try clear c3b0
   try clear c3b1
   try clear c3b2
   obtain ⟨x13_1,rfl,HA,HK1,⟨m1,rfl⟩⟩:=hrel
   cases gk with
   | zero=>exact absurd HA.out (by simp [latticeplain_Ints.l0])
   | succ k1 =>
    have H:=HA.out
    clear HA
    simp only [latticeplain_Ints.l0] at H
    by_cases c4:x13_1 < (l0.length:Int)
    ·rw [if_pos c4] at H
     have c4b0:decide (x13_1 < (l0.length:Int))=true:=decide_eq_true c4
     clear c4
     by_cases c5:0≤x13_1
     ·rw [if_pos c5] at H
      have c5b0:decide (0≤x13_1)=true:=decide_eq_true c5
      clear c5
      by_cases c6:x13_1 < (l0.length:Int)
      ·rw [if_pos c6] at H
       have c6b0:decide (x13_1 < (l0.length:Int))=true:=decide_eq_true c6
       clear c6
       by_cases c7:x13_1 < (l1.length:Int)
       ·rw [if_pos c7] at H
        have c7b0:decide (x13_1 < (l1.length:Int))=true:=decide_eq_true c7
        clear c7
        by_cases c8:(rd l0 x13_1)=(rd l1 x13_1)
        ·rw [if_pos c8] at H
         have c8b0:((rd l0 x13_1)==(rd l1 x13_1))=true:=beq_iff_eq.mpr c8
         have c8b1:((rd l0 x13_1) != (rd l1 x13_1))=false:=bne_eq_false_iff_eq.mpr c8
         clear c8
         have H':=Aside0.mk H
         clear H
         have p293:0≤(x13_1:Int):=of_decide_eq_true (by first|(with_reducible assumption)|assumption)
         have q293:x13_1 < (l0.length:Int):=of_decide_eq_true (by first|(with_reducible assumption)|assumption)
         obtain ⟨ad293,e293,hx293_0⟩:=Kd.at_int HR0.out x13_1 p293 q293
         cases e293
         replace p293:=eq_true p293
         replace q293:=eq_true q293
         have p294:0≤(x13_1:Int):=of_decide_eq_true (by first|(with_reducible assumption)|assumption)
         have q294:x13_1 < (l1.length:Int):=of_decide_eq_true (by first|(with_reducible assumption)|assumption)
         obtain ⟨ad294,e294,hx294_0⟩:=Kd.at_int HR1.out x13_1 p294 q294
         cases e294
         replace p294:=eq_true p294
         replace q294:=eq_true q294
         go_wp2
         repeat (go_quiet (fail);try go_wp2)
         go_roundg k1
         case measure=>have:=HK1.out;omega
         case rel=>exact ⟨(wrap64 (x13_1+1)),(by first|rfl|(simp;done)|(simp [*];done)),H',⟨by have:=HK1.out;omega⟩,by repeat (first|exact Drawn0.refl _|apply Drawn0.step)⟩
        ·rw [if_neg c8] at H
         have c8b0:((rd l0 x13_1)==(rd l1 x13_1))=false:=beq_eq_false_iff_ne.mpr c8
         have c8b1:((rd l0 x13_1) != (rd l1 x13_1))=true:=bne_iff_ne.mpr c8
         obtain rfl:=Option.some.inj H
         have p293:0≤(x13_1:Int):=of_decide_eq_true (by first|(with_reducible assumption)|assumption)
         have q293:x13_1 < (l0.length:Int):=of_decide_eq_true (by first|(with_reducible assumption)|assumption)
         obtain ⟨ad293,e293,hx293_0⟩:=Kd.at_int HR0.out x13_1 p293 q293
         cases e293
         replace p293:=eq_true p293
         replace q293:=eq_true q293
         have p294:0≤(x13_1:Int):=of_decide_eq_true (by first|(with_reducible assumption)|assumption)
         have q294:x13_1 < (l1.length:Int):=of_decide_eq_true (by first|(with_reducible assumption)|assumption)
         obtain ⟨ad294,e294,hx294_0⟩:=Kd.at_int HR1.out x13_1 p294 q294
         cases e294
         replace p294:=eq_true p294
         replace q294:=eq_true q294
         go_wp2
         repeat (go_quiet (fail);try go_wp2)
         go_ret
         exact ⟨by first|rfl|(simp;done)|(simp [*];done),by repeat (first|exact Drawn0.refl _|apply Drawn0.step)⟩
       ·rw [if_neg c7] at H
        exact absurd H (by simp)
      ·rw [if_neg c6] at H
       exact absurd H (by simp)
     ·rw [if_neg c5] at H
      exact absurd H (by simp)
    ·rw [if_neg c4] at H
     have c4b0:decide (x13_1 < (l0.length:Int))=false:=decide_eq_false c4
     clear c4
     obtain rfl:=Option.some.inj H
     go_wp2
     repeat (go_quiet (fail);try go_wp2)
     go_ret
     exact ⟨by first|rfl|(simp;done)|(simp [*];done),by repeat (first|exact Drawn0.refl _|apply Drawn0.step)⟩
 ·rw [if_neg c3] at H
  have c3b0:((l0.length:Int)==(l1.length:Int))=false:=beq_eq_false_iff_ne.mpr c3
  have c3b1:((l0.length:Int) != (l1.length:Int))=true:=bne_iff_ne.mpr c3
  have c3b2:(l0.length==l1.length)=false:=by first|simpa using c3|(simp at c3 ⊢;omega)
  obtain rfl:=Option.some.inj H
  go_enter Try.func43,Try.ntmps43
  go_wp2
  repeat (go_quiet (fail);try go_wp2)
  go_ret
  exact ⟨by first|rfl|(simp;done)|(simp [*];done),by repeat (first|exact Drawn0.refl _|apply Drawn0.step)⟩
def latticeplain_Node.f (k:Nat) (a0_0:Int) (a0_1:Int) (a0_2:Int) (a0_3:ByteArray) (l0_4:List ByteArray) (l0_5:List ByteArray) (l0_6:List Int) (a1_0:Int) (a1_1:Int) (a1_2:Int) (a1_3:ByteArray) (l1_4:List ByteArray) (l1_5:List ByteArray) (l1_6:List Int):Option (Bool):=if a0_0=a1_0 then (if a0_1=a1_1 then (if a0_2=a1_2 then (if a0_3.toList=a1_3.toList then ((latticeplain_Texts.f k l0_4 l1_4).bind fun t297=>(if t297=true then ((latticeplain_Texts.f k l0_5 l1_5).bind fun t298=>(if t298=true then ((latticeplain_Ints.f k l0_6 l1_6).bind fun t299=>(some t299)) else (some false))) else (some false))) else (some false)) else (some false)) else (some false)) else (some false)
set_option maxHeartbeats 8000000 in
set_option maxRecDepth 100000 in
theorem latticeplain_Node.calls (k:Nat) (a0_0:Int) (a0_1:Int) (a0_2:Int) (a0_3:ByteArray) (A0_4:Option Addr) (c0_4:Nat) (l0_4:List ByteArray) (A0_5:Option Addr) (c0_5:Nat) (l0_5:List ByteArray) (A0_6:Option Addr) (c0_6:Nat) (l0_6:List Int) (a1_0:Int) (a1_1:Int) (a1_2:Int) (a1_3:ByteArray) (A1_4:Option Addr) (c1_4:Nat) (l1_4:List ByteArray) (A1_5:Option Addr) (c1_5:Nat) (l1_5:List ByteArray) (A1_6:Option Addr) (c1_6:Nat) (l1_6:List Int) (r:Bool) (w:World) (hr0_4:Kd.C Kd.string w A0_4 l0_4.length l0_4) (hc0_4:l0_4.length≤c0_4) (hr0_5:Kd.C Kd.string w A0_5 l0_5.length l0_5) (hc0_5:l0_5.length≤c0_5) (hr0_6:Kd.C (Kd.int .i64) w A0_6 l0_6.length l0_6) (hc0_6:l0_6.length≤c0_6) (hr1_4:Kd.C Kd.string w A1_4 l1_4.length l1_4) (hc1_4:l1_4.length≤c1_4) (hr1_5:Kd.C Kd.string w A1_5 l1_5.length l1_5) (hc1_5:l1_5.length≤c1_5) (hr1_6:Kd.C (Kd.int .i64) w A1_6 l1_6.length l1_6) (hc1_6:l1_6.length≤c1_6) (h:latticeplain_Node.f k a0_0 a0_1 a0_2 a0_3 l0_4 l0_5 l0_6 a1_0 a1_1 a1_2 a1_3 l1_4 l1_5 l1_6=some r) :
  Calls Try.prog 16 #[.agg #[.int .i64 a0_0,.int .i64 a0_1,.int .i64 a0_2,.string a0_3,.slice A0_4 l0_4.length c0_4,.slice A0_5 l0_5.length c0_5,.slice A0_6 l0_6.length c0_6],.agg #[.int .i64 a1_0,.int .i64 a1_1,.int .i64 a1_2,.string a1_3,.slice A1_4 l1_4.length c1_4,.slice A1_5 l1_5.length c1_5,.slice A1_6 l1_6.length c1_6]] w fun e w'=>e=.returned (.bool r)∧Below w.heap.size w w':=by
 have hu25:=Try.underlying25
 have HR0_4:=Aside0.mk hr0_4
 have HC0_4:=Aside0.mk hc0_4
 clear hr0_4 hc0_4
 have HR0_5:=Aside0.mk hr0_5
 have HC0_5:=Aside0.mk hc0_5
 clear hr0_5 hc0_5
 have HR0_6:=Aside0.mk hr0_6
 have HC0_6:=Aside0.mk hc0_6
 clear hr0_6 hc0_6
 have HR1_4:=Aside0.mk hr1_4
 have HC1_4:=Aside0.mk hc1_4
 clear hr1_4 hc1_4
 have HR1_5:=Aside0.mk hr1_5
 have HC1_5:=Aside0.mk hc1_5
 clear hr1_5 hc1_5
 have HR1_6:=Aside0.mk hr1_6
 have HC1_6:=Aside0.mk hc1_6
 clear hr1_6 hc1_6
 have HB:=Aside0.mk (Below.refl w.heap.size w)
 have H:(if a0_0=a1_0 then (if a0_1=a1_1 then (if a0_2=a1_2 then (if a0_3.toList=a1_3.toList then ((latticeplain_Texts.f k l0_4 l1_4).bind fun t297=>(if t297=true then ((latticeplain_Texts.f k l0_5 l1_5).bind fun t298=>(if t298=true then ((latticeplain_Ints.f k l0_6 l1_6).bind fun t299=>(some t299)) else (some false))) else (some false))) else (some false)) else (some false)) else (some false)) else (some false))=some r:=h
 clear h
 by_cases c3:a0_0=a1_0
 ·rw [if_pos c3] at H
  have c3b0:(a0_0==a1_0)=true:=beq_iff_eq.mpr c3
  have c3b1:(a0_0 != a1_0)=false:=bne_eq_false_iff_eq.mpr c3
  clear c3
  by_cases c4:a0_1=a1_1
  ·rw [if_pos c4] at H
   have c4b0:(a0_1==a1_1)=true:=beq_iff_eq.mpr c4
   have c4b1:(a0_1 != a1_1)=false:=bne_eq_false_iff_eq.mpr c4
   clear c4
   by_cases c5:a0_2=a1_2
   ·rw [if_pos c5] at H
    have c5b0:(a0_2==a1_2)=true:=beq_iff_eq.mpr c5
    have c5b1:(a0_2 != a1_2)=false:=bne_eq_false_iff_eq.mpr c5
    clear c5
    by_cases c6:a0_3.toList=a1_3.toList
    ·rw [if_pos c6] at H
     have c6b0:(a0_3.toList==a1_3.toList)=true:=beq_iff_eq.mpr c6
     have c6b1:(a0_3.toList != a1_3.toList)=false:=bne_eq_false_iff_eq.mpr c6
     clear c6
     replace H:=Option.bind_eq_some_iff.mp H
     obtain ⟨t297,A70,H⟩:=H
     try dsimp only at H
     have A7:=Aside0.mk A70
     clear A70
     by_cases c8:t297=true
     ·subst c8
      have H1:((latticeplain_Texts.f k l0_5 l1_5).bind fun t298=>(if t298=true then ((latticeplain_Ints.f k l0_6 l1_6).bind fun t299=>(some t299)) else (some false)))=some r:=by rw [if_pos rfl] at H;exact H
      clear H
      have H:=H1
      clear H1
      replace H:=Option.bind_eq_some_iff.mp H
      obtain ⟨t298,A90,H⟩:=H
      try dsimp only at H
      have A9:=Aside0.mk A90
      clear A90
      by_cases c10:t298=true
      ·subst c10
       have H1:((latticeplain_Ints.f k l0_6 l1_6).bind fun t299=>(some t299))=some r:=by rw [if_pos rfl] at H;exact H
       clear H
       have H:=H1
       clear H1
       replace H:=Option.bind_eq_some_iff.mp H
       obtain ⟨t299,A110,H⟩:=H
       replace H:(some t299)=some r:=H
       have A11:=Aside0.mk A110
       clear A110
       obtain rfl:=Option.some.inj H
       go_enter Try.func16,Try.ntmps16
       go_wp2_with (first|((with_reducible refine gate_dst (N:=2) rfl ?_);refine box_event ?hg (N:=2) ?hd (cs:=#[.int .i64 a0_0,.int .i64 a0_1,.int .i64 a0_2,.string a0_3,.slice A0_4 l0_4.length c0_4,.slice A0_5 l0_5.length c0_5,.slice A0_6 l0_6.length c0_6]) (t:=25) ?hr ?_;(case hd=>rfl);(case hg=>rfl);(case hr=>first|(go_simp;done)|(go_simp;rfl));intro gb295 hg w12 hbox hb;have n0_:=Aside0.mk (below_step (by repeat (first|(with_reducible first|exact HB.out|apply below_alloc|apply pw_below_drewN|apply below_drew1)|exact HB.out)) hb);have n1_:=Aside0.mk (hbox);have n2_:=Aside0.mk ((by rw [hg];exact (below_size (by repeat (first|(with_reducible first|exact HB.out|apply below_alloc|apply pw_below_drewN|apply below_drew1)|exact HB.out))):w.heap.size≤gb295));have n3_:=Aside0.mk ((by rw [hg];exact (below_size (by repeat (first|(with_reducible first|exact HB.out|apply below_alloc|apply pw_below_drewN|apply below_drew1)|exact HB.out))):w.heap.size≤gb295));clear HB;have HB:=n0_;have BK295:=n1_;have GW295:=n2_;have GE295:=n3_;clear n0_ n1_ n2_ n3_;clear hb hbox hg)|((with_reducible refine gate_dst (N:=3) rfl ?_);refine box_event ?hg (N:=3) ?hd (cs:=#[.int .i64 a1_0,.int .i64 a1_1,.int .i64 a1_2,.string a1_3,.slice A1_4 l1_4.length c1_4,.slice A1_5 l1_5.length c1_5,.slice A1_6 l1_6.length c1_6]) (t:=25) ?hr ?_;(case hd=>rfl);(case hg=>rfl);(case hr=>first|(go_simp;done)|(go_simp;rfl));intro gb296 hg w13 hbox hb;have n0_:=Aside0.mk (blk_below (g:=gb295) (o:=.cells #[.int .i64 a0_0,.int .i64 a0_1,.int .i64 a0_2,.string a0_3,.slice A0_4 l0_4.length c0_4,.slice A0_5 l0_5.length c0_5,.slice A0_6 l0_6.length c0_6] 25 (0,0)) (by (with_reducible repeat (first|refine blk_drewN ?_ _|refine blk_drew ?_|refine blk_alloc ?_ _));exact BK295.out) hb);have n1_:=Aside0.mk (below_step (by repeat (first|(with_reducible first|exact HB.out|apply below_alloc|apply pw_below_drewN|apply below_drew1|refine below_set ?_ GE295.out)|exact HB.out)) hb);have n2_:=Aside0.mk (hbox);have n3_:=Aside0.mk ((by rw [hg];exact (below_size (by repeat (first|(with_reducible first|exact HB.out|apply below_alloc|apply pw_below_drewN|apply below_drew1|refine below_set ?_ GE295.out)|exact HB.out))):w.heap.size≤gb296));have n4_:=Aside0.mk ((by rw [hg];exact (below_size (by repeat (first|(with_reducible first|exact HB.out|apply below_alloc|apply pw_below_drewN|apply below_drew1|refine below_set ?_ GE295.out)|exact HB.out))):w.heap.size≤gb296));have n5_:=Aside0.mk ((by rw [hg];exact Nat.ne_of_lt (blk_lt (g:=gb295) (o:=.cells #[.int .i64 a0_0,.int .i64 a0_1,.int .i64 a0_2,.string a0_3,.slice A0_4 l0_4.length c0_4,.slice A0_5 l0_5.length c0_5,.slice A0_6 l0_6.length c0_6] 25 (0,0)) (by (with_reducible repeat (first|refine blk_drewN ?_ _|refine blk_drew ?_|refine blk_alloc ?_ _));exact BK295.out)):gb295≠gb296));have n6_:=Aside0.mk ((by rw [hg];exact Nat.ne_of_gt (blk_lt (g:=gb295) (o:=.cells #[.int .i64 a0_0,.int .i64 a0_1,.int .i64 a0_2,.string a0_3,.slice A0_4 l0_4.length c0_4,.slice A0_5 l0_5.length c0_5,.slice A0_6 l0_6.length c0_6] 25 (0,0)) (by (with_reducible repeat (first|refine blk_drewN ?_ _|refine blk_drew ?_|refine blk_alloc ?_ _));exact BK295.out)):gb296≠gb295));clear BK295;clear HB;have BK295:=n0_;have HB:=n1_;have BK296:=n2_;have GW296:=n3_;have GE296:=n4_;have NB295_296:=n5_;have NB296_295:=n6_;clear n0_ n1_ n2_ n3_ n4_ n5_ n6_;clear hb hbox hg;have hnb14:=NB295_296.out;have hnc14:=NB296_295.out;have hcz15_0:w13.cell? ⟨gb295,0,none⟩=some (.int .i64 a0_0):=(blk_cell BK295.out 0).trans rfl;have hcz15_1:w13.cell? ⟨gb295,1,none⟩=some (.int .i64 a0_1):=(blk_cell BK295.out 1).trans rfl;have hcz15_2:w13.cell? ⟨gb295,2,none⟩=some (.int .i64 a0_2):=(blk_cell BK295.out 2).trans rfl;have hcz15_3:w13.cell? ⟨gb295,3,none⟩=some (.string a0_3):=(blk_cell BK295.out 3).trans rfl;have hcz15_4:w13.cell? ⟨gb295,4,none⟩=some (.slice A0_4 l0_4.length c0_4):=(blk_cell BK295.out 4).trans rfl;have hcz15_5:w13.cell? ⟨gb295,5,none⟩=some (.slice A0_5 l0_5.length c0_5):=(blk_cell BK295.out 5).trans rfl;have hcz15_6:w13.cell? ⟨gb295,6,none⟩=some (.slice A0_6 l0_6.length c0_6):=(blk_cell BK295.out 6).trans rfl;have hfz15_0:=blk_frozen BK295.out 0;have hfz15_1:=blk_frozen BK295.out 1;have hfz15_2:=blk_frozen BK295.out 2;have hfz15_3:=blk_frozen BK295.out 3;have hfz15_4:=blk_frozen BK295.out 4;have hfz15_5:=blk_frozen BK295.out 5;have hfz15_6:=blk_frozen BK295.out 6;have hcz16_0:w13.cell? ⟨gb296,0,none⟩=some (.int .i64 a1_0):=(blk_cell BK296.out 0).trans rfl;have hcz16_1:w13.cell? ⟨gb296,1,none⟩=some (.int .i64 a1_1):=(blk_cell BK296.out 1).trans rfl;have hcz16_2:w13.cell? ⟨gb296,2,none⟩=some (.int .i64 a1_2):=(blk_cell BK296.out 2).trans rfl;have hcz16_3:w13.cell? ⟨gb296,3,none⟩=some (.string a1_3):=(blk_cell BK296.out 3).trans rfl;have hcz16_4:w13.cell? ⟨gb296,4,none⟩=some (.slice A1_4 l1_4.length c1_4):=(blk_cell BK296.out 4).trans rfl;have hcz16_5:w13.cell? ⟨gb296,5,none⟩=some (.slice A1_5 l1_5.length c1_5):=(blk_cell BK296.out 5).trans rfl;have hcz16_6:w13.cell? ⟨gb296,6,none⟩=some (.slice A1_6 l1_6.length c1_6):=(blk_cell BK296.out 6).trans rfl;have hfz16_0:=blk_frozen BK296.out 0;have hfz16_1:=blk_frozen BK296.out 1;have hfz16_2:=blk_frozen BK296.out 2;have hfz16_3:=blk_frozen BK296.out 3;have hfz16_4:=blk_frozen BK296.out 4;have hfz16_5:=blk_frozen BK296.out 5;have hfz16_6:=blk_frozen BK296.out 6)|(go_at_call 42;(with_reducible refine (latticeplain_Texts.calls k _ _ l0_4 _ _ l1_4 true _ ?side1 ?side2 ?side3 ?side4 A7.out).mono ?_);(case side1=>repeat (first|exact (Kd.C_below HR0_4.out HB.out)|(with_reducible refine Kd.C_alloc ?_ _)|(with_reducible refine Kd.C_drewN ?_ _)|(with_reducible refine Kd.C_drew ?_)));(case side2=>exact HC0_4.out);(case side3=>repeat (first|exact (Kd.C_below HR1_4.out HB.out)|(with_reducible refine Kd.C_alloc ?_ _)|(with_reducible refine Kd.C_drewN ?_ _)|(with_reducible refine Kd.C_drew ?_)));(case side4=>exact HC1_4.out);rintro e w' ⟨rfl,⟨nd,rfl⟩⟩)|(go_at_call 42;(with_reducible refine (latticeplain_Texts.calls k _ _ l0_5 _ _ l1_5 true _ ?side1 ?side2 ?side3 ?side4 A9.out).mono ?_);(case side1=>repeat (first|exact (Kd.C_below HR0_5.out (by repeat (first|(with_reducible first|exact HB.out|apply below_alloc|apply pw_below_drewN|apply below_drew1|refine below_set ?_ GE295.out|refine below_set ?_ GE296.out)|exact HB.out)))|(with_reducible refine Kd.C_alloc ?_ _)|(with_reducible refine Kd.C_drewN ?_ _)|(with_reducible refine Kd.C_drew ?_)));(case side2=>exact HC0_5.out);(case side3=>repeat (first|exact (Kd.C_below HR1_5.out (by repeat (first|(with_reducible first|exact HB.out|apply below_alloc|apply pw_below_drewN|apply below_drew1|refine below_set ?_ GE295.out|refine below_set ?_ GE296.out)|exact HB.out)))|(with_reducible refine Kd.C_alloc ?_ _)|(with_reducible refine Kd.C_drewN ?_ _)|(with_reducible refine Kd.C_drew ?_)));(case side4=>exact HC1_5.out);rintro e w' ⟨rfl,⟨nd,rfl⟩⟩)|(go_at_call 43;(with_reducible refine (latticeplain_Ints.calls k _ _ l0_6 _ _ l1_6 t299 _ ?side1 ?side2 ?side3 ?side4 A11.out).mono ?_);(case side1=>repeat (first|exact (Kd.C_below HR0_6.out (by repeat (first|(with_reducible first|exact HB.out|apply below_alloc|apply pw_below_drewN|apply below_drew1|refine below_set ?_ GE295.out|refine below_set ?_ GE296.out)|exact HB.out)))|(with_reducible refine Kd.C_alloc ?_ _)|(with_reducible refine Kd.C_drewN ?_ _)|(with_reducible refine Kd.C_drew ?_)));(case side2=>exact HC0_6.out);(case side3=>repeat (first|exact (Kd.C_below HR1_6.out (by repeat (first|(with_reducible first|exact HB.out|apply below_alloc|apply pw_below_drewN|apply below_drew1|refine below_set ?_ GE295.out|refine below_set ?_ GE296.out)|exact HB.out)))|(with_reducible refine Kd.C_alloc ?_ _)|(with_reducible refine Kd.C_drewN ?_ _)|(with_reducible refine Kd.C_drew ?_)));(case side4=>exact HC1_6.out);rintro e w' ⟨rfl,⟨nd,rfl⟩⟩))
       go_ret
       exact ⟨by first|rfl|(simp [errW_none,errW_some] <;> rfl)|(simp [*,errW_none,errW_some] <;> rfl),by repeat (first|(with_reducible first|exact HB.out|apply below_alloc|apply pw_below_drewN|apply below_drew1|refine below_set ?_ GE295.out|refine below_set ?_ GE296.out)|exact HB.out)⟩
      ·replace c10:=Bool.eq_false_iff.mpr c10
       subst c10
       have H1:(some false)=some r:=by rw [if_neg (show ¬ (false=true) by decide)] at H;exact H
       clear H
       have H:=H1
       clear H1
       obtain rfl:=Option.some.inj H
       go_enter Try.func16,Try.ntmps16
       go_wp2_with (first|((with_reducible refine gate_dst (N:=2) rfl ?_);refine box_event ?hg (N:=2) ?hd (cs:=#[.int .i64 a0_0,.int .i64 a0_1,.int .i64 a0_2,.string a0_3,.slice A0_4 l0_4.length c0_4,.slice A0_5 l0_5.length c0_5,.slice A0_6 l0_6.length c0_6]) (t:=25) ?hr ?_;(case hd=>rfl);(case hg=>rfl);(case hr=>first|(go_simp;done)|(go_simp;rfl));intro gb295 hg w17 hbox hb;have n0_:=Aside0.mk (below_step (by repeat (first|(with_reducible first|exact HB.out|apply below_alloc|apply pw_below_drewN|apply below_drew1)|exact HB.out)) hb);have n1_:=Aside0.mk (hbox);have n2_:=Aside0.mk ((by rw [hg];exact (below_size (by repeat (first|(with_reducible first|exact HB.out|apply below_alloc|apply pw_below_drewN|apply below_drew1)|exact HB.out))):w.heap.size≤gb295));have n3_:=Aside0.mk ((by rw [hg];exact (below_size (by repeat (first|(with_reducible first|exact HB.out|apply below_alloc|apply pw_below_drewN|apply below_drew1)|exact HB.out))):w.heap.size≤gb295));clear HB;have HB:=n0_;have BK295:=n1_;have GW295:=n2_;have GE295:=n3_;clear n0_ n1_ n2_ n3_;clear hb hbox hg)|((with_reducible refine gate_dst (N:=3) rfl ?_);refine box_event ?hg (N:=3) ?hd (cs:=#[.int .i64 a1_0,.int .i64 a1_1,.int .i64 a1_2,.string a1_3,.slice A1_4 l1_4.length c1_4,.slice A1_5 l1_5.length c1_5,.slice A1_6 l1_6.length c1_6]) (t:=25) ?hr ?_;(case hd=>rfl);(case hg=>rfl);(case hr=>first|(go_simp;done)|(go_simp;rfl));intro gb296 hg w18 hbox hb;have n0_:=Aside0.mk (blk_below (g:=gb295) (o:=.cells #[.int .i64 a0_0,.int .i64 a0_1,.int .i64 a0_2,.string a0_3,.slice A0_4 l0_4.length c0_4,.slice A0_5 l0_5.length c0_5,.slice A0_6 l0_6.length c0_6] 25 (0,0)) (by (with_reducible repeat (first|refine blk_drewN ?_ _|refine blk_drew ?_|refine blk_alloc ?_ _));exact BK295.out) hb);have n1_:=Aside0.mk (below_step (by repeat (first|(with_reducible first|exact HB.out|apply below_alloc|apply pw_below_drewN|apply below_drew1|refine below_set ?_ GE295.out)|exact HB.out)) hb);have n2_:=Aside0.mk (hbox);have n3_:=Aside0.mk ((by rw [hg];exact (below_size (by repeat (first|(with_reducible first|exact HB.out|apply below_alloc|apply pw_below_drewN|apply below_drew1|refine below_set ?_ GE295.out)|exact HB.out))):w.heap.size≤gb296));have n4_:=Aside0.mk ((by rw [hg];exact (below_size (by repeat (first|(with_reducible first|exact HB.out|apply below_alloc|apply pw_below_drewN|apply below_drew1|refine below_set ?_ GE295.out)|exact HB.out))):w.heap.size≤gb296));have n5_:=Aside0.mk ((by rw [hg];exact Nat.ne_of_lt (blk_lt (g:=gb295) (o:=.cells #[.int .i64 a0_0,.int .i64 a0_1,.int .i64 a0_2,.string a0_3,.slice A0_4 l0_4.length c0_4,.slice A0_5 l0_5.length c0_5,.slice A0_6 l0_6.length c0_6] 25 (0,0)) (by (with_reducible repeat (first|refine blk_drewN ?_ _|refine blk_drew ?_|refine blk_alloc ?_ _));exact BK295.out)):gb295≠gb296));have n6_:=Aside0.mk ((by rw [hg];exact Nat.ne_of_gt (blk_lt (g:=gb295) (o:=.cells #[.int .i64 a0_0,.int .i64 a0_1,.int .i64 a0_2,.string a0_3,.slice A0_4 l0_4.length c0_4,.slice A0_5 l0_5.length c0_5,.slice A0_6 l0_6.length c0_6] 25 (0,0)) (by (with_reducible repeat (first|refine blk_drewN ?_ _|refine blk_drew ?_|refine blk_alloc ?_ _));exact BK295.out)):gb296≠gb295));clear BK295;clear HB;have BK295:=n0_;have HB:=n1_;have BK296:=n2_;have GW296:=n3_;have GE296:=n4_;have NB295_296:=n5_;have NB296_295:=n6_;clear n0_ n1_ n2_ n3_ n4_ n5_ n6_;clear hb hbox hg;have hnb19:=NB295_296.out;have hnc19:=NB296_295.out;have hcz20_0:w18.cell? ⟨gb295,0,none⟩=some (.int .i64 a0_0):=(blk_cell BK295.out 0).trans rfl;have hcz20_1:w18.cell? ⟨gb295,1,none⟩=some (.int .i64 a0_1):=(blk_cell BK295.out 1).trans rfl;have hcz20_2:w18.cell? ⟨gb295,2,none⟩=some (.int .i64 a0_2):=(blk_cell BK295.out 2).trans rfl;have hcz20_3:w18.cell? ⟨gb295,3,none⟩=some (.string a0_3):=(blk_cell BK295.out 3).trans rfl;have hcz20_4:w18.cell? ⟨gb295,4,none⟩=some (.slice A0_4 l0_4.length c0_4):=(blk_cell BK295.out 4).trans rfl;have hcz20_5:w18.cell? ⟨gb295,5,none⟩=some (.slice A0_5 l0_5.length c0_5):=(blk_cell BK295.out 5).trans rfl;have hcz20_6:w18.cell? ⟨gb295,6,none⟩=some (.slice A0_6 l0_6.length c0_6):=(blk_cell BK295.out 6).trans rfl;have hfz20_0:=blk_frozen BK295.out 0;have hfz20_1:=blk_frozen BK295.out 1;have hfz20_2:=blk_frozen BK295.out 2;have hfz20_3:=blk_frozen BK295.out 3;have hfz20_4:=blk_frozen BK295.out 4;have hfz20_5:=blk_frozen BK295.out 5;have hfz20_6:=blk_frozen BK295.out 6;have hcz21_0:w18.cell? ⟨gb296,0,none⟩=some (.int .i64 a1_0):=(blk_cell BK296.out 0).trans rfl;have hcz21_1:w18.cell? ⟨gb296,1,none⟩=some (.int .i64 a1_1):=(blk_cell BK296.out 1).trans rfl;have hcz21_2:w18.cell? ⟨gb296,2,none⟩=some (.int .i64 a1_2):=(blk_cell BK296.out 2).trans rfl;have hcz21_3:w18.cell? ⟨gb296,3,none⟩=some (.string a1_3):=(blk_cell BK296.out 3).trans rfl;have hcz21_4:w18.cell? ⟨gb296,4,none⟩=some (.slice A1_4 l1_4.length c1_4):=(blk_cell BK296.out 4).trans rfl;have hcz21_5:w18.cell? ⟨gb296,5,none⟩=some (.slice A1_5 l1_5.length c1_5):=(blk_cell BK296.out 5).trans rfl;have hcz21_6:w18.cell? ⟨gb296,6,none⟩=some (.slice A1_6 l1_6.length c1_6):=(blk_cell BK296.out 6).trans rfl;have hfz21_0:=blk_frozen BK296.out 0;have hfz21_1:=blk_frozen BK296.out 1;have hfz21_2:=blk_frozen BK296.out 2;have hfz21_3:=blk_frozen BK296.out 3;have hfz21_4:=blk_frozen BK296.out 4;have hfz21_5:=blk_frozen BK296.out 5;have hfz21_6:=blk_frozen BK296.out 6)|(go_at_call 42;(with_reducible refine (latticeplain_Texts.calls k _ _ l0_4 _ _ l1_4 true _ ?side1 ?side2 ?side3 ?side4 A7.out).mono ?_);(case side1=>repeat (first|exact (Kd.C_below HR0_4.out HB.out)|(with_reducible refine Kd.C_alloc ?_ _)|(with_reducible refine Kd.C_drewN ?_ _)|(with_reducible refine Kd.C_drew ?_)));(case side2=>exact HC0_4.out);(case side3=>repeat (first|exact (Kd.C_below HR1_4.out HB.out)|(with_reducible refine Kd.C_alloc ?_ _)|(with_reducible refine Kd.C_drewN ?_ _)|(with_reducible refine Kd.C_drew ?_)));(case side4=>exact HC1_4.out);rintro e w' ⟨rfl,⟨nd,rfl⟩⟩)|(go_at_call 42;(with_reducible refine (latticeplain_Texts.calls k _ _ l0_5 _ _ l1_5 false _ ?side1 ?side2 ?side3 ?side4 A9.out).mono ?_);(case side1=>repeat (first|exact (Kd.C_below HR0_5.out (by repeat (first|(with_reducible first|exact HB.out|apply below_alloc|apply pw_below_drewN|apply below_drew1|refine below_set ?_ GE295.out|refine below_set ?_ GE296.out)|exact HB.out)))|(with_reducible refine Kd.C_alloc ?_ _)|(with_reducible refine Kd.C_drewN ?_ _)|(with_reducible refine Kd.C_drew ?_)));(case side2=>exact HC0_5.out);(case side3=>repeat (first|exact (Kd.C_below HR1_5.out (by repeat (first|(with_reducible first|exact HB.out|apply below_alloc|apply pw_below_drewN|apply below_drew1|refine below_set ?_ GE295.out|refine below_set ?_ GE296.out)|exact HB.out)))|(with_reducible refine Kd.C_alloc ?_ _)|(with_reducible refine Kd.C_drewN ?_ _)|(with_reducible refine Kd.C_drew ?_)));(case side4=>exact HC1_5.out);rintro e w' ⟨rfl,⟨nd,rfl⟩⟩))
       go_ret
       exact ⟨by first|rfl|(simp [errW_none,errW_some] <;> rfl)|(simp [*,errW_none,errW_some] <;> rfl),by repeat (first|(with_reducible first|exact HB.out|apply below_alloc|apply pw_below_drewN|apply below_drew1|refine below_set ?_ GE295.out|refine below_set ?_ GE296.out)|exact HB.out)⟩
     ·replace c8:=Bool.eq_false_iff.mpr c8
      subst c8
      have H1:(some false)=some r:=by rw [if_neg (show ¬ (false=true) by decide)] at H;exact H
      clear H
      have H:=H1
      clear H1
      obtain rfl:=Option.some.inj H
      go_enter Try.func16,Try.ntmps16
      go_wp2_with (first|((with_reducible refine gate_dst (N:=2) rfl ?_);refine box_event ?hg (N:=2) ?hd (cs:=#[.int .i64 a0_0,.int .i64 a0_1,.int .i64 a0_2,.string a0_3,.slice A0_4 l0_4.length c0_4,.slice A0_5 l0_5.length c0_5,.slice A0_6 l0_6.length c0_6]) (t:=25) ?hr ?_;(case hd=>rfl);(case hg=>rfl);(case hr=>first|(go_simp;done)|(go_simp;rfl));intro gb295 hg w22 hbox hb;have n0_:=Aside0.mk (below_step (by repeat (first|(with_reducible first|exact HB.out|apply below_alloc|apply pw_below_drewN|apply below_drew1)|exact HB.out)) hb);have n1_:=Aside0.mk (hbox);have n2_:=Aside0.mk ((by rw [hg];exact (below_size (by repeat (first|(with_reducible first|exact HB.out|apply below_alloc|apply pw_below_drewN|apply below_drew1)|exact HB.out))):w.heap.size≤gb295));have n3_:=Aside0.mk ((by rw [hg];exact (below_size (by repeat (first|(with_reducible first|exact HB.out|apply below_alloc|apply pw_below_drewN|apply below_drew1)|exact HB.out))):w.heap.size≤gb295));clear HB;have HB:=n0_;have BK295:=n1_;have GW295:=n2_;have GE295:=n3_;clear n0_ n1_ n2_ n3_;clear hb hbox hg)|((with_reducible refine gate_dst (N:=3) rfl ?_);refine box_event ?hg (N:=3) ?hd (cs:=#[.int .i64 a1_0,.int .i64 a1_1,.int .i64 a1_2,.string a1_3,.slice A1_4 l1_4.length c1_4,.slice A1_5 l1_5.length c1_5,.slice A1_6 l1_6.length c1_6]) (t:=25) ?hr ?_;(case hd=>rfl);(case hg=>rfl);(case hr=>first|(go_simp;done)|(go_simp;rfl));intro gb296 hg w23 hbox hb;have n0_:=Aside0.mk (blk_below (g:=gb295) (o:=.cells #[.int .i64 a0_0,.int .i64 a0_1,.int .i64 a0_2,.string a0_3,.slice A0_4 l0_4.length c0_4,.slice A0_5 l0_5.length c0_5,.slice A0_6 l0_6.length c0_6] 25 (0,0)) (by (with_reducible repeat (first|refine blk_drewN ?_ _|refine blk_drew ?_|refine blk_alloc ?_ _));exact BK295.out) hb);have n1_:=Aside0.mk (below_step (by repeat (first|(with_reducible first|exact HB.out|apply below_alloc|apply pw_below_drewN|apply below_drew1|refine below_set ?_ GE295.out)|exact HB.out)) hb);have n2_:=Aside0.mk (hbox);have n3_:=Aside0.mk ((by rw [hg];exact (below_size (by repeat (first|(with_reducible first|exact HB.out|apply below_alloc|apply pw_below_drewN|apply below_drew1|refine below_set ?_ GE295.out)|exact HB.out))):w.heap.size≤gb296));have n4_:=Aside0.mk ((by rw [hg];exact (below_size (by repeat (first|(with_reducible first|exact HB.out|apply below_alloc|apply pw_below_drewN|apply below_drew1|refine below_set ?_ GE295.out)|exact HB.out))):w.heap.size≤gb296));have n5_:=Aside0.mk ((by rw [hg];exact Nat.ne_of_lt (blk_lt (g:=gb295) (o:=.cells #[.int .i64 a0_0,.int .i64 a0_1,.int .i64 a0_2,.string a0_3,.slice A0_4 l0_4.length c0_4,.slice A0_5 l0_5.length c0_5,.slice A0_6 l0_6.length c0_6] 25 (0,0)) (by (with_reducible repeat (first|refine blk_drewN ?_ _|refine blk_drew ?_|refine blk_alloc ?_ _));exact BK295.out)):gb295≠gb296));have n6_:=Aside0.mk ((by rw [hg];exact Nat.ne_of_gt (blk_lt (g:=gb295) (o:=.cells #[.int .i64 a0_0,.int .i64 a0_1,.int .i64 a0_2,.string a0_3,.slice A0_4 l0_4.length c0_4,.slice A0_5 l0_5.length c0_5,.slice A0_6 l0_6.length c0_6] 25 (0,0)) (by (with_reducible repeat (first|refine blk_drewN ?_ _|refine blk_drew ?_|refine blk_alloc ?_ _));exact BK295.out)):gb296≠gb295));clear BK295;clear HB;have BK295:=n0_;have HB:=n1_;have BK296:=n2_;have GW296:=n3_;have GE296:=n4_;have NB295_296:=n5_;have NB296_295:=n6_;clear n0_ n1_ n2_ n3_ n4_ n5_ n6_;clear hb hbox hg;have hnb24:=NB295_296.out;have hnc24:=NB296_295.out;have hcz25_0:w23.cell? ⟨gb295,0,none⟩=some (.int .i64 a0_0):=(blk_cell BK295.out 0).trans rfl;have hcz25_1:w23.cell? ⟨gb295,1,none⟩=some (.int .i64 a0_1):=(blk_cell BK295.out 1).trans rfl;have hcz25_2:w23.cell? ⟨gb295,2,none⟩=some (.int .i64 a0_2):=(blk_cell BK295.out 2).trans rfl;have hcz25_3:w23.cell? ⟨gb295,3,none⟩=some (.string a0_3):=(blk_cell BK295.out 3).trans rfl;have hcz25_4:w23.cell? ⟨gb295,4,none⟩=some (.slice A0_4 l0_4.length c0_4):=(blk_cell BK295.out 4).trans rfl;have hcz25_5:w23.cell? ⟨gb295,5,none⟩=some (.slice A0_5 l0_5.length c0_5):=(blk_cell BK295.out 5).trans rfl;have hcz25_6:w23.cell? ⟨gb295,6,none⟩=some (.slice A0_6 l0_6.length c0_6):=(blk_cell BK295.out 6).trans rfl;have hfz25_0:=blk_frozen BK295.out 0;have hfz25_1:=blk_frozen BK295.out 1;have hfz25_2:=blk_frozen BK295.out 2;have hfz25_3:=blk_frozen BK295.out 3;have hfz25_4:=blk_frozen BK295.out 4;have hfz25_5:=blk_frozen BK295.out 5;have hfz25_6:=blk_frozen BK295.out 6;have hcz26_0:w23.cell? ⟨gb296,0,none⟩=some (.int .i64 a1_0):=(blk_cell BK296.out 0).trans rfl;have hcz26_1:w23.cell? ⟨gb296,1,none⟩=some (.int .i64 a1_1):=(blk_cell BK296.out 1).trans rfl;have hcz26_2:w23.cell? ⟨gb296,2,none⟩=some (.int .i64 a1_2):=(blk_cell BK296.out 2).trans rfl;have hcz26_3:w23.cell? ⟨gb296,3,none⟩=some (.string a1_3):=(blk_cell BK296.out 3).trans rfl;have hcz26_4:w23.cell? ⟨gb296,4,none⟩=some (.slice A1_4 l1_4.length c1_4):=(blk_cell BK296.out 4).trans rfl;have hcz26_5:w23.cell? ⟨gb296,5,none⟩=some (.slice A1_5 l1_5.length c1_5):=(blk_cell BK296.out 5).trans rfl;have hcz26_6:w23.cell? ⟨gb296,6,none⟩=some (.slice A1_6 l1_6.length c1_6):=(blk_cell BK296.out 6).trans rfl;have hfz26_0:=blk_frozen BK296.out 0;have hfz26_1:=blk_frozen BK296.out 1;have hfz26_2:=blk_frozen BK296.out 2;have hfz26_3:=blk_frozen BK296.out 3;have hfz26_4:=blk_frozen BK296.out 4;have hfz26_5:=blk_frozen BK296.out 5;have hfz26_6:=blk_frozen BK296.out 6)|(go_at_call 42;(with_reducible refine (latticeplain_Texts.calls k _ _ l0_4 _ _ l1_4 false _ ?side1 ?side2 ?side3 ?side4 A7.out).mono ?_);(case side1=>repeat (first|exact (Kd.C_below HR0_4.out HB.out)|(with_reducible refine Kd.C_alloc ?_ _)|(with_reducible refine Kd.C_drewN ?_ _)|(with_reducible refine Kd.C_drew ?_)));(case side2=>exact HC0_4.out);(case side3=>repeat (first|exact (Kd.C_below HR1_4.out HB.out)|(with_reducible refine Kd.C_alloc ?_ _)|(with_reducible refine Kd.C_drewN ?_ _)|(with_reducible refine Kd.C_drew ?_)));(case side4=>exact HC1_4.out);rintro e w' ⟨rfl,⟨nd,rfl⟩⟩))
      go_ret
      exact ⟨by first|rfl|(simp [errW_none,errW_some] <;> rfl)|(simp [*,errW_none,errW_some] <;> rfl),by repeat (first|(with_reducible first|exact HB.out|apply below_alloc|apply pw_below_drewN|apply below_drew1|refine below_set ?_ GE295.out|refine below_set ?_ GE296.out)|exact HB.out)⟩
    ·rw [if_neg c6] at H
     have c6b0:(a0_3.toList==a1_3.toList)=false:=beq_eq_false_iff_ne.mpr c6
     have c6b1:(a0_3.toList != a1_3.toList)=true:=bne_iff_ne.mpr c6
     obtain rfl:=Option.some.inj H
     go_enter Try.func16,Try.ntmps16
     go_wp2_with (first|((with_reducible refine gate_dst (N:=2) rfl ?_);refine box_event ?hg (N:=2) ?hd (cs:=#[.int .i64 a0_0,.int .i64 a0_1,.int .i64 a0_2,.string a0_3,.slice A0_4 l0_4.length c0_4,.slice A0_5 l0_5.length c0_5,.slice A0_6 l0_6.length c0_6]) (t:=25) ?hr ?_;(case hd=>rfl);(case hg=>rfl);(case hr=>first|(go_simp;done)|(go_simp;rfl));intro gb295 hg w27 hbox hb;have n0_:=Aside0.mk (below_step (by repeat (first|(with_reducible first|exact HB.out|apply below_alloc|apply pw_below_drewN|apply below_drew1)|exact HB.out)) hb);have n1_:=Aside0.mk (hbox);have n2_:=Aside0.mk ((by rw [hg];exact (below_size (by repeat (first|(with_reducible first|exact HB.out|apply below_alloc|apply pw_below_drewN|apply below_drew1)|exact HB.out))):w.heap.size≤gb295));have n3_:=Aside0.mk ((by rw [hg];exact (below_size (by repeat (first|(with_reducible first|exact HB.out|apply below_alloc|apply pw_below_drewN|apply below_drew1)|exact HB.out))):w.heap.size≤gb295));clear HB;have HB:=n0_;have BK295:=n1_;have GW295:=n2_;have GE295:=n3_;clear n0_ n1_ n2_ n3_;clear hb hbox hg)|((with_reducible refine gate_dst (N:=3) rfl ?_);refine box_event ?hg (N:=3) ?hd (cs:=#[.int .i64 a1_0,.int .i64 a1_1,.int .i64 a1_2,.string a1_3,.slice A1_4 l1_4.length c1_4,.slice A1_5 l1_5.length c1_5,.slice A1_6 l1_6.length c1_6]) (t:=25) ?hr ?_;(case hd=>rfl);(case hg=>rfl);(case hr=>first|(go_simp;done)|(go_simp;rfl));intro gb296 hg w28 hbox hb;have n0_:=Aside0.mk (blk_below (g:=gb295) (o:=.cells #[.int .i64 a0_0,.int .i64 a0_1,.int .i64 a0_2,.string a0_3,.slice A0_4 l0_4.length c0_4,.slice A0_5 l0_5.length c0_5,.slice A0_6 l0_6.length c0_6] 25 (0,0)) (by (with_reducible repeat (first|refine blk_drewN ?_ _|refine blk_drew ?_|refine blk_alloc ?_ _));exact BK295.out) hb);have n1_:=Aside0.mk (below_step (by repeat (first|(with_reducible first|exact HB.out|apply below_alloc|apply pw_below_drewN|apply below_drew1|refine below_set ?_ GE295.out)|exact HB.out)) hb);have n2_:=Aside0.mk (hbox);have n3_:=Aside0.mk ((by rw [hg];exact (below_size (by repeat (first|(with_reducible first|exact HB.out|apply below_alloc|apply pw_below_drewN|apply below_drew1|refine below_set ?_ GE295.out)|exact HB.out))):w.heap.size≤gb296));have n4_:=Aside0.mk ((by rw [hg];exact (below_size (by repeat (first|(with_reducible first|exact HB.out|apply below_alloc|apply pw_below_drewN|apply below_drew1|refine below_set ?_ GE295.out)|exact HB.out))):w.heap.size≤gb296));have n5_:=Aside0.mk ((by rw [hg];exact Nat.ne_of_lt (blk_lt (g:=gb295) (o:=.cells #[.int .i64 a0_0,.int .i64 a0_1,.int .i64 a0_2,.string a0_3,.slice A0_4 l0_4.length c0_4,.slice A0_5 l0_5.length c0_5,.slice A0_6 l0_6.length c0_6] 25 (0,0)) (by (with_reducible repeat (first|refine blk_drewN ?_ _|refine blk_drew ?_|refine blk_alloc ?_ _));exact BK295.out)):gb295≠gb296));have n6_:=Aside0.mk ((by rw [hg];exact Nat.ne_of_gt (blk_lt (g:=gb295) (o:=.cells #[.int .i64 a0_0,.int .i64 a0_1,.int .i64 a0_2,.string a0_3,.slice A0_4 l0_4.length c0_4,.slice A0_5 l0_5.length c0_5,.slice A0_6 l0_6.length c0_6] 25 (0,0)) (by (with_reducible repeat (first|refine blk_drewN ?_ _|refine blk_drew ?_|refine blk_alloc ?_ _));exact BK295.out)):gb296≠gb295));clear BK295;clear HB;have BK295:=n0_;have HB:=n1_;have BK296:=n2_;have GW296:=n3_;have GE296:=n4_;have NB295_296:=n5_;have NB296_295:=n6_;clear n0_ n1_ n2_ n3_ n4_ n5_ n6_;clear hb hbox hg;have hnb29:=NB295_296.out;have hnc29:=NB296_295.out;have hcz30_0:w28.cell? ⟨gb295,0,none⟩=some (.int .i64 a0_0):=(blk_cell BK295.out 0).trans rfl;have hcz30_1:w28.cell? ⟨gb295,1,none⟩=some (.int .i64 a0_1):=(blk_cell BK295.out 1).trans rfl;have hcz30_2:w28.cell? ⟨gb295,2,none⟩=some (.int .i64 a0_2):=(blk_cell BK295.out 2).trans rfl;have hcz30_3:w28.cell? ⟨gb295,3,none⟩=some (.string a0_3):=(blk_cell BK295.out 3).trans rfl;have hcz30_4:w28.cell? ⟨gb295,4,none⟩=some (.slice A0_4 l0_4.length c0_4):=(blk_cell BK295.out 4).trans rfl;have hcz30_5:w28.cell? ⟨gb295,5,none⟩=some (.slice A0_5 l0_5.length c0_5):=(blk_cell BK295.out 5).trans rfl;have hcz30_6:w28.cell? ⟨gb295,6,none⟩=some (.slice A0_6 l0_6.length c0_6):=(blk_cell BK295.out 6).trans rfl;have hfz30_0:=blk_frozen BK295.out 0;have hfz30_1:=blk_frozen BK295.out 1;have hfz30_2:=blk_frozen BK295.out 2;have hfz30_3:=blk_frozen BK295.out 3;have hfz30_4:=blk_frozen BK295.out 4;have hfz30_5:=blk_frozen BK295.out 5;have hfz30_6:=blk_frozen BK295.out 6;have hcz31_0:w28.cell? ⟨gb296,0,none⟩=some (.int .i64 a1_0):=(blk_cell BK296.out 0).trans rfl;have hcz31_1:w28.cell? ⟨gb296,1,none⟩=some (.int .i64 a1_1):=(blk_cell BK296.out 1).trans rfl;have hcz31_2:w28.cell? ⟨gb296,2,none⟩=some (.int .i64 a1_2):=(blk_cell BK296.out 2).trans rfl;have hcz31_3:w28.cell? ⟨gb296,3,none⟩=some (.string a1_3):=(blk_cell BK296.out 3).trans rfl;have hcz31_4:w28.cell? ⟨gb296,4,none⟩=some (.slice A1_4 l1_4.length c1_4):=(blk_cell BK296.out 4).trans rfl;have hcz31_5:w28.cell? ⟨gb296,5,none⟩=some (.slice A1_5 l1_5.length c1_5):=(blk_cell BK296.out 5).trans rfl;have hcz31_6:w28.cell? ⟨gb296,6,none⟩=some (.slice A1_6 l1_6.length c1_6):=(blk_cell BK296.out 6).trans rfl;have hfz31_0:=blk_frozen BK296.out 0;have hfz31_1:=blk_frozen BK296.out 1;have hfz31_2:=blk_frozen BK296.out 2;have hfz31_3:=blk_frozen BK296.out 3;have hfz31_4:=blk_frozen BK296.out 4;have hfz31_5:=blk_frozen BK296.out 5;have hfz31_6:=blk_frozen BK296.out 6))
     go_ret
     exact ⟨by first|rfl|(simp [errW_none,errW_some] <;> rfl)|(simp [*,errW_none,errW_some] <;> rfl),by repeat (first|(with_reducible first|exact HB.out|apply below_alloc|apply pw_below_drewN|apply below_drew1|refine below_set ?_ GE295.out|refine below_set ?_ GE296.out)|exact HB.out)⟩
   ·rw [if_neg c5] at H
    have c5b0:(a0_2==a1_2)=false:=beq_eq_false_iff_ne.mpr c5
    have c5b1:(a0_2 != a1_2)=true:=bne_iff_ne.mpr c5
    obtain rfl:=Option.some.inj H
    go_enter Try.func16,Try.ntmps16
    go_wp2_with (first|((with_reducible refine gate_dst (N:=2) rfl ?_);refine box_event ?hg (N:=2) ?hd (cs:=#[.int .i64 a0_0,.int .i64 a0_1,.int .i64 a0_2,.string a0_3,.slice A0_4 l0_4.length c0_4,.slice A0_5 l0_5.length c0_5,.slice A0_6 l0_6.length c0_6]) (t:=25) ?hr ?_;(case hd=>rfl);(case hg=>rfl);(case hr=>first|(go_simp;done)|(go_simp;rfl));intro gb295 hg w32 hbox hb;have n0_:=Aside0.mk (below_step (by repeat (first|(with_reducible first|exact HB.out|apply below_alloc|apply pw_below_drewN|apply below_drew1)|exact HB.out)) hb);have n1_:=Aside0.mk (hbox);have n2_:=Aside0.mk ((by rw [hg];exact (below_size (by repeat (first|(with_reducible first|exact HB.out|apply below_alloc|apply pw_below_drewN|apply below_drew1)|exact HB.out))):w.heap.size≤gb295));have n3_:=Aside0.mk ((by rw [hg];exact (below_size (by repeat (first|(with_reducible first|exact HB.out|apply below_alloc|apply pw_below_drewN|apply below_drew1)|exact HB.out))):w.heap.size≤gb295));clear HB;have HB:=n0_;have BK295:=n1_;have GW295:=n2_;have GE295:=n3_;clear n0_ n1_ n2_ n3_;clear hb hbox hg)|((with_reducible refine gate_dst (N:=3) rfl ?_);refine box_event ?hg (N:=3) ?hd (cs:=#[.int .i64 a1_0,.int .i64 a1_1,.int .i64 a1_2,.string a1_3,.slice A1_4 l1_4.length c1_4,.slice A1_5 l1_5.length c1_5,.slice A1_6 l1_6.length c1_6]) (t:=25) ?hr ?_;(case hd=>rfl);(case hg=>rfl);(case hr=>first|(go_simp;done)|(go_simp;rfl));intro gb296 hg w33 hbox hb;have n0_:=Aside0.mk (blk_below (g:=gb295) (o:=.cells #[.int .i64 a0_0,.int .i64 a0_1,.int .i64 a0_2,.string a0_3,.slice A0_4 l0_4.length c0_4,.slice A0_5 l0_5.length c0_5,.slice A0_6 l0_6.length c0_6] 25 (0,0)) (by (with_reducible repeat (first|refine blk_drewN ?_ _|refine blk_drew ?_|refine blk_alloc ?_ _));exact BK295.out) hb);have n1_:=Aside0.mk (below_step (by repeat (first|(with_reducible first|exact HB.out|apply below_alloc|apply pw_below_drewN|apply below_drew1|refine below_set ?_ GE295.out)|exact HB.out)) hb);have n2_:=Aside0.mk (hbox);have n3_:=Aside0.mk ((by rw [hg];exact (below_size (by repeat (first|(with_reducible first|exact HB.out|apply below_alloc|apply pw_below_drewN|apply below_drew1|refine below_set ?_ GE295.out)|exact HB.out))):w.heap.size≤gb296));have n4_:=Aside0.mk ((by rw [hg];exact (below_size (by repeat (first|(with_reducible first|exact HB.out|apply below_alloc|apply pw_below_drewN|apply below_drew1|refine below_set ?_ GE295.out)|exact HB.out))):w.heap.size≤gb296));have n5_:=Aside0.mk ((by rw [hg];exact Nat.ne_of_lt (blk_lt (g:=gb295) (o:=.cells #[.int .i64 a0_0,.int .i64 a0_1,.int .i64 a0_2,.string a0_3,.slice A0_4 l0_4.length c0_4,.slice A0_5 l0_5.length c0_5,.slice A0_6 l0_6.length c0_6] 25 (0,0)) (by (with_reducible repeat (first|refine blk_drewN ?_ _|refine blk_drew ?_|refine blk_alloc ?_ _));exact BK295.out)):gb295≠gb296));have n6_:=Aside0.mk ((by rw [hg];exact Nat.ne_of_gt (blk_lt (g:=gb295) (o:=.cells #[.int .i64 a0_0,.int .i64 a0_1,.int .i64 a0_2,.string a0_3,.slice A0_4 l0_4.length c0_4,.slice A0_5 l0_5.length c0_5,.slice A0_6 l0_6.length c0_6] 25 (0,0)) (by (with_reducible repeat (first|refine blk_drewN ?_ _|refine blk_drew ?_|refine blk_alloc ?_ _));exact BK295.out)):gb296≠gb295));clear BK295;clear HB;have BK295:=n0_;have HB:=n1_;have BK296:=n2_;have GW296:=n3_;have GE296:=n4_;have NB295_296:=n5_;have NB296_295:=n6_;clear n0_ n1_ n2_ n3_ n4_ n5_ n6_;clear hb hbox hg;have hnb34:=NB295_296.out;have hnc34:=NB296_295.out;have hcz35_0:w33.cell? ⟨gb295,0,none⟩=some (.int .i64 a0_0):=(blk_cell BK295.out 0).trans rfl;have hcz35_1:w33.cell? ⟨gb295,1,none⟩=some (.int .i64 a0_1):=(blk_cell BK295.out 1).trans rfl;have hcz35_2:w33.cell? ⟨gb295,2,none⟩=some (.int .i64 a0_2):=(blk_cell BK295.out 2).trans rfl;have hcz35_3:w33.cell? ⟨gb295,3,none⟩=some (.string a0_3):=(blk_cell BK295.out 3).trans rfl;have hcz35_4:w33.cell? ⟨gb295,4,none⟩=some (.slice A0_4 l0_4.length c0_4):=(blk_cell BK295.out 4).trans rfl;have hcz35_5:w33.cell? ⟨gb295,5,none⟩=some (.slice A0_5 l0_5.length c0_5):=(blk_cell BK295.out 5).trans rfl;have hcz35_6:w33.cell? ⟨gb295,6,none⟩=some (.slice A0_6 l0_6.length c0_6):=(blk_cell BK295.out 6).trans rfl;have hfz35_0:=blk_frozen BK295.out 0;have hfz35_1:=blk_frozen BK295.out 1;have hfz35_2:=blk_frozen BK295.out 2;have hfz35_3:=blk_frozen BK295.out 3;have hfz35_4:=blk_frozen BK295.out 4;have hfz35_5:=blk_frozen BK295.out 5;have hfz35_6:=blk_frozen BK295.out 6;have hcz36_0:w33.cell? ⟨gb296,0,none⟩=some (.int .i64 a1_0):=(blk_cell BK296.out 0).trans rfl;have hcz36_1:w33.cell? ⟨gb296,1,none⟩=some (.int .i64 a1_1):=(blk_cell BK296.out 1).trans rfl;have hcz36_2:w33.cell? ⟨gb296,2,none⟩=some (.int .i64 a1_2):=(blk_cell BK296.out 2).trans rfl;have hcz36_3:w33.cell? ⟨gb296,3,none⟩=some (.string a1_3):=(blk_cell BK296.out 3).trans rfl;have hcz36_4:w33.cell? ⟨gb296,4,none⟩=some (.slice A1_4 l1_4.length c1_4):=(blk_cell BK296.out 4).trans rfl;have hcz36_5:w33.cell? ⟨gb296,5,none⟩=some (.slice A1_5 l1_5.length c1_5):=(blk_cell BK296.out 5).trans rfl;have hcz36_6:w33.cell? ⟨gb296,6,none⟩=some (.slice A1_6 l1_6.length c1_6):=(blk_cell BK296.out 6).trans rfl;have hfz36_0:=blk_frozen BK296.out 0;have hfz36_1:=blk_frozen BK296.out 1;have hfz36_2:=blk_frozen BK296.out 2;have hfz36_3:=blk_frozen BK296.out 3;have hfz36_4:=blk_frozen BK296.out 4;have hfz36_5:=blk_frozen BK296.out 5;have hfz36_6:=blk_frozen BK296.out 6))
    go_ret
    exact ⟨by first|rfl|(simp [errW_none,errW_some] <;> rfl)|(simp [*,errW_none,errW_some] <;> rfl),by repeat (first|(with_reducible first|exact HB.out|apply below_alloc|apply pw_below_drewN|apply below_drew1|refine below_set ?_ GE295.out|refine below_set ?_ GE296.out)|exact HB.out)⟩
  ·rw [if_neg c4] at H
   have c4b0:(a0_1==a1_1)=false:=beq_eq_false_iff_ne.mpr c4
   have c4b1:(a0_1 != a1_1)=true:=bne_iff_ne.mpr c4
   obtain rfl:=Option.some.inj H
   go_enter Try.func16,Try.ntmps16
   go_wp2_with (first|((with_reducible refine gate_dst (N:=2) rfl ?_);refine box_event ?hg (N:=2) ?hd (cs:=#[.int .i64 a0_0,.int .i64 a0_1,.int .i64 a0_2,.string a0_3,.slice A0_4 l0_4.length c0_4,.slice A0_5 l0_5.length c0_5,.slice A0_6 l0_6.length c0_6]) (t:=25) ?hr ?_;(case hd=>rfl);(case hg=>rfl);(case hr=>first|(go_simp;done)|(go_simp;rfl));intro gb295 hg w37 hbox hb;have n0_:=Aside0.mk (below_step (by repeat (first|(with_reducible first|exact HB.out|apply below_alloc|apply pw_below_drewN|apply below_drew1)|exact HB.out)) hb);have n1_:=Aside0.mk (hbox);have n2_:=Aside0.mk ((by rw [hg];exact (below_size (by repeat (first|(with_reducible first|exact HB.out|apply below_alloc|apply pw_below_drewN|apply below_drew1)|exact HB.out))):w.heap.size≤gb295));have n3_:=Aside0.mk ((by rw [hg];exact (below_size (by repeat (first|(with_reducible first|exact HB.out|apply below_alloc|apply pw_below_drewN|apply below_drew1)|exact HB.out))):w.heap.size≤gb295));clear HB;have HB:=n0_;have BK295:=n1_;have GW295:=n2_;have GE295:=n3_;clear n0_ n1_ n2_ n3_;clear hb hbox hg)|((with_reducible refine gate_dst (N:=3) rfl ?_);refine box_event ?hg (N:=3) ?hd (cs:=#[.int .i64 a1_0,.int .i64 a1_1,.int .i64 a1_2,.string a1_3,.slice A1_4 l1_4.length c1_4,.slice A1_5 l1_5.length c1_5,.slice A1_6 l1_6.length c1_6]) (t:=25) ?hr ?_;(case hd=>rfl);(case hg=>rfl);(case hr=>first|(go_simp;done)|(go_simp;rfl));intro gb296 hg w38 hbox hb;have n0_:=Aside0.mk (blk_below (g:=gb295) (o:=.cells #[.int .i64 a0_0,.int .i64 a0_1,.int .i64 a0_2,.string a0_3,.slice A0_4 l0_4.length c0_4,.slice A0_5 l0_5.length c0_5,.slice A0_6 l0_6.length c0_6] 25 (0,0)) (by (with_reducible repeat (first|refine blk_drewN ?_ _|refine blk_drew ?_|refine blk_alloc ?_ _));exact BK295.out) hb);have n1_:=Aside0.mk (below_step (by repeat (first|(with_reducible first|exact HB.out|apply below_alloc|apply pw_below_drewN|apply below_drew1|refine below_set ?_ GE295.out)|exact HB.out)) hb);have n2_:=Aside0.mk (hbox);have n3_:=Aside0.mk ((by rw [hg];exact (below_size (by repeat (first|(with_reducible first|exact HB.out|apply below_alloc|apply pw_below_drewN|apply below_drew1|refine below_set ?_ GE295.out)|exact HB.out))):w.heap.size≤gb296));have n4_:=Aside0.mk ((by rw [hg];exact (below_size (by repeat (first|(with_reducible first|exact HB.out|apply below_alloc|apply pw_below_drewN|apply below_drew1|refine below_set ?_ GE295.out)|exact HB.out))):w.heap.size≤gb296));have n5_:=Aside0.mk ((by rw [hg];exact Nat.ne_of_lt (blk_lt (g:=gb295) (o:=.cells #[.int .i64 a0_0,.int .i64 a0_1,.int .i64 a0_2,.string a0_3,.slice A0_4 l0_4.length c0_4,.slice A0_5 l0_5.length c0_5,.slice A0_6 l0_6.length c0_6] 25 (0,0)) (by (with_reducible repeat (first|refine blk_drewN ?_ _|refine blk_drew ?_|refine blk_alloc ?_ _));exact BK295.out)):gb295≠gb296));have n6_:=Aside0.mk ((by rw [hg];exact Nat.ne_of_gt (blk_lt (g:=gb295) (o:=.cells #[.int .i64 a0_0,.int .i64 a0_1,.int .i64 a0_2,.string a0_3,.slice A0_4 l0_4.length c0_4,.slice A0_5 l0_5.length c0_5,.slice A0_6 l0_6.length c0_6] 25 (0,0)) (by (with_reducible repeat (first|refine blk_drewN ?_ _|refine blk_drew ?_|refine blk_alloc ?_ _));exact BK295.out)):gb296≠gb295));clear BK295;clear HB;have BK295:=n0_;have HB:=n1_;have BK296:=n2_;have GW296:=n3_;have GE296:=n4_;have NB295_296:=n5_;have NB296_295:=n6_;clear n0_ n1_ n2_ n3_ n4_ n5_ n6_;clear hb hbox hg;have hnb39:=NB295_296.out;have hnc39:=NB296_295.out;have hcz40_0:w38.cell? ⟨gb295,0,none⟩=some (.int .i64 a0_0):=(blk_cell BK295.out 0).trans rfl;have hcz40_1:w38.cell? ⟨gb295,1,none⟩=some (.int .i64 a0_1):=(blk_cell BK295.out 1).trans rfl;have hcz40_2:w38.cell? ⟨gb295,2,none⟩=some (.int .i64 a0_2):=(blk_cell BK295.out 2).trans rfl;have hcz40_3:w38.cell? ⟨gb295,3,none⟩=some (.string a0_3):=(blk_cell BK295.out 3).trans rfl;have hcz40_4:w38.cell? ⟨gb295,4,none⟩=some (.slice A0_4 l0_4.length c0_4):=(blk_cell BK295.out 4).trans rfl;have hcz40_5:w38.cell? ⟨gb295,5,none⟩=some (.slice A0_5 l0_5.length c0_5):=(blk_cell BK295.out 5).trans rfl;have hcz40_6:w38.cell? ⟨gb295,6,none⟩=some (.slice A0_6 l0_6.length c0_6):=(blk_cell BK295.out 6).trans rfl;have hfz40_0:=blk_frozen BK295.out 0;have hfz40_1:=blk_frozen BK295.out 1;have hfz40_2:=blk_frozen BK295.out 2;have hfz40_3:=blk_frozen BK295.out 3;have hfz40_4:=blk_frozen BK295.out 4;have hfz40_5:=blk_frozen BK295.out 5;have hfz40_6:=blk_frozen BK295.out 6;have hcz41_0:w38.cell? ⟨gb296,0,none⟩=some (.int .i64 a1_0):=(blk_cell BK296.out 0).trans rfl;have hcz41_1:w38.cell? ⟨gb296,1,none⟩=some (.int .i64 a1_1):=(blk_cell BK296.out 1).trans rfl;have hcz41_2:w38.cell? ⟨gb296,2,none⟩=some (.int .i64 a1_2):=(blk_cell BK296.out 2).trans rfl;have hcz41_3:w38.cell? ⟨gb296,3,none⟩=some (.string a1_3):=(blk_cell BK296.out 3).trans rfl;have hcz41_4:w38.cell? ⟨gb296,4,none⟩=some (.slice A1_4 l1_4.length c1_4):=(blk_cell BK296.out 4).trans rfl;have hcz41_5:w38.cell? ⟨gb296,5,none⟩=some (.slice A1_5 l1_5.length c1_5):=(blk_cell BK296.out 5).trans rfl;have hcz41_6:w38.cell? ⟨gb296,6,none⟩=some (.slice A1_6 l1_6.length c1_6):=(blk_cell BK296.out 6).trans rfl;have hfz41_0:=blk_frozen BK296.out 0;have hfz41_1:=blk_frozen BK296.out 1;have hfz41_2:=blk_frozen BK296.out 2;have hfz41_3:=blk_frozen BK296.out 3;have hfz41_4:=blk_frozen BK296.out 4;have hfz41_5:=blk_frozen BK296.out 5;have hfz41_6:=blk_frozen BK296.out 6))
   go_ret
   exact ⟨by first|rfl|(simp [errW_none,errW_some] <;> rfl)|(simp [*,errW_none,errW_some] <;> rfl),by repeat (first|(with_reducible first|exact HB.out|apply below_alloc|apply pw_below_drewN|apply below_drew1|refine below_set ?_ GE295.out|refine below_set ?_ GE296.out)|exact HB.out)⟩
 ·rw [if_neg c3] at H
  have c3b0:(a0_0==a1_0)=false:=beq_eq_false_iff_ne.mpr c3
  have c3b1:(a0_0 != a1_0)=true:=bne_iff_ne.mpr c3
  obtain rfl:=Option.some.inj H
  go_enter Try.func16,Try.ntmps16
  go_wp2_with (first|((with_reducible refine gate_dst (N:=2) rfl ?_);refine box_event ?hg (N:=2) ?hd (cs:=#[.int .i64 a0_0,.int .i64 a0_1,.int .i64 a0_2,.string a0_3,.slice A0_4 l0_4.length c0_4,.slice A0_5 l0_5.length c0_5,.slice A0_6 l0_6.length c0_6]) (t:=25) ?hr ?_;(case hd=>rfl);(case hg=>rfl);(case hr=>first|(go_simp;done)|(go_simp;rfl));intro gb295 hg w42 hbox hb;have n0_:=Aside0.mk (below_step (by repeat (first|(with_reducible first|exact HB.out|apply below_alloc|apply pw_below_drewN|apply below_drew1)|exact HB.out)) hb);have n1_:=Aside0.mk (hbox);have n2_:=Aside0.mk ((by rw [hg];exact (below_size (by repeat (first|(with_reducible first|exact HB.out|apply below_alloc|apply pw_below_drewN|apply below_drew1)|exact HB.out))):w.heap.size≤gb295));have n3_:=Aside0.mk ((by rw [hg];exact (below_size (by repeat (first|(with_reducible first|exact HB.out|apply below_alloc|apply pw_below_drewN|apply below_drew1)|exact HB.out))):w.heap.size≤gb295));clear HB;have HB:=n0_;have BK295:=n1_;have GW295:=n2_;have GE295:=n3_;clear n0_ n1_ n2_ n3_;clear hb hbox hg)|((with_reducible refine gate_dst (N:=3) rfl ?_);refine box_event ?hg (N:=3) ?hd (cs:=#[.int .i64 a1_0,.int .i64 a1_1,.int .i64 a1_2,.string a1_3,.slice A1_4 l1_4.length c1_4,.slice A1_5 l1_5.length c1_5,.slice A1_6 l1_6.length c1_6]) (t:=25) ?hr ?_;(case hd=>rfl);(case hg=>rfl);(case hr=>first|(go_simp;done)|(go_simp;rfl));intro gb296 hg w43 hbox hb;have n0_:=Aside0.mk (blk_below (g:=gb295) (o:=.cells #[.int .i64 a0_0,.int .i64 a0_1,.int .i64 a0_2,.string a0_3,.slice A0_4 l0_4.length c0_4,.slice A0_5 l0_5.length c0_5,.slice A0_6 l0_6.length c0_6] 25 (0,0)) (by (with_reducible repeat (first|refine blk_drewN ?_ _|refine blk_drew ?_|refine blk_alloc ?_ _));exact BK295.out) hb);have n1_:=Aside0.mk (below_step (by repeat (first|(with_reducible first|exact HB.out|apply below_alloc|apply pw_below_drewN|apply below_drew1|refine below_set ?_ GE295.out)|exact HB.out)) hb);have n2_:=Aside0.mk (hbox);have n3_:=Aside0.mk ((by rw [hg];exact (below_size (by repeat (first|(with_reducible first|exact HB.out|apply below_alloc|apply pw_below_drewN|apply below_drew1|refine below_set ?_ GE295.out)|exact HB.out))):w.heap.size≤gb296));have n4_:=Aside0.mk ((by rw [hg];exact (below_size (by repeat (first|(with_reducible first|exact HB.out|apply below_alloc|apply pw_below_drewN|apply below_drew1|refine below_set ?_ GE295.out)|exact HB.out))):w.heap.size≤gb296));have n5_:=Aside0.mk ((by rw [hg];exact Nat.ne_of_lt (blk_lt (g:=gb295) (o:=.cells #[.int .i64 a0_0,.int .i64 a0_1,.int .i64 a0_2,.string a0_3,.slice A0_4 l0_4.length c0_4,.slice A0_5 l0_5.length c0_5,.slice A0_6 l0_6.length c0_6] 25 (0,0)) (by (with_reducible repeat (first|refine blk_drewN ?_ _|refine blk_drew ?_|refine blk_alloc ?_ _));exact BK295.out)):gb295≠gb296));have n6_:=Aside0.mk ((by rw [hg];exact Nat.ne_of_gt (blk_lt (g:=gb295) (o:=.cells #[.int .i64 a0_0,.int .i64 a0_1,.int .i64 a0_2,.string a0_3,.slice A0_4 l0_4.length c0_4,.slice A0_5 l0_5.length c0_5,.slice A0_6 l0_6.length c0_6] 25 (0,0)) (by (with_reducible repeat (first|refine blk_drewN ?_ _|refine blk_drew ?_|refine blk_alloc ?_ _));exact BK295.out)):gb296≠gb295));clear BK295;clear HB;have BK295:=n0_;have HB:=n1_;have BK296:=n2_;have GW296:=n3_;have GE296:=n4_;have NB295_296:=n5_;have NB296_295:=n6_;clear n0_ n1_ n2_ n3_ n4_ n5_ n6_;clear hb hbox hg;have hnb44:=NB295_296.out;have hnc44:=NB296_295.out;have hcz45_0:w43.cell? ⟨gb295,0,none⟩=some (.int .i64 a0_0):=(blk_cell BK295.out 0).trans rfl;have hcz45_1:w43.cell? ⟨gb295,1,none⟩=some (.int .i64 a0_1):=(blk_cell BK295.out 1).trans rfl;have hcz45_2:w43.cell? ⟨gb295,2,none⟩=some (.int .i64 a0_2):=(blk_cell BK295.out 2).trans rfl;have hcz45_3:w43.cell? ⟨gb295,3,none⟩=some (.string a0_3):=(blk_cell BK295.out 3).trans rfl;have hcz45_4:w43.cell? ⟨gb295,4,none⟩=some (.slice A0_4 l0_4.length c0_4):=(blk_cell BK295.out 4).trans rfl;have hcz45_5:w43.cell? ⟨gb295,5,none⟩=some (.slice A0_5 l0_5.length c0_5):=(blk_cell BK295.out 5).trans rfl;have hcz45_6:w43.cell? ⟨gb295,6,none⟩=some (.slice A0_6 l0_6.length c0_6):=(blk_cell BK295.out 6).trans rfl;have hfz45_0:=blk_frozen BK295.out 0;have hfz45_1:=blk_frozen BK295.out 1;have hfz45_2:=blk_frozen BK295.out 2;have hfz45_3:=blk_frozen BK295.out 3;have hfz45_4:=blk_frozen BK295.out 4;have hfz45_5:=blk_frozen BK295.out 5;have hfz45_6:=blk_frozen BK295.out 6;have hcz46_0:w43.cell? ⟨gb296,0,none⟩=some (.int .i64 a1_0):=(blk_cell BK296.out 0).trans rfl;have hcz46_1:w43.cell? ⟨gb296,1,none⟩=some (.int .i64 a1_1):=(blk_cell BK296.out 1).trans rfl;have hcz46_2:w43.cell? ⟨gb296,2,none⟩=some (.int .i64 a1_2):=(blk_cell BK296.out 2).trans rfl;have hcz46_3:w43.cell? ⟨gb296,3,none⟩=some (.string a1_3):=(blk_cell BK296.out 3).trans rfl;have hcz46_4:w43.cell? ⟨gb296,4,none⟩=some (.slice A1_4 l1_4.length c1_4):=(blk_cell BK296.out 4).trans rfl;have hcz46_5:w43.cell? ⟨gb296,5,none⟩=some (.slice A1_5 l1_5.length c1_5):=(blk_cell BK296.out 5).trans rfl;have hcz46_6:w43.cell? ⟨gb296,6,none⟩=some (.slice A1_6 l1_6.length c1_6):=(blk_cell BK296.out 6).trans rfl;have hfz46_0:=blk_frozen BK296.out 0;have hfz46_1:=blk_frozen BK296.out 1;have hfz46_2:=blk_frozen BK296.out 2;have hfz46_3:=blk_frozen BK296.out 3;have hfz46_4:=blk_frozen BK296.out 4;have hfz46_5:=blk_frozen BK296.out 5;have hfz46_6:=blk_frozen BK296.out 6))
  go_ret
  exact ⟨by first|rfl|(simp [errW_none,errW_some] <;> rfl)|(simp [*,errW_none,errW_some] <;> rfl),by repeat (first|(with_reducible first|exact HB.out|apply below_alloc|apply pw_below_drewN|apply below_drew1|refine below_set ?_ GE295.out|refine below_set ?_ GE296.out)|exact HB.out)⟩
def node_Kid.f (k:Nat) (a0_0:Int) (a0_1:Int) (a0_2:Int) (a0_3:ByteArray) (l0_4:List ByteArray) (l0_5:List ByteArray) (l0_6:List Int) (a1:ByteArray):Option (Int×Int):=(node_asked.f k a0_0 a0_1 a0_2 a0_3 l0_4 l0_5 l0_6 a1 (⟨#[]⟩:ByteArray) 1 1).bind fun t301=>(if t301=0 then ((key_Place.f l0_4 a1).bind fun bt302=>(if bt302.2=true then (if 0≤(wrap64 (bt302.1+1)) then (if (wrap64 (bt302.1+1)) < (l0_6.length:Int) then (some (rd l0_6 (wrap64 (bt302.1+1)),0)) else (none)) else (none)) else (if 0≤bt302.1 then (if bt302.1 < (l0_6.length:Int) then (some (rd l0_6 bt302.1,0)) else (none)) else (none)))) else (some (0,t301)))
set_option maxHeartbeats 8000000 in
set_option maxRecDepth 100000 in
theorem node_Kid.calls (k:Nat) (a0_0:Int) (a0_1:Int) (a0_2:Int) (a0_3:ByteArray) (A0_4:Option Addr) (c0_4:Nat) (l0_4:List ByteArray) (A0_5:Option Addr) (c0_5:Nat) (l0_5:List ByteArray) (A0_6:Option Addr) (c0_6:Nat) (l0_6:List Int) (a1:ByteArray) (r1:Int) (r2:Int) (w:World) (hr0_4:Kd.C Kd.string w A0_4 l0_4.length l0_4) (hc0_4:l0_4.length≤c0_4) (hr0_5:Kd.C Kd.string w A0_5 l0_5.length l0_5) (hc0_5:l0_5.length≤c0_5) (hr0_6:Kd.C (Kd.int .i64) w A0_6 l0_6.length l0_6) (hc0_6:l0_6.length≤c0_6) (h:node_Kid.f k a0_0 a0_1 a0_2 a0_3 l0_4 l0_5 l0_6 a1=some (r1,r2)) :
  Calls Try.prog 20 #[.agg #[.int .i64 a0_0,.int .i64 a0_1,.int .i64 a0_2,.string a0_3,.slice A0_4 l0_4.length c0_4,.slice A0_5 l0_5.length c0_5,.slice A0_6 l0_6.length c0_6],.string a1] w fun e w'=>e=.returned (.tuple #[.int .i64 r1,.int .i64 r2])∧Below w.heap.size w w':=by
 have hu25:=Try.underlying25
 have HR0_4:=Aside0.mk hr0_4
 have HC0_4:=Aside0.mk hc0_4
 clear hr0_4 hc0_4
 have HR0_5:=Aside0.mk hr0_5
 have HC0_5:=Aside0.mk hc0_5
 clear hr0_5 hc0_5
 have HR0_6:=Aside0.mk hr0_6
 have HC0_6:=Aside0.mk hc0_6
 clear hr0_6 hc0_6
 have HB:=Aside0.mk (Below.refl w.heap.size w)
 have H:((node_asked.f k a0_0 a0_1 a0_2 a0_3 l0_4 l0_5 l0_6 a1 (⟨#[]⟩:ByteArray) 1 1).bind fun t301=>(if t301=0 then ((key_Place.f l0_4 a1).bind fun bt302=>(if bt302.2=true then (if 0≤(wrap64 (bt302.1+1)) then (if (wrap64 (bt302.1+1)) < (l0_6.length:Int) then (some (rd l0_6 (wrap64 (bt302.1+1)),0)) else (none)) else (none)) else (if 0≤bt302.1 then (if bt302.1 < (l0_6.length:Int) then (some (rd l0_6 bt302.1,0)) else (none)) else (none)))) else (some (0,t301))))=some (r1,r2):=h
 clear h
 replace H:=Option.bind_eq_some_iff.mp H
 obtain ⟨t301,A30,H⟩:=H
 try dsimp only at H
 have A3:=Aside0.mk A30
 clear A30
 by_cases c4:t301=0
 ·rw [if_pos c4] at H
  have c4b0:(t301==0)=true:=beq_iff_eq.mpr c4
  have c4b1:(t301 != 0)=false:=bne_eq_false_iff_eq.mpr c4
  clear c4
  replace H:=Option.bind_eq_some_iff.mp H
  obtain ⟨⟨t302,t303⟩,A50,H⟩:=H
  try dsimp only at H
  have A5:=Aside0.mk A50
  clear A50
  by_cases c6:t303=true
  ·subst c6
   have H1:(if 0≤(wrap64 (t302+1)) then (if (wrap64 (t302+1)) < (l0_6.length:Int) then (some (rd l0_6 (wrap64 (t302+1)),0)) else (none)) else (none))=some (r1,r2):=by rw [if_pos rfl] at H;exact H
   clear H
   have H:=H1
   clear H1
   obtain ⟨ji7,hji7⟩:∃ j_:Int,(wrap64 (t302+1))=j_:=⟨_,rfl⟩
   replace H:(if 0≤(ji7) then (if (ji7) < (l0_6.length:Int) then (some (rd l0_6 (ji7),0)) else (none)) else (none))=some (r1,r2):=by first|(rw [hji7] at H;exact H)|(simp only [hji7] at H ⊢;exact H)
   (try rw [hji7] at A3)
   (try rw [hji7] at A5)
   have hji7w:(IntKind.i64.wrap (t302+1))=ji7:=(i64_w _).trans hji7
   by_cases c8:0≤(ji7)
   ·rw [if_pos c8] at H
    have c8b0:decide (0≤(ji7))=true:=decide_eq_true c8
    clear c8
    by_cases c9:(ji7) < (l0_6.length:Int)
    ·rw [if_pos c9] at H
     have c9b0:decide ((ji7) < (l0_6.length:Int))=true:=decide_eq_true c9
     clear c9
     simp only [Option.some.injEq,Prod.mk.injEq] at H
     obtain ⟨rfl,rfl⟩:=H
     go_enter Try.func20,Try.ntmps20
     go_wp2_with (first|((with_reducible refine gate_dst (N:=2) rfl ?_);refine box_event ?hg (N:=2) ?hd (cs:=#[.int .i64 a0_0,.int .i64 a0_1,.int .i64 a0_2,.string a0_3,.slice A0_4 l0_4.length c0_4,.slice A0_5 l0_5.length c0_5,.slice A0_6 l0_6.length c0_6]) (t:=25) ?hr ?_;(case hd=>rfl);(case hg=>rfl);(case hr=>first|(go_simp;done)|(go_simp;rfl));intro gb300 hg w10 hbox hb;have n0_:=Aside0.mk (below_step (by repeat (first|(with_reducible first|exact HB.out|apply below_alloc|apply pw_below_drewN|apply below_drew1)|exact HB.out)) hb);have n1_:=Aside0.mk (hbox);have n2_:=Aside0.mk ((by rw [hg];exact (below_size (by repeat (first|(with_reducible first|exact HB.out|apply below_alloc|apply pw_below_drewN|apply below_drew1)|exact HB.out))):w.heap.size≤gb300));have n3_:=Aside0.mk ((by rw [hg];exact (below_size (by repeat (first|(with_reducible first|exact HB.out|apply below_alloc|apply pw_below_drewN|apply below_drew1)|exact HB.out))):w.heap.size≤gb300));clear HB;have HB:=n0_;have BK300:=n1_;have GW300:=n2_;have GE300:=n3_;clear n0_ n1_ n2_ n3_;clear hb hbox hg;have hcz11_0:w10.cell? ⟨gb300,0,none⟩=some (.int .i64 a0_0):=(blk_cell BK300.out 0).trans rfl;have hcz11_1:w10.cell? ⟨gb300,1,none⟩=some (.int .i64 a0_1):=(blk_cell BK300.out 1).trans rfl;have hcz11_2:w10.cell? ⟨gb300,2,none⟩=some (.int .i64 a0_2):=(blk_cell BK300.out 2).trans rfl;have hcz11_3:w10.cell? ⟨gb300,3,none⟩=some (.string a0_3):=(blk_cell BK300.out 3).trans rfl;have hcz11_4:w10.cell? ⟨gb300,4,none⟩=some (.slice A0_4 l0_4.length c0_4):=(blk_cell BK300.out 4).trans rfl;have hcz11_5:w10.cell? ⟨gb300,5,none⟩=some (.slice A0_5 l0_5.length c0_5):=(blk_cell BK300.out 5).trans rfl;have hcz11_6:w10.cell? ⟨gb300,6,none⟩=some (.slice A0_6 l0_6.length c0_6):=(blk_cell BK300.out 6).trans rfl;have hfz11_0:=blk_frozen BK300.out 0;have hfz11_1:=blk_frozen BK300.out 1;have hfz11_2:=blk_frozen BK300.out 2;have hfz11_3:=blk_frozen BK300.out 3;have hfz11_4:=blk_frozen BK300.out 4;have hfz11_5:=blk_frozen BK300.out 5;have hfz11_6:=blk_frozen BK300.out 6)|((with_reducible refine gate_callee (f:=44) rfl ?_);refine goesL_ (some 11) rfl rfl Try.func44 (by kernel_rfl) rfl #[.agg #[.int .i64 a0_0,.int .i64 a0_1,.int .i64 a0_2,.string a0_3,.slice A0_4 l0_4.length c0_4,.slice A0_5 l0_5.length c0_5,.slice A0_6 l0_6.length c0_6],.string a1,.string (⟨#[]⟩:ByteArray),.int .i64 1,.int .i64 1] rfl (by (try simp only [List.map_toArray,List.map_cons,List.map_nil]);first|done|rfl|(simp only [List.length_drop,List.length_take];rfl)) ?_;(with_reducible refine (node_asked.calls k a0_0 a0_1 a0_2 a0_3 _ _ l0_4 _ _ l0_5 _ _ l0_6 a1 (⟨#[]⟩:ByteArray) 1 1 t301 _ ?side1 ?side2 ?side3 ?side4 ?side5 ?side6 A3.out).mono ?_);(case side1=>repeat (first|exact (Kd.C_below HR0_4.out HB.out)|(with_reducible refine Kd.C_alloc ?_ _)|(with_reducible refine Kd.C_drewN ?_ _)|(with_reducible refine Kd.C_drew ?_)));(case side2=>exact HC0_4.out);(case side3=>repeat (first|exact (Kd.C_below HR0_5.out HB.out)|(with_reducible refine Kd.C_alloc ?_ _)|(with_reducible refine Kd.C_drewN ?_ _)|(with_reducible refine Kd.C_drew ?_)));(case side4=>exact HC0_5.out);(case side5=>repeat (first|exact (Kd.C_below HR0_6.out HB.out)|(with_reducible refine Kd.C_alloc ?_ _)|(with_reducible refine Kd.C_drewN ?_ _)|(with_reducible refine Kd.C_drew ?_)));(case side6=>exact HC0_6.out);rintro e w12 ⟨rfl,hb⟩;refine ⟨_,rfl,?_⟩;have n0_:=Aside0.mk (blk_below (g:=gb300) (o:=.cells #[.int .i64 a0_0,.int .i64 a0_1,.int .i64 a0_2,.string a0_3,.slice A0_4 l0_4.length c0_4,.slice A0_5 l0_5.length c0_5,.slice A0_6 l0_6.length c0_6] 25 (0,0)) (by (with_reducible repeat (first|refine blk_drewN ?_ _|refine blk_drew ?_|refine blk_alloc ?_ _));exact BK300.out) hb);have n1_:=Aside0.mk (below_step (by repeat (first|(with_reducible first|exact HB.out|apply below_alloc|apply pw_below_drewN|apply below_drew1|refine below_set ?_ GE300.out)|exact HB.out)) hb);clear BK300;clear HB;have BK300:=n0_;have HB:=n1_;clear n0_ n1_;(try clear hb);(try clear hb2);(try clear hk);(try clear hi);have hcz13_0:w12.cell? ⟨gb300,0,none⟩=some (.int .i64 a0_0):=(blk_cell BK300.out 0).trans rfl;have hcz13_1:w12.cell? ⟨gb300,1,none⟩=some (.int .i64 a0_1):=(blk_cell BK300.out 1).trans rfl;have hcz13_2:w12.cell? ⟨gb300,2,none⟩=some (.int .i64 a0_2):=(blk_cell BK300.out 2).trans rfl;have hcz13_3:w12.cell? ⟨gb300,3,none⟩=some (.string a0_3):=(blk_cell BK300.out 3).trans rfl;have hcz13_4:w12.cell? ⟨gb300,4,none⟩=some (.slice A0_4 l0_4.length c0_4):=(blk_cell BK300.out 4).trans rfl;have hcz13_5:w12.cell? ⟨gb300,5,none⟩=some (.slice A0_5 l0_5.length c0_5):=(blk_cell BK300.out 5).trans rfl;have hcz13_6:w12.cell? ⟨gb300,6,none⟩=some (.slice A0_6 l0_6.length c0_6):=(blk_cell BK300.out 6).trans rfl;have hfz13_0:=blk_frozen BK300.out 0;have hfz13_1:=blk_frozen BK300.out 1;have hfz13_2:=blk_frozen BK300.out 2;have hfz13_3:=blk_frozen BK300.out 3;have hfz13_4:=blk_frozen BK300.out 4;have hfz13_5:=blk_frozen BK300.out 5;have hfz13_6:=blk_frozen BK300.out 6)|((with_reducible refine gate_callee (f:=45) rfl ?_);refine goesL_ (some 19) rfl rfl Try.func45 (by kernel_rfl) rfl #[.slice A0_4 l0_4.length c0_4,.string a1] rfl (by (try simp only [List.map_toArray,List.map_cons,List.map_nil]);first|done|rfl|(simp only [List.length_drop,List.length_take];rfl)) ?_;(with_reducible refine (key_Place.calls _ _ l0_4 a1 t302 true _ ?side1 ?side2 A5.out).mono ?_);(case side1=>repeat (first|exact (Kd.C_below HR0_4.out HB.out)|(with_reducible refine Kd.C_alloc ?_ _)|(with_reducible refine Kd.C_drewN ?_ _)|(with_reducible refine Kd.C_drew ?_)));(case side2=>exact HC0_4.out);rintro e w14 ⟨rfl,hb⟩;refine ⟨_,rfl,?_⟩;have n0_:=Aside0.mk (blk_below (g:=gb300) (o:=.cells #[.int .i64 a0_0,.int .i64 a0_1,.int .i64 a0_2,.string a0_3,.slice A0_4 l0_4.length c0_4,.slice A0_5 l0_5.length c0_5,.slice A0_6 l0_6.length c0_6] 25 (0,0)) (by (with_reducible repeat (first|refine blk_drewN ?_ _|refine blk_drew ?_|refine blk_alloc ?_ _));exact BK300.out) hb);have n1_:=Aside0.mk (below_step (by repeat (first|(with_reducible first|exact HB.out|apply below_alloc|apply pw_below_drewN|apply below_drew1|refine below_set ?_ GE300.out)|exact HB.out)) hb);clear BK300;clear HB;have BK300:=n0_;have HB:=n1_;clear n0_ n1_;(try clear hb);(try clear hb2);(try clear hk);(try clear hi);have hcz15_0:w14.cell? ⟨gb300,0,none⟩=some (.int .i64 a0_0):=(blk_cell BK300.out 0).trans rfl;have hcz15_1:w14.cell? ⟨gb300,1,none⟩=some (.int .i64 a0_1):=(blk_cell BK300.out 1).trans rfl;have hcz15_2:w14.cell? ⟨gb300,2,none⟩=some (.int .i64 a0_2):=(blk_cell BK300.out 2).trans rfl;have hcz15_3:w14.cell? ⟨gb300,3,none⟩=some (.string a0_3):=(blk_cell BK300.out 3).trans rfl;have hcz15_4:w14.cell? ⟨gb300,4,none⟩=some (.slice A0_4 l0_4.length c0_4):=(blk_cell BK300.out 4).trans rfl;have hcz15_5:w14.cell? ⟨gb300,5,none⟩=some (.slice A0_5 l0_5.length c0_5):=(blk_cell BK300.out 5).trans rfl;have hcz15_6:w14.cell? ⟨gb300,6,none⟩=some (.slice A0_6 l0_6.length c0_6):=(blk_cell BK300.out 6).trans rfl;have hfz15_0:=blk_frozen BK300.out 0;have hfz15_1:=blk_frozen BK300.out 1;have hfz15_2:=blk_frozen BK300.out 2;have hfz15_3:=blk_frozen BK300.out 3;have hfz15_4:=blk_frozen BK300.out 4;have hfz15_5:=blk_frozen BK300.out 5;have hfz15_6:=blk_frozen BK300.out 6;have p304:0≤((ji7):Int):=of_decide_eq_true (by first|(with_reducible assumption)|assumption);have q304:(ji7) < (l0_6.length:Int):=of_decide_eq_true (by first|(with_reducible assumption)|assumption);obtain ⟨ad304,e304,hx304_0⟩:=Kd.at_int HR0_6.out (ji7) p304 q304;cases e304;replace hx304_0:=(HB.out.cell (World.block_lt_of_cell? w _ hx304_0)).trans hx304_0;replace p304:=eq_true p304;replace q304:=eq_true q304))
     go_ret2
     exact ⟨by first|rfl|(simp [errW_none,errW_some] <;> rfl)|(simp only [← hji7];first|rfl|(simp [errW_none,errW_some] <;> rfl))|(simp [*,errW_none,errW_some] <;> rfl),by repeat (first|(with_reducible first|exact HB.out|apply below_alloc|apply pw_below_drewN|apply below_drew1|refine below_set ?_ GE300.out)|exact HB.out)⟩
    ·rw [if_neg c9] at H
     exact absurd H (by simp)
   ·rw [if_neg c8] at H
    exact absurd H (by simp)
  ·replace c6:=Bool.eq_false_iff.mpr c6
   subst c6
   have H1:(if 0≤t302 then (if t302 < (l0_6.length:Int) then (some (rd l0_6 t302,0)) else (none)) else (none))=some (r1,r2):=by rw [if_neg (show ¬ (false=true) by decide)] at H;exact H
   clear H
   have H:=H1
   clear H1
   by_cases c16:0≤t302
   ·rw [if_pos c16] at H
    have c16b0:decide (0≤t302)=true:=decide_eq_true c16
    clear c16
    by_cases c17:t302 < (l0_6.length:Int)
    ·rw [if_pos c17] at H
     have c17b0:decide (t302 < (l0_6.length:Int))=true:=decide_eq_true c17
     clear c17
     simp only [Option.some.injEq,Prod.mk.injEq] at H
     obtain ⟨rfl,rfl⟩:=H
     go_enter Try.func20,Try.ntmps20
     go_wp2_with (first|((with_reducible refine gate_dst (N:=2) rfl ?_);refine box_event ?hg (N:=2) ?hd (cs:=#[.int .i64 a0_0,.int .i64 a0_1,.int .i64 a0_2,.string a0_3,.slice A0_4 l0_4.length c0_4,.slice A0_5 l0_5.length c0_5,.slice A0_6 l0_6.length c0_6]) (t:=25) ?hr ?_;(case hd=>rfl);(case hg=>rfl);(case hr=>first|(go_simp;done)|(go_simp;rfl));intro gb300 hg w18 hbox hb;have n0_:=Aside0.mk (below_step (by repeat (first|(with_reducible first|exact HB.out|apply below_alloc|apply pw_below_drewN|apply below_drew1)|exact HB.out)) hb);have n1_:=Aside0.mk (hbox);have n2_:=Aside0.mk ((by rw [hg];exact (below_size (by repeat (first|(with_reducible first|exact HB.out|apply below_alloc|apply pw_below_drewN|apply below_drew1)|exact HB.out))):w.heap.size≤gb300));have n3_:=Aside0.mk ((by rw [hg];exact (below_size (by repeat (first|(with_reducible first|exact HB.out|apply below_alloc|apply pw_below_drewN|apply below_drew1)|exact HB.out))):w.heap.size≤gb300));clear HB;have HB:=n0_;have BK300:=n1_;have GW300:=n2_;have GE300:=n3_;clear n0_ n1_ n2_ n3_;clear hb hbox hg;have hcz19_0:w18.cell? ⟨gb300,0,none⟩=some (.int .i64 a0_0):=(blk_cell BK300.out 0).trans rfl;have hcz19_1:w18.cell? ⟨gb300,1,none⟩=some (.int .i64 a0_1):=(blk_cell BK300.out 1).trans rfl;have hcz19_2:w18.cell? ⟨gb300,2,none⟩=some (.int .i64 a0_2):=(blk_cell BK300.out 2).trans rfl;have hcz19_3:w18.cell? ⟨gb300,3,none⟩=some (.string a0_3):=(blk_cell BK300.out 3).trans rfl;have hcz19_4:w18.cell? ⟨gb300,4,none⟩=some (.slice A0_4 l0_4.length c0_4):=(blk_cell BK300.out 4).trans rfl;have hcz19_5:w18.cell? ⟨gb300,5,none⟩=some (.slice A0_5 l0_5.length c0_5):=(blk_cell BK300.out 5).trans rfl;have hcz19_6:w18.cell? ⟨gb300,6,none⟩=some (.slice A0_6 l0_6.length c0_6):=(blk_cell BK300.out 6).trans rfl;have hfz19_0:=blk_frozen BK300.out 0;have hfz19_1:=blk_frozen BK300.out 1;have hfz19_2:=blk_frozen BK300.out 2;have hfz19_3:=blk_frozen BK300.out 3;have hfz19_4:=blk_frozen BK300.out 4;have hfz19_5:=blk_frozen BK300.out 5;have hfz19_6:=blk_frozen BK300.out 6)|((with_reducible refine gate_callee (f:=44) rfl ?_);refine goesL_ (some 11) rfl rfl Try.func44 (by kernel_rfl) rfl #[.agg #[.int .i64 a0_0,.int .i64 a0_1,.int .i64 a0_2,.string a0_3,.slice A0_4 l0_4.length c0_4,.slice A0_5 l0_5.length c0_5,.slice A0_6 l0_6.length c0_6],.string a1,.string (⟨#[]⟩:ByteArray),.int .i64 1,.int .i64 1] rfl (by (try simp only [List.map_toArray,List.map_cons,List.map_nil]);first|done|rfl|(simp only [List.length_drop,List.length_take];rfl)) ?_;(with_reducible refine (node_asked.calls k a0_0 a0_1 a0_2 a0_3 _ _ l0_4 _ _ l0_5 _ _ l0_6 a1 (⟨#[]⟩:ByteArray) 1 1 t301 _ ?side1 ?side2 ?side3 ?side4 ?side5 ?side6 A3.out).mono ?_);(case side1=>repeat (first|exact (Kd.C_below HR0_4.out HB.out)|(with_reducible refine Kd.C_alloc ?_ _)|(with_reducible refine Kd.C_drewN ?_ _)|(with_reducible refine Kd.C_drew ?_)));(case side2=>exact HC0_4.out);(case side3=>repeat (first|exact (Kd.C_below HR0_5.out HB.out)|(with_reducible refine Kd.C_alloc ?_ _)|(with_reducible refine Kd.C_drewN ?_ _)|(with_reducible refine Kd.C_drew ?_)));(case side4=>exact HC0_5.out);(case side5=>repeat (first|exact (Kd.C_below HR0_6.out HB.out)|(with_reducible refine Kd.C_alloc ?_ _)|(with_reducible refine Kd.C_drewN ?_ _)|(with_reducible refine Kd.C_drew ?_)));(case side6=>exact HC0_6.out);rintro e w20 ⟨rfl,hb⟩;refine ⟨_,rfl,?_⟩;have n0_:=Aside0.mk (blk_below (g:=gb300) (o:=.cells #[.int .i64 a0_0,.int .i64 a0_1,.int .i64 a0_2,.string a0_3,.slice A0_4 l0_4.length c0_4,.slice A0_5 l0_5.length c0_5,.slice A0_6 l0_6.length c0_6] 25 (0,0)) (by (with_reducible repeat (first|refine blk_drewN ?_ _|refine blk_drew ?_|refine blk_alloc ?_ _));exact BK300.out) hb);have n1_:=Aside0.mk (below_step (by repeat (first|(with_reducible first|exact HB.out|apply below_alloc|apply pw_below_drewN|apply below_drew1|refine below_set ?_ GE300.out)|exact HB.out)) hb);clear BK300;clear HB;have BK300:=n0_;have HB:=n1_;clear n0_ n1_;(try clear hb);(try clear hb2);(try clear hk);(try clear hi);have hcz21_0:w20.cell? ⟨gb300,0,none⟩=some (.int .i64 a0_0):=(blk_cell BK300.out 0).trans rfl;have hcz21_1:w20.cell? ⟨gb300,1,none⟩=some (.int .i64 a0_1):=(blk_cell BK300.out 1).trans rfl;have hcz21_2:w20.cell? ⟨gb300,2,none⟩=some (.int .i64 a0_2):=(blk_cell BK300.out 2).trans rfl;have hcz21_3:w20.cell? ⟨gb300,3,none⟩=some (.string a0_3):=(blk_cell BK300.out 3).trans rfl;have hcz21_4:w20.cell? ⟨gb300,4,none⟩=some (.slice A0_4 l0_4.length c0_4):=(blk_cell BK300.out 4).trans rfl;have hcz21_5:w20.cell? ⟨gb300,5,none⟩=some (.slice A0_5 l0_5.length c0_5):=(blk_cell BK300.out 5).trans rfl;have hcz21_6:w20.cell? ⟨gb300,6,none⟩=some (.slice A0_6 l0_6.length c0_6):=(blk_cell BK300.out 6).trans rfl;have hfz21_0:=blk_frozen BK300.out 0;have hfz21_1:=blk_frozen BK300.out 1;have hfz21_2:=blk_frozen BK300.out 2;have hfz21_3:=blk_frozen BK300.out 3;have hfz21_4:=blk_frozen BK300.out 4;have hfz21_5:=blk_frozen BK300.out 5;have hfz21_6:=blk_frozen BK300.out 6)|((with_reducible refine gate_callee (f:=45) rfl ?_);refine goesL_ (some 19) rfl rfl Try.func45 (by kernel_rfl) rfl #[.slice A0_4 l0_4.length c0_4,.string a1] rfl (by (try simp only [List.map_toArray,List.map_cons,List.map_nil]);first|done|rfl|(simp only [List.length_drop,List.length_take];rfl)) ?_;(with_reducible refine (key_Place.calls _ _ l0_4 a1 t302 false _ ?side1 ?side2 A5.out).mono ?_);(case side1=>repeat (first|exact (Kd.C_below HR0_4.out HB.out)|(with_reducible refine Kd.C_alloc ?_ _)|(with_reducible refine Kd.C_drewN ?_ _)|(with_reducible refine Kd.C_drew ?_)));(case side2=>exact HC0_4.out);rintro e w22 ⟨rfl,hb⟩;refine ⟨_,rfl,?_⟩;have n0_:=Aside0.mk (blk_below (g:=gb300) (o:=.cells #[.int .i64 a0_0,.int .i64 a0_1,.int .i64 a0_2,.string a0_3,.slice A0_4 l0_4.length c0_4,.slice A0_5 l0_5.length c0_5,.slice A0_6 l0_6.length c0_6] 25 (0,0)) (by (with_reducible repeat (first|refine blk_drewN ?_ _|refine blk_drew ?_|refine blk_alloc ?_ _));exact BK300.out) hb);have n1_:=Aside0.mk (below_step (by repeat (first|(with_reducible first|exact HB.out|apply below_alloc|apply pw_below_drewN|apply below_drew1|refine below_set ?_ GE300.out)|exact HB.out)) hb);clear BK300;clear HB;have BK300:=n0_;have HB:=n1_;clear n0_ n1_;(try clear hb);(try clear hb2);(try clear hk);(try clear hi);have hcz23_0:w22.cell? ⟨gb300,0,none⟩=some (.int .i64 a0_0):=(blk_cell BK300.out 0).trans rfl;have hcz23_1:w22.cell? ⟨gb300,1,none⟩=some (.int .i64 a0_1):=(blk_cell BK300.out 1).trans rfl;have hcz23_2:w22.cell? ⟨gb300,2,none⟩=some (.int .i64 a0_2):=(blk_cell BK300.out 2).trans rfl;have hcz23_3:w22.cell? ⟨gb300,3,none⟩=some (.string a0_3):=(blk_cell BK300.out 3).trans rfl;have hcz23_4:w22.cell? ⟨gb300,4,none⟩=some (.slice A0_4 l0_4.length c0_4):=(blk_cell BK300.out 4).trans rfl;have hcz23_5:w22.cell? ⟨gb300,5,none⟩=some (.slice A0_5 l0_5.length c0_5):=(blk_cell BK300.out 5).trans rfl;have hcz23_6:w22.cell? ⟨gb300,6,none⟩=some (.slice A0_6 l0_6.length c0_6):=(blk_cell BK300.out 6).trans rfl;have hfz23_0:=blk_frozen BK300.out 0;have hfz23_1:=blk_frozen BK300.out 1;have hfz23_2:=blk_frozen BK300.out 2;have hfz23_3:=blk_frozen BK300.out 3;have hfz23_4:=blk_frozen BK300.out 4;have hfz23_5:=blk_frozen BK300.out 5;have hfz23_6:=blk_frozen BK300.out 6;have p305:0≤(t302:Int):=of_decide_eq_true (by first|(with_reducible assumption)|assumption);have q305:t302 < (l0_6.length:Int):=of_decide_eq_true (by first|(with_reducible assumption)|assumption);obtain ⟨ad305,e305,hx305_0⟩:=Kd.at_int HR0_6.out t302 p305 q305;cases e305;replace hx305_0:=(HB.out.cell (World.block_lt_of_cell? w _ hx305_0)).trans hx305_0;replace p305:=eq_true p305;replace q305:=eq_true q305))
     go_ret2
     exact ⟨by first|rfl|(simp [errW_none,errW_some] <;> rfl)|(simp [*,errW_none,errW_some] <;> rfl),by repeat (first|(with_reducible first|exact HB.out|apply below_alloc|apply pw_below_drewN|apply below_drew1|refine below_set ?_ GE300.out)|exact HB.out)⟩
    ·rw [if_neg c17] at H
     exact absurd H (by simp)
   ·rw [if_neg c16] at H
    exact absurd H (by simp)
 ·rw [if_neg c4] at H
  have c4b0:(t301==0)=false:=beq_eq_false_iff_ne.mpr c4
  have c4b1:(t301 != 0)=true:=bne_iff_ne.mpr c4
  simp only [Option.some.injEq,Prod.mk.injEq] at H
  obtain ⟨rfl,rfl⟩:=H
  go_enter Try.func20,Try.ntmps20
  go_wp2_with (first|((with_reducible refine gate_dst (N:=2) rfl ?_);refine box_event ?hg (N:=2) ?hd (cs:=#[.int .i64 a0_0,.int .i64 a0_1,.int .i64 a0_2,.string a0_3,.slice A0_4 l0_4.length c0_4,.slice A0_5 l0_5.length c0_5,.slice A0_6 l0_6.length c0_6]) (t:=25) ?hr ?_;(case hd=>rfl);(case hg=>rfl);(case hr=>first|(go_simp;done)|(go_simp;rfl));intro gb300 hg w24 hbox hb;have n0_:=Aside0.mk (below_step (by repeat (first|(with_reducible first|exact HB.out|apply below_alloc|apply pw_below_drewN|apply below_drew1)|exact HB.out)) hb);have n1_:=Aside0.mk (hbox);have n2_:=Aside0.mk ((by rw [hg];exact (below_size (by repeat (first|(with_reducible first|exact HB.out|apply below_alloc|apply pw_below_drewN|apply below_drew1)|exact HB.out))):w.heap.size≤gb300));have n3_:=Aside0.mk ((by rw [hg];exact (below_size (by repeat (first|(with_reducible first|exact HB.out|apply below_alloc|apply pw_below_drewN|apply below_drew1)|exact HB.out))):w.heap.size≤gb300));clear HB;have HB:=n0_;have BK300:=n1_;have GW300:=n2_;have GE300:=n3_;clear n0_ n1_ n2_ n3_;clear hb hbox hg;have hcz25_0:w24.cell? ⟨gb300,0,none⟩=some (.int .i64 a0_0):=(blk_cell BK300.out 0).trans rfl;have hcz25_1:w24.cell? ⟨gb300,1,none⟩=some (.int .i64 a0_1):=(blk_cell BK300.out 1).trans rfl;have hcz25_2:w24.cell? ⟨gb300,2,none⟩=some (.int .i64 a0_2):=(blk_cell BK300.out 2).trans rfl;have hcz25_3:w24.cell? ⟨gb300,3,none⟩=some (.string a0_3):=(blk_cell BK300.out 3).trans rfl;have hcz25_4:w24.cell? ⟨gb300,4,none⟩=some (.slice A0_4 l0_4.length c0_4):=(blk_cell BK300.out 4).trans rfl;have hcz25_5:w24.cell? ⟨gb300,5,none⟩=some (.slice A0_5 l0_5.length c0_5):=(blk_cell BK300.out 5).trans rfl;have hcz25_6:w24.cell? ⟨gb300,6,none⟩=some (.slice A0_6 l0_6.length c0_6):=(blk_cell BK300.out 6).trans rfl;have hfz25_0:=blk_frozen BK300.out 0;have hfz25_1:=blk_frozen BK300.out 1;have hfz25_2:=blk_frozen BK300.out 2;have hfz25_3:=blk_frozen BK300.out 3;have hfz25_4:=blk_frozen BK300.out 4;have hfz25_5:=blk_frozen BK300.out 5;have hfz25_6:=blk_frozen BK300.out 6)|((with_reducible refine gate_callee (f:=44) rfl ?_);refine goesL_ (some 11) rfl rfl Try.func44 (by kernel_rfl) rfl #[.agg #[.int .i64 a0_0,.int .i64 a0_1,.int .i64 a0_2,.string a0_3,.slice A0_4 l0_4.length c0_4,.slice A0_5 l0_5.length c0_5,.slice A0_6 l0_6.length c0_6],.string a1,.string (⟨#[]⟩:ByteArray),.int .i64 1,.int .i64 1] rfl (by (try simp only [List.map_toArray,List.map_cons,List.map_nil]);first|done|rfl|(simp only [List.length_drop,List.length_take];rfl)) ?_;(with_reducible refine (node_asked.calls k a0_0 a0_1 a0_2 a0_3 _ _ l0_4 _ _ l0_5 _ _ l0_6 a1 (⟨#[]⟩:ByteArray) 1 1 t301 _ ?side1 ?side2 ?side3 ?side4 ?side5 ?side6 A3.out).mono ?_);(case side1=>repeat (first|exact (Kd.C_below HR0_4.out HB.out)|(with_reducible refine Kd.C_alloc ?_ _)|(with_reducible refine Kd.C_drewN ?_ _)|(with_reducible refine Kd.C_drew ?_)));(case side2=>exact HC0_4.out);(case side3=>repeat (first|exact (Kd.C_below HR0_5.out HB.out)|(with_reducible refine Kd.C_alloc ?_ _)|(with_reducible refine Kd.C_drewN ?_ _)|(with_reducible refine Kd.C_drew ?_)));(case side4=>exact HC0_5.out);(case side5=>repeat (first|exact (Kd.C_below HR0_6.out HB.out)|(with_reducible refine Kd.C_alloc ?_ _)|(with_reducible refine Kd.C_drewN ?_ _)|(with_reducible refine Kd.C_drew ?_)));(case side6=>exact HC0_6.out);rintro e w26 ⟨rfl,hb⟩;refine ⟨_,rfl,?_⟩;have n0_:=Aside0.mk (blk_below (g:=gb300) (o:=.cells #[.int .i64 a0_0,.int .i64 a0_1,.int .i64 a0_2,.string a0_3,.slice A0_4 l0_4.length c0_4,.slice A0_5 l0_5.length c0_5,.slice A0_6 l0_6.length c0_6] 25 (0,0)) (by (with_reducible repeat (first|refine blk_drewN ?_ _|refine blk_drew ?_|refine blk_alloc ?_ _));exact BK300.out) hb);have n1_:=Aside0.mk (below_step (by repeat (first|(with_reducible first|exact HB.out|apply below_alloc|apply pw_below_drewN|apply below_drew1|refine below_set ?_ GE300.out)|exact HB.out)) hb);clear BK300;clear HB;have BK300:=n0_;have HB:=n1_;clear n0_ n1_;(try clear hb);(try clear hb2);(try clear hk);(try clear hi)))
  go_ret2
  exact ⟨by first|rfl|(simp [errW_none,errW_some] <;> rfl)|(simp [*,errW_none,errW_some] <;> rfl),by repeat (first|(with_reducible first|exact HB.out|apply below_alloc|apply pw_below_drewN|apply below_drew1|refine below_set ?_ GE300.out)|exact HB.out)⟩
end Go.Proofs.Ytcocmpblmkdmjaa.Pr
