-- A part of the text Prx8, thinned by a program of this session.
import Derived.Test.YteipehiiaggenaaTRecordDecodesPrx0
namespace Go.Proofs.Yteipehiiaggenaa.Pr
open Go.RowKit Go.Proofs.YteipehiiaggenaaW.PrintWords Go.Proofs.YteipehiiaggenaaW.PrintLast Go.Proofs.YteipehiiaggenaaW.PrintMore
attribute [local go_sem] max2_int min2_int max_two min_two max_three min_three max_four min_four
set_option linter.unusedVariables false
set_option linter.unusedSimpArgs false
def latticeref05_Check.f (a0:ByteArray):Option (Int):=if (a0.size:Int) < 1 then (some 50) else (if (a0.size:Int) > 16 then (some 50) else (some 0))
set_option maxHeartbeats 8000000 in
set_option maxRecDepth 100000 in
theorem latticeref05_Check.calls (a0:ByteArray) (r:Int) (w:World) (h:latticeref05_Check.f a0=some r) :
  Calls Try.prog 39 #[.string a0] w fun e w'=>e=.returned (.int .i64 r)∧Drawn0 w w':=by
 have H:(if (a0.size:Int) < 1 then (some 50) else (if (a0.size:Int) > 16 then (some 50) else (some 0)))=some r:=h
 clear h
 by_cases c2:(a0.size:Int) < 1
 ·rw [if_pos c2] at H
  have c2b0:decide ((a0.size:Int) < 1)=true:=decide_eq_true c2
  have c2b1:decide (a0.size < 1)=true:=decide_eq_true (by omega)
  clear c2
  obtain rfl:=Option.some.inj H
  go_enter Try.func39,Try.ntmps39
  go_wp2
  go_ret
  exact ⟨by first|rfl|(simp;done)|(simp [*];done),by repeat (first|exact Drawn0.refl _|apply Drawn0.step)⟩
 ·rw [if_neg c2] at H
  have c2b0:decide ((a0.size:Int) < 1)=false:=decide_eq_false c2
  have c2b1:decide (a0.size < 1)=false:=decide_eq_false (by omega)
  clear c2
  by_cases c3:(a0.size:Int) > 16
  ·rw [if_pos c3] at H
   have c3b0:decide (16 < (a0.size:Int))=true:=decide_eq_true c3
   have c3b1:decide (16 < a0.size)=true:=decide_eq_true (by omega)
   clear c3
   obtain rfl:=Option.some.inj H
   go_enter Try.func39,Try.ntmps39
   go_wp2
   go_ret
   exact ⟨by first|rfl|(simp;done)|(simp [*];done),by repeat (first|exact Drawn0.refl _|apply Drawn0.step)⟩
  ·rw [if_neg c3] at H
   have c3b0:decide (16 < (a0.size:Int))=false:=decide_eq_false c3
   have c3b1:decide (16 < a0.size)=false:=decide_eq_false (by omega)
   clear c3
   obtain rfl:=Option.some.inj H
   go_enter Try.func39,Try.ntmps39
   go_wp2
   go_ret
   exact ⟨by first|rfl|(simp;done)|(simp [*];done),by repeat (first|exact Drawn0.refl _|apply Drawn0.step)⟩
def latticeref05_Value.f (a0:ByteArray):Option (Int):=if (a0.size:Int) > 32 then (some 51) else (some 0)
set_option maxHeartbeats 8000000 in
set_option maxRecDepth 100000 in
theorem latticeref05_Value.calls (a0:ByteArray) (r:Int) (w:World) (h:latticeref05_Value.f a0=some r) :
  Calls Try.prog 40 #[.string a0] w fun e w'=>e=.returned (.int .i64 r)∧Drawn0 w w':=by
 have H:(if (a0.size:Int) > 32 then (some 51) else (some 0))=some r:=h
 clear h
 by_cases c2:(a0.size:Int) > 32
 ·rw [if_pos c2] at H
  have c2b0:decide (32 < (a0.size:Int))=true:=decide_eq_true c2
  have c2b1:decide (32 < a0.size)=true:=decide_eq_true (by omega)
  clear c2
  obtain rfl:=Option.some.inj H
  go_enter Try.func40,Try.ntmps40
  go_wp2
  go_ret
  exact ⟨by first|rfl|(simp;done)|(simp [*];done),by repeat (first|exact Drawn0.refl _|apply Drawn0.step)⟩
 ·rw [if_neg c2] at H
  have c2b0:decide (32 < (a0.size:Int))=false:=decide_eq_false c2
  have c2b1:decide (32 < a0.size)=false:=decide_eq_false (by omega)
  clear c2
  obtain rfl:=Option.some.inj H
  go_enter Try.func40,Try.ntmps40
  go_wp2
  go_ret
  exact ⟨by first|rfl|(simp;done)|(simp [*];done),by repeat (first|exact Drawn0.refl _|apply Drawn0.step)⟩
end Go.Proofs.Yteipehiiaggenaa.Pr
