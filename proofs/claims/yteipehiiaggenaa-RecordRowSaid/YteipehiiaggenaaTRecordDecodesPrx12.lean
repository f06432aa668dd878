-- A part of the text Prx12, thinned by a program of this session.
import Derived.Test.YteipehiiaggenaaTRecordDecodesPrx0
import Derived.Test.YteipehiiaggenaaTRecordDecodesCrcRef
namespace Go.Proofs.Yteipehiiaggenaa.Pr
open Go.RowKit Go.Proofs.YteipehiiaggenaaW.PrintWords Go.Proofs.YteipehiiaggenaaW.PrintLast Go.Proofs.YteipehiiaggenaaW.PrintMore
attribute [local go_sem] max2_int min2_int max_two min_two max_three min_three max_four min_four
set_option linter.unusedVariables false
set_option linter.unusedSimpArgs false
def allB (l:List Int):Bool:=l.all fun x=>decide (0≤x)&&decide (x < 256)
theorem allB_iff {l:List Int}:allB l=true↔Back.AllB l:=by
 unfold allB Back.AllB
 simp [List.all_eq_true]
def latticeref02_Seal.f (l0:List Int):Option (List Int):=if allB l0=true∧l0.length≤140737488351232 then some (l0++Wire.le (Crc.sumOf l0:Int) 4) else none
theorem latticeref02_Seal.calls (A0:Option Addr) (c0:Nat) (l0:List Int) (r:List Int) (w:World) (hr0:Kd.C (Kd.int .u8) w A0 l0.length l0) (hc0:l0.length≤c0) (h:latticeref02_Seal.f l0=some r) :
  Calls Try.prog 23 #[.slice A0 l0.length c0] w fun e w'=>∃ v_:Value,e=.returned v_∧Kd.R (Kd.int .u8) 5 w' w.heap.size (fun _=>True) v_ r∧Below w.heap.size w w':=by
 unfold latticeref02_Seal.f at h
 split at h
 ·rename_i hc
  injection h with h
  subst h
  exact Crc.refseal_ok A0 c0 l0 w hr0 (allB_iff.1 hc.1) hc.2
 ·cases h
end Go.Proofs.Yteipehiiaggenaa.Pr
