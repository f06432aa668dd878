-- A part of the text Prx19, thinned by a program of this session.
import Derived.Test.YthfhkcicpfnedaaTPageGrowsPrx0
import Derived.Test.YthfhkcicpfnedaaTPageGrowsPageGrow
namespace Go.Proofs.Ythfhkcicpfnedaa.Pr
open Go.RowKit Go.Proofs.YthfhkcicpfnedaaW.PrintWords Go.Proofs.YthfhkcicpfnedaaW.PrintLast Go.Proofs.YthfhkcicpfnedaaW.PrintMore
attribute [local go_sem] max2_int min2_int max_two min_two max_three min_three max_four min_four
set_option linter.unusedVariables false
set_option linter.unusedSimpArgs false
noncomputable def latticelaw06_PageGrows.f (a0_0:Int) (a0_1:Int) (a0_2:Int) (a0_3:ByteArray) (l0_4:List ByteArray) (l0_5:List ByteArray) (l0_6:List Int):Option Bool:=@ite _ (l0_4.length*16≤140737488351232∧l0_5.length*16≤140737488351232) (Classical.propDecidable _) (some true) none
theorem latticelaw06_PageGrows.calls (a0_0:Int) (a0_1:Int) (a0_2:Int) (a0_3:ByteArray) (A0_4:Option Addr) (c0_4:Nat) (l0_4:List ByteArray) (A0_5:Option Addr) (c0_5:Nat) (l0_5:List ByteArray) (A0_6:Option Addr) (c0_6:Nat) (l0_6:List Int) (r:Bool) (w:World) (hr0_4:Kd.C Kd.string w A0_4 l0_4.length l0_4) (hc0_4:l0_4.length≤c0_4) (hr0_5:Kd.C Kd.string w A0_5 l0_5.length l0_5) (hc0_5:l0_5.length≤c0_5) (hr0_6:Kd.C (Kd.int .i64) w A0_6 l0_6.length l0_6) (hc0_6:l0_6.length≤c0_6) (h:latticelaw06_PageGrows.f a0_0 a0_1 a0_2 a0_3 l0_4 l0_5 l0_6=some r) :
  Calls Try.prog 8 #[.agg #[.int .i64 a0_0,.int .i64 a0_1,.int .i64 a0_2,.string a0_3,.slice A0_4 l0_4.length c0_4,.slice A0_5 l0_5.length c0_5,.slice A0_6 l0_6.length c0_6]] w fun e w'=>e=.returned (.bool r)∧Below w.heap.size w w':=by
 unfold latticelaw06_PageGrows.f at h
 split at h
 ·rename_i hn
  injection h with h
  subst h
  exact Page.grows_ok a0_0 a0_1 a0_2 a0_3 A0_4 c0_4 l0_4 A0_5 c0_5 l0_5 A0_6 c0_6 l0_6 w ⟨⟨hr0_4,hc0_4⟩,⟨hr0_5,hc0_5⟩,⟨hr0_6,hc0_6⟩⟩ hn.1 hn.2
 ·cases h
end Go.Proofs.Ythfhkcicpfnedaa.Pr
