-- A part of the text Prx0, thinned by a program of this session.
import Derived.Test.YthfhkcicpfnedaaProg
import Derived.Below
import Derived.Deep.Draws
import Derived.Deep.AppendLies
import Derived.Maps.AppendAt
import Derived.OwnWalk
import Derived.Laws.BytesArg
import Derived.Laws.MakeOwn
import Derived.Laws.OwnMore
import Derived.Deep.OwnRows
import Derived.Tactics
import Derived.Lib.ConvBytes
import Derived.Laws.Slices
import Derived.WalkKit
import Derived.KernelRfl
import Derived.RowKit3
import Derived.Deep.LoopGhost
import Derived.Deep.QuietTactic
import Derived.BigQuiet
import Derived.WideLaws
import Derived.Deep.DeepCutAuto
import Derived.Deep.CutBlock
import Derived.Deep.RegionHeld3
import Derived.Laws.Rows
import Derived.Lib.AppendStr
import Derived.ArgAppend
import Derived.Laws.IdiomCopy
import Derived.OrdersHeld
import Derived.Laws.BitsLemmas
import Derived.RowKit
import Derived.Shelf.Abstract
import Derived.Test.YthfhkcicpfnedaaTPageGrowsWWords
import Derived.Test.YthfhkcicpfnedaaTPageGrowsWLast
import Derived.Test.YthfhkcicpfnedaaTPageGrowsWApart
import Derived.Test.YthfhkcicpfnedaaTPageGrowsWFoot
import Derived.Test.YthfhkcicpfnedaaTPageGrowsWKept
import Derived.Test.YthfhkcicpfnedaaTPageGrowsWShare
import Derived.Test.YthfhkcicpfnedaaTPageGrowsWN
import Derived.Test.YthfhkcicpfnedaaTPageGrowsWAt
import Derived.Laws.StructEq
import Derived.Test.YthfhkcicpfnedaaTPageGrowsWRepsOne
import Derived.Test.YthfhkcicpfnedaaTPageGrowsWMore
namespace Go.Proofs.Ythfhkcicpfnedaa.Pr
open Go.RowKit Go.Proofs.YthfhkcicpfnedaaW.PrintWords Go.Proofs.YthfhkcicpfnedaaW.PrintLast Go.Proofs.YthfhkcicpfnedaaW.PrintMore
attribute [local go_sem] max2_int min2_int max_two min_two max_three min_three max_four min_four
set_option linter.unusedVariables false
set_option linter.unusedSimpArgs false
theorem bl_tot:∀ a b:List UInt8,Op.bytesLess b a=!(Op.bytesLess a b || a==b)
 | [],[]=>rfl
 | [],_::_=>rfl
 | _::_,[]=>rfl
 | x::a,y::b=>by
  have ih:=bl_tot a b
  simp only [Op.bytesLess]
  by_cases h:x=y
  ·subst h
   simp [ih]
  ·have h':¬ y=x:=fun e=>h e.symm
   have h1:(x==y)=false:=by simpa using h
   have h2:(y==x)=false:=by simpa using h'
   by_cases h3:x < y
   ·have h4:¬ y < x:=by rw [UInt8.lt_iff_toNat_lt] at *;omega
    simp [h1,h2,h3,h4]
   ·have h4:y < x:=by
     have:x.toNat≠y.toNat:=fun e=>h (UInt8.toNat_inj.1 e)
     rw [UInt8.lt_iff_toNat_lt] at *;omega
    simp [h1,h2,h3,h4]
theorem bl_leq (a b:List UInt8):(Op.bytesLess a b || a==b)=!(Op.bytesLess b a):=by rw [bl_tot a b];simp
theorem bo_string_leq (t:TypeId) (a b:ByteArray):binOp .leq t (.string a) (.string b)=pure (.bool (!(Op.bytesLess b.toList a.toList))):=by simp [binOp,Op.stringOp,bl_leq]
theorem bo_string_gtr (t:TypeId) (a b:ByteArray):binOp .gtr t (.string a) (.string b)=pure (.bool (Op.bytesLess b.toList a.toList)):=by simp [binOp,Op.stringOp,bl_leq]
theorem bo_string_geq (t:TypeId) (a b:ByteArray):binOp .geq t (.string a) (.string b)=pure (.bool (!(Op.bytesLess a.toList b.toList))):=by simp [binOp,Op.stringOp]
attribute [go_sem] bo_string_leq bo_string_gtr bo_string_geq
def errW:Option Int→Value
 | none=>.nilIface
 | some c=>.iface 0 (.int .i64 c)
theorem errW_none:errW none=.nilIface:=rfl
theorem errW_some (c:Int):errW (some c)=.iface 0 (.int .i64 c):=rfl
structure S25 where
 f0:Int
 f1:Int
 f2:Int
 f3:ByteArray
 f4:(List ByteArray)
 f5:(List ByteArray)
 f6:(List Int)
def k25:Kd S25:=Kd.iso (Kd.pair (Kd.int .i64) (Kd.pair (Kd.int .i64) (Kd.pair (Kd.int .i64) (Kd.pair Kd.string (Kd.pair (Kd.slice 9 Kd.string) (Kd.pair (Kd.slice 9 Kd.string) (Kd.slice 3 (Kd.int .i64)))))))) (fun x:S25=>(x.f0,x.f1,x.f2,x.f3,x.f4,x.f5,x.f6))
theorem k25_open {w:World} {x:S25} {cs:List Value} (h:k25.K w x cs):∃ A4 c4 A5 c5 A6 c6,cs=[.int .i64 x.f0,.int .i64 x.f1,.int .i64 x.f2,.string x.f3,.slice A4 x.f4.length c4,.slice A5 x.f5.length c5,.slice A6 x.f6.length c6]∧x.f4.length≤c4∧Kd.string.C w A4 x.f4.length x.f4∧x.f5.length≤c5∧Kd.string.C w A5 x.f5.length x.f5∧x.f6.length≤c6∧(Kd.int .i64).C w A6 x.f6.length x.f6:=by
 obtain ⟨_,_,rfl,rfl,⟨_,_,rfl,rfl,⟨_,_,rfl,rfl,⟨_,_,rfl,rfl,⟨_,_,rfl,⟨A4,c4,rfl,l4,g4⟩,⟨_,_,rfl,⟨A5,c5,rfl,l5,g5⟩,⟨A6,c6,rfl,l6,g6⟩⟩⟩⟩⟩⟩⟩:=h
 exact ⟨A4,c4,A5,c5,A6,c6,rfl,l4,g4,l5,g5,l6,g6⟩
end Go.Proofs.Ythfhkcicpfnedaa.Pr
