-- A part of the text Prx0, thinned by a program of this session.
import Derived.Test.YteipehiiaggenaaProg
import Derived.Below
import Derived.Deep.Draws
import Derived.Deep.AppendLies
import Derived.Maps.AppendAt
import Derived.OwnWalk
import Derived.Laws.BytesArg
import Derived.Laws.MakeOwn
import Derived.Laws.OwnMore
import Derived.Deep.OwnRows
import Derived.Tactics
import Derived.Lib.ConvBytes
import Derived.Laws.Slices
import Derived.WalkKit
import Derived.KernelRfl
import Derived.RowKit3
import Derived.Deep.LoopGhost
import Derived.Deep.QuietTactic
import Derived.BigQuiet
import Derived.WideLaws
import Derived.Deep.DeepCutAuto
import Derived.Deep.CutBlock
import Derived.Deep.RegionHeld3
import Derived.Laws.Rows
import Derived.Lib.AppendStr
import Derived.ArgAppend
import Derived.Laws.IdiomCopy
import Derived.OrdersHeld
import Derived.Laws.BitsLemmas
import Derived.RowKit
import Derived.Shelf.Abstract
import Derived.Test.YteipehiiaggenaaTRecordDecodesWWords
import Derived.Test.YteipehiiaggenaaTRecordDecodesWRest
namespace Go.Proofs.Yteipehiiaggenaa.Pr
open Go.RowKit Go.Proofs.YteipehiiaggenaaW.PrintWords Go.Proofs.YteipehiiaggenaaW.PrintLast Go.Proofs.YteipehiiaggenaaW.PrintMore
attribute [local go_sem] max2_int min2_int max_two min_two max_three min_three max_four min_four
set_option linter.unusedVariables false
set_option linter.unusedSimpArgs false
theorem bl_tot:∀ a b:List UInt8,Op.bytesLess b a=!(Op.bytesLess a b || a==b)
 | [],[]=>rfl
 | [],_::_=>rfl
 | _::_,[]=>rfl
 | x::a,y::b=>by
  have ih:=bl_tot a b
  simp only [Op.bytesLess]
  by_cases h:x=y
  ·subst h
   simp [ih]
  ·have h':¬ y=x:=fun e=>h e.symm
   have h1:(x==y)=false:=by simpa using h
   have h2:(y==x)=false:=by simpa using h'
   by_cases h3:x < y
   ·have h4:¬ y < x:=by rw [UInt8.lt_iff_toNat_lt] at *;omega
    simp [h1,h2,h3,h4]
   ·have h4:y < x:=by
     have:x.toNat≠y.toNat:=fun e=>h (UInt8.toNat_inj.1 e)
     rw [UInt8.lt_iff_toNat_lt] at *;omega
    simp [h1,h2,h3,h4]
theorem bl_leq (a b:List UInt8):(Op.bytesLess a b || a==b)=!(Op.bytesLess b a):=by rw [bl_tot a b];simp
theorem bo_string_leq (t:TypeId) (a b:ByteArray):binOp .leq t (.string a) (.string b)=pure (.bool (!(Op.bytesLess b.toList a.toList))):=by simp [binOp,Op.stringOp,bl_leq]
theorem bo_string_gtr (t:TypeId) (a b:ByteArray):binOp .gtr t (.string a) (.string b)=pure (.bool (Op.bytesLess b.toList a.toList)):=by simp [binOp,Op.stringOp,bl_leq]
theorem bo_string_geq (t:TypeId) (a b:ByteArray):binOp .geq t (.string a) (.string b)=pure (.bool (!(Op.bytesLess a.toList b.toList))):=by simp [binOp,Op.stringOp]
attribute [go_sem] bo_string_leq bo_string_gtr bo_string_geq
def errW:Option Int→Value
 | none=>.nilIface
 | some c=>.iface 0 (.int .i64 c)
theorem errW_none:errW none=.nilIface:=rfl
theorem errW_some (c:Int):errW (some c)=.iface 0 (.int .i64 c):=rfl
theorem info5:(Try.prog.info? 5).map (fun i=>(i.zero,i.size,i.bytes))=some (some (.int .u8 0),1,1):=by kernel_rfl
end Go.Proofs.Yteipehiiaggenaa.Pr
