-- Written by a program of this session (wip/tools/drv.py) over the kit's printer. Not trusted: Lean checks it.
import Derived.Test.YtebmempiednlgaaProg
import Derived.Below
import Derived.Deep.Draws
import Derived.Deep.AppendLies
import Derived.Maps.AppendAt
import Derived.OwnWalk
import Derived.Laws.BytesArg
import Derived.Laws.MakeOwn
import Derived.Laws.OwnMore
import Derived.Deep.OwnRows
import Derived.Tactics
import Derived.Lib.ConvBytes
import Derived.Laws.Slices
import Derived.WalkKit
import Derived.KernelRfl
import Derived.RowKit3
import Derived.Deep.LoopGhost
import Derived.Deep.QuietTactic
import Derived.BigQuiet
import Derived.WideLaws
import Derived.Deep.DeepCutAuto
import Derived.Deep.CutBlock
import Derived.Deep.RegionHeld3
import Derived.Laws.Rows
import Derived.Lib.AppendStr
import Derived.ArgAppend
import Derived.Laws.IdiomCopy
import Derived.OrdersHeld
import Derived.Laws.BitsLemmas
import Derived.RowKit
import Derived.Test.YtebmempiednlgaaWWords
import Derived.Test.YtebmempiednlgaaWLast
import Derived.Test.YtebmempiednlgaaWTab
import Derived.Test.YtebmempiednlgaaWFour
import Derived.Test.YtebmempiednlgaaWQPut
import Derived.Test.YtebmempiednlgaaWApart
import Derived.Test.YtebmempiednlgaaWArr
import Derived.Test.YtebmempiednlgaaWZeros
import Derived.Test.YtebmempiednlgaaWFoot
import Derived.Test.YtebmempiednlgaaWKept
import Derived.Test.YtebmempiednlgaaWShare
import Derived.Test.YtebmempiednlgaaWN
import Derived.Test.YtebmempiednlgaaWFootNe
import Derived.Test.YtebmempiednlgaaWAt
import Derived.Test.YtebmempiednlgaaWEqStruct
import Derived.Test.YtebmempiednlgaaWRepsOne
import Derived.Test.YtebmempiednlgaaWInv
import Derived.Test.YtebmempiednlgaaWInvWords
import Derived.Test.YtebmempiednlgaaWGuard
import Derived.Test.YtebmempiednlgaaWNEv
import Derived.Test.YtebmempiednlgaaWMore
namespace Go.Proofs.Ytebmempiednlgaa.Pr
open Go.RowKit Go.Proofs.YtebmempiednlgaaW.PrintWords Go.Proofs.YtebmempiednlgaaW.PrintLast Go.Proofs.YtebmempiednlgaaW.PrintMore
attribute [local go_sem] max2_int min2_int max_two min_two max_three min_three max_four min_four   -- for this text's walks alone
set_option linter.unusedVariables false
set_option linter.unusedSimpArgs false

theorem bl_tot : ∀ a b : List UInt8, Op.bytesLess b a = !(Op.bytesLess a b || a == b)
  | [], [] => rfl
  | [], _ :: _ => rfl
  | _ :: _, [] => rfl
  | x :: a, y :: b => by
    have ih := bl_tot a b
    simp only [Op.bytesLess]
    by_cases h : x = y
    · subst h
      simp [ih]
    · have h' : ¬ y = x := fun e => h e.symm
      have h1 : (x == y) = false := by simpa using h
      have h2 : (y == x) = false := by simpa using h'
      by_cases h3 : x < y
      · have h4 : ¬ y < x := by rw [UInt8.lt_iff_toNat_lt] at *; omega
        simp [h1, h2, h3, h4]
      · have h4 : y < x := by
          have : x.toNat ≠ y.toNat := fun e => h (UInt8.toNat_inj.1 e)
          rw [UInt8.lt_iff_toNat_lt] at *; omega
        simp [h1, h2, h3, h4]
theorem bl_leq (a b : List UInt8) : (Op.bytesLess a b || a == b) = !(Op.bytesLess b a) := by rw [bl_tot a b]; simp
theorem bo_string_leq (t : TypeId) (a b : ByteArray) : binOp .leq t (.string a) (.string b) = pure (.bool (!(Op.bytesLess b.toList a.toList))) := by simp [binOp, Op.stringOp, bl_leq]
theorem bo_string_gtr (t : TypeId) (a b : ByteArray) : binOp .gtr t (.string a) (.string b) = pure (.bool (Op.bytesLess b.toList a.toList)) := by simp [binOp, Op.stringOp, bl_leq]
theorem bo_string_geq (t : TypeId) (a b : ByteArray) : binOp .geq t (.string a) (.string b) = pure (.bool (!(Op.bytesLess a.toList b.toList))) := by simp [binOp, Op.stringOp]
theorem bne_nil_ (l : List UInt8) : (l != []) = !l.isEmpty := by cases l <;> rfl
theorem beq_nil_ (l : List UInt8) : (l == []) = l.isEmpty := by cases l <;> rfl
attribute [go_sem] bo_string_leq bo_string_gtr bo_string_geq


def errW : Option Int → Value
  | none => .nilIface
  | some c => .iface 0 (.int .i64 c)
theorem errW_none : errW none = .nilIface := rfl
theorem errW_some (c : Int) : errW (some c) = .iface 0 (.int .i64 c) := rfl

-- the values' own types
def rd_L1 (xs : List (List Int)) (i : Int) : (List Int) := xs.getD i.toNat ([] : List Int)
theorem at_L1 {w : World} {A : Option Addr} {n : Nat} {xs : List (List Int)} (h : Kd.C (Kd.slice 5 (Kd.int .u8)) w A n xs) (i : Int) (h0 : 0 ≤ i) (h1 : i < n) : ∃ ad A0 c0, A = some ad ∧ w.cell? (ad.add i.toNat) = some (.slice A0 (rd_L1 xs i).length c0) ∧ (rd_L1 xs i).length ≤ c0 ∧ (Kd.int .u8).C w A0 (rd_L1 xs i).length (rd_L1 xs i) := by
  obtain ⟨ad, c, e, _, hK, hc0⟩ := Kd.C_get h ([] : List Int) i h0 h1
  have hc : ∀ j u, c[j]? = some u → w.cell? (ad.add (i.toNat * 1 + j)) = some u := hc0
  obtain ⟨A0, c0, rfl, l0, g0⟩ := hK
  exact ⟨ad, A0, c0, e, by have hq := hc 0 _ rfl; rwa [Nat.mul_one, Nat.add_zero] at hq, l0, g0⟩

end Go.Proofs.Ytebmempiednlgaa.Pr
