/-
  No cell of these rows narrows 'for every input' (looked for: loops, veiled, ifaces, maps, wideKeys, modest, calm, conditions, laid).
  DERIVED. THE GIVEN ROWS OF THIS SEAT. 4 by the template 'for every input the law returns true; each argument reads behind the call as it read before'; 0 by the template 'total and deterministic' (their statements: YtbpnigldojpapaaTotals.lean).
  GIVEN WITH THE SEED: the statements are not yours to turn. If you find one false, say at which input.
  Laid BY PROGRAM, IN A SANDBOX (cutbox-rows.mjs): the forced cells as the released guide's own fill.sh prints them over the translation 751a735be10ce5f4… (all of the seat's roots in one cut). By AI agents, Wed Nov 11 2026. No macro, syntax, notation, axiom, sorry.
-/
import Derived.Test.YtbpnigldojpapaaChecked
import GoSem.Claim
import GoSem.ClaimJoined
import GoSem.ClaimMapViews
import Derived.JoinedTies
import Derived.KernelRfl
namespace Go.Proofs.Ytbpnigldojpapaa
/- THE CELL 'sum', in the pinned program and in every row, IS THE sha256 OF THE DUMP (.gsa) THAT YtbpnigldojpapaaProg.lean LOADS. Nothing in Lean hashes anything: it is a label: what it is worth is what the hold of that sum in a sandbox is worth. -/
noncomputable def Try.pinned : Pinned := { name := "ytbpnigldojpapaa", sum := "751a735be10ce5f42265f23fe30c00bc852a48037ce9289e70f328e97a6de670", checked := Try.checked }
namespace Rows
def none {H : Type} : Left H := { results := [], args := [] }

/-- 'latticelaw15.PointsRedo': WHATEVER THE INPUT: true; the input reads as it did. -/
def pointsRedoSpec : ChangeSpec := { name := "pointsRedo", fn := fun _ => fun
  | [d1, d2] => { results := [.lit (.bool true)], args := [d1, d2] }
  | _ => none }
def pointsRedoRow : OpenClaim := { program := "ytbpnigldojpapaa", sum := "751a735be10ce5f42265f23fe30c00bc852a48037ce9289e70f328e97a6de670", func := "lattice/latticelaw15.PointsRedo", spec := "pointsRedo", unfollowed := true, recurses := true, apart := false }
def PointsRedoSaid : Prop := pointsRedoRow.holds Try.pinned (OpenSpec.ofChange pointsRedoSpec)

/-- ITS FALSE NEIGHBOUR: 'it returns false'. Refute it at one input. -/
def pointsRedoWrong : ChangeSpec := { name := "pointsRedo", fn := fun _ => fun
  | [d1, d2] => { results := [.lit (.bool false)], args := [d1, d2] }
  | _ => none }
def PointsRedoWrongFalsely : Prop := pointsRedoRow.holds Try.pinned (OpenSpec.ofChange pointsRedoWrong)

/-- 'latticelaw15.PointsCodes': WHATEVER THE INPUT: true; the input reads as it did. -/
def pointsCodesSpec : ChangeSpec := { name := "pointsCodes", fn := fun _ => fun
  | [d1, d2] => { results := [.lit (.bool true)], args := [d1, d2] }
  | _ => none }
def pointsCodesRow : OpenClaim := { program := "ytbpnigldojpapaa", sum := "751a735be10ce5f42265f23fe30c00bc852a48037ce9289e70f328e97a6de670", func := "lattice/latticelaw15.PointsCodes", spec := "pointsCodes", unfollowed := true, recurses := true, apart := false }
def PointsCodesSaid : Prop := pointsCodesRow.holds Try.pinned (OpenSpec.ofChange pointsCodesSpec)

/-- ITS FALSE NEIGHBOUR: 'it returns false'. Refute it at one input. -/
def pointsCodesWrong : ChangeSpec := { name := "pointsCodes", fn := fun _ => fun
  | [d1, d2] => { results := [.lit (.bool false)], args := [d1, d2] }
  | _ => none }
def PointsCodesWrongFalsely : Prop := pointsCodesRow.holds Try.pinned (OpenSpec.ofChange pointsCodesWrong)

/-- 'latticelaw15.PointsChoose': WHATEVER THE INPUT: true; the input reads as it did. -/
def pointsChooseSpec : ChangeSpec := { name := "pointsChoose", fn := fun _ => fun
  | [d1, d2, d3] => { results := [.lit (.bool true)], args := [d1, d2, d3] }
  | _ => none }
def pointsChooseRow : OpenClaim := { program := "ytbpnigldojpapaa", sum := "751a735be10ce5f42265f23fe30c00bc852a48037ce9289e70f328e97a6de670", func := "lattice/latticelaw15.PointsChoose", spec := "pointsChoose", unfollowed := true, recurses := true, apart := false }
def PointsChooseSaid : Prop := pointsChooseRow.holds Try.pinned (OpenSpec.ofChange pointsChooseSpec)

/-- ITS FALSE NEIGHBOUR: 'it returns false'. Refute it at one input. -/
def pointsChooseWrong : ChangeSpec := { name := "pointsChoose", fn := fun _ => fun
  | [d1, d2, d3] => { results := [.lit (.bool false)], args := [d1, d2, d3] }
  | _ => none }
def PointsChooseWrongFalsely : Prop := pointsChooseRow.holds Try.pinned (OpenSpec.ofChange pointsChooseWrong)

/-- 'latticelaw15.PointsTorn': WHATEVER THE INPUT: true; the input reads as it did. -/
def pointsTornSpec : ChangeSpec := { name := "pointsTorn", fn := fun _ => fun
  | [d1, d2] => { results := [.lit (.bool true)], args := [d1, d2] }
  | _ => none }
def pointsTornRow : OpenClaim := { program := "ytbpnigldojpapaa", sum := "751a735be10ce5f42265f23fe30c00bc852a48037ce9289e70f328e97a6de670", func := "lattice/latticelaw15.PointsTorn", spec := "pointsTorn", unfollowed := true, recurses := true, apart := false }
def PointsTornSaid : Prop := pointsTornRow.holds Try.pinned (OpenSpec.ofChange pointsTornSpec)

/-- ITS FALSE NEIGHBOUR: 'it returns false'. Refute it at one input. -/
def pointsTornWrong : ChangeSpec := { name := "pointsTorn", fn := fun _ => fun
  | [d1, d2] => { results := [.lit (.bool false)], args := [d1, d2] }
  | _ => none }
def PointsTornWrongFalsely : Prop := pointsTornRow.holds Try.pinned (OpenSpec.ofChange pointsTornWrong)

/- THE SECOND FORM. 'bulk': how many values and letters a reading holds, each counted each time it is reached (what is shared counts as often as it is met; a slice's spare places count too). A statement '..UptoSaid' is the law's where the arguments, and the package variables that the reading takes, are together of bulk at most 1048576: NARROWER than '..Said'. Prove '..Said' where nothing that the law and all that it calls make is longer than what came in: it says more and counts as full. Else prove '..UptoSaid'. A law counts once. -/
mutual
def uptoBulk {H : Type} : DataW H → Nat
  | .lit (.string bytes) => bytes.length + 1
  | .lit _ => 1
  | .nil => 1
  | .ptr d => uptoBulk d + 1
  | .slice elems spare => uptoBulkAll elems + uptoBulkAll spare + 1
  | .agg parts => uptoBulkAll parts + 1
  | .iface _ d => uptoBulk d + 1
  | .map entries => uptoBulkEntries entries + 1
  | .held _ => 1
def uptoBulkAll {H : Type} : List (DataW H) → Nat
  | [] => 0
  | d :: r => uptoBulk d + uptoBulkAll r
def uptoBulkEntries {H : Type} : List (Lit × DataW H) → Nat
  | [] => 0
  | x :: r => uptoBulkEntry x + uptoBulkEntries r
def uptoBulkEntry {H : Type} : Lit × DataW H → Nat
  | (.string bytes, d) => bytes.length + uptoBulk d + 1
  | (_, d) => uptoBulk d + 1
 end
def uptoSmall : (H : Type) → List (DataW H) → Bool := fun _ ds => decide (uptoBulkAll ds ≤ 1048576)
def OpenSpec.upto (s : _root_.Go.ChangeSpec) : _root_.Go.OpenSpec := { _root_.Go.OpenSpec.ofChange s with cond := some uptoSmall }

/-- 'latticelaw15.PointsRedo', WHERE WHAT IT READS IS OF BULK AT MOST 1048576: true; the input reads as it did. -/
def pointsRedoUptoRow : OpenClaim := { program := "ytbpnigldojpapaa", sum := "751a735be10ce5f42265f23fe30c00bc852a48037ce9289e70f328e97a6de670", func := "lattice/latticelaw15.PointsRedo", spec := "pointsRedo", unfollowed := true, recurses := true, apart := false, narrowed := true }
def PointsRedoUptoSaid : Prop := pointsRedoUptoRow.holds Try.pinned (OpenSpec.upto pointsRedoSpec)

/-- 'latticelaw15.PointsCodes', WHERE WHAT IT READS IS OF BULK AT MOST 1048576: true; the input reads as it did. -/
def pointsCodesUptoRow : OpenClaim := { program := "ytbpnigldojpapaa", sum := "751a735be10ce5f42265f23fe30c00bc852a48037ce9289e70f328e97a6de670", func := "lattice/latticelaw15.PointsCodes", spec := "pointsCodes", unfollowed := true, recurses := true, apart := false, narrowed := true }
def PointsCodesUptoSaid : Prop := pointsCodesUptoRow.holds Try.pinned (OpenSpec.upto pointsCodesSpec)

/-- 'latticelaw15.PointsChoose', WHERE WHAT IT READS IS OF BULK AT MOST 1048576: true; the input reads as it did. -/
def pointsChooseUptoRow : OpenClaim := { program := "ytbpnigldojpapaa", sum := "751a735be10ce5f42265f23fe30c00bc852a48037ce9289e70f328e97a6de670", func := "lattice/latticelaw15.PointsChoose", spec := "pointsChoose", unfollowed := true, recurses := true, apart := false, narrowed := true }
def PointsChooseUptoSaid : Prop := pointsChooseUptoRow.holds Try.pinned (OpenSpec.upto pointsChooseSpec)

/-- 'latticelaw15.PointsTorn', WHERE WHAT IT READS IS OF BULK AT MOST 1048576: true; the input reads as it did. -/
def pointsTornUptoRow : OpenClaim := { program := "ytbpnigldojpapaa", sum := "751a735be10ce5f42265f23fe30c00bc852a48037ce9289e70f328e97a6de670", func := "lattice/latticelaw15.PointsTorn", spec := "pointsTorn", unfollowed := true, recurses := true, apart := false, narrowed := true }
def PointsTornUptoSaid : Prop := pointsTornUptoRow.holds Try.pinned (OpenSpec.upto pointsTornSpec)

end Rows
end Go.Proofs.Ytbpnigldojpapaa
