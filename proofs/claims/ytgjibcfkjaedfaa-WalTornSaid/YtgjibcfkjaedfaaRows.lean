/-
  No cell of these rows narrows 'for every input' (looked for: loops, veiled, ifaces, maps, wideKeys, modest, calm, conditions, laid).
  DERIVED. THE GIVEN ROWS OF THIS SEAT. 11 by the template 'for every input the law returns true; each argument reads behind the call as it read before'; 0 by the template 'total and deterministic' (their statements: YtgjibcfkjaedfaaTotals.lean).
  GIVEN WITH THE SEED: the statements are not yours to turn. If you find one false, say at which input.
  Laid BY PROGRAM, IN A SANDBOX (cutbox-rows.mjs): the forced cells as the released guide's own fill.sh prints them over the translation d3df84e96db476c0… (all of the seat's roots in one cut). By AI agents, Wed Nov 11 2026. No macro, syntax, notation, axiom, sorry.
-/
import Derived.Test.YtgjibcfkjaedfaaChecked
import GoSem.Claim
import GoSem.ClaimJoined
import GoSem.ClaimMapViews
import Derived.JoinedTies
import Derived.KernelRfl
namespace Go.Proofs.Ytgjibcfkjaedfaa
/- THE CELL 'sum', in the pinned program and in every row, IS THE sha256 OF THE DUMP (.gsa) THAT YtgjibcfkjaedfaaProg.lean LOADS. Nothing in Lean hashes anything: it is a label: what it is worth is what the hold of that sum in a sandbox is worth. -/
noncomputable def Try.pinned : Pinned := { name := "ytgjibcfkjaedfaa", sum := "d3df84e96db476c0cff01835315837f34f614d1fcd65f5fdacffcb34b306fb49", checked := Try.checked }
namespace Rows
def none {H : Type} : Left H := { results := [], args := [] }

/-- 'latticelaw20.ShipTakes': WHATEVER THE INPUT: true; the input reads as it did. -/
def shipTakesSpec : ChangeSpec := { name := "shipTakes", fn := fun _ => fun
  | [d1, d2, d3] => { results := [.lit (.bool true)], args := [d1, d2, d3] }
  | _ => none }
def shipTakesRow : OpenClaim := { program := "ytgjibcfkjaedfaa", sum := "d3df84e96db476c0cff01835315837f34f614d1fcd65f5fdacffcb34b306fb49", func := "lattice/latticelaw20.ShipTakes", spec := "shipTakes", unfollowed := true, recurses := true, apart := false }
def ShipTakesSaid : Prop := shipTakesRow.holds Try.pinned (OpenSpec.ofChange shipTakesSpec)

/-- ITS FALSE NEIGHBOUR: 'it returns false'. Refute it at one input. -/
def shipTakesWrong : ChangeSpec := { name := "shipTakes", fn := fun _ => fun
  | [d1, d2, d3] => { results := [.lit (.bool false)], args := [d1, d2, d3] }
  | _ => none }
def ShipTakesWrongFalsely : Prop := shipTakesRow.holds Try.pinned (OpenSpec.ofChange shipTakesWrong)

/-- 'latticelaw20.ShipOne': WHATEVER THE INPUT: true; the input reads as it did. -/
def shipOneSpec : ChangeSpec := { name := "shipOne", fn := fun _ => fun
  | [d1, d2] => { results := [.lit (.bool true)], args := [d1, d2] }
  | _ => none }
def shipOneRow : OpenClaim := { program := "ytgjibcfkjaedfaa", sum := "d3df84e96db476c0cff01835315837f34f614d1fcd65f5fdacffcb34b306fb49", func := "lattice/latticelaw20.ShipOne", spec := "shipOne", unfollowed := true, recurses := true, apart := false }
def ShipOneSaid : Prop := shipOneRow.holds Try.pinned (OpenSpec.ofChange shipOneSpec)

/-- ITS FALSE NEIGHBOUR: 'it returns false'. Refute it at one input. -/
def shipOneWrong : ChangeSpec := { name := "shipOne", fn := fun _ => fun
  | [d1, d2] => { results := [.lit (.bool false)], args := [d1, d2] }
  | _ => none }
def ShipOneWrongFalsely : Prop := shipOneRow.holds Try.pinned (OpenSpec.ofChange shipOneWrong)

/-- 'latticelaw20.ShipCut': WHATEVER THE INPUT: true; the input reads as it did. -/
def shipCutSpec : ChangeSpec := { name := "shipCut", fn := fun _ => fun
  | [d1, d2, d3] => { results := [.lit (.bool true)], args := [d1, d2, d3] }
  | _ => none }
def shipCutRow : OpenClaim := { program := "ytgjibcfkjaedfaa", sum := "d3df84e96db476c0cff01835315837f34f614d1fcd65f5fdacffcb34b306fb49", func := "lattice/latticelaw20.ShipCut", spec := "shipCut", unfollowed := true, recurses := true, apart := false }
def ShipCutSaid : Prop := shipCutRow.holds Try.pinned (OpenSpec.ofChange shipCutSpec)

/-- ITS FALSE NEIGHBOUR: 'it returns false'. Refute it at one input. -/
def shipCutWrong : ChangeSpec := { name := "shipCut", fn := fun _ => fun
  | [d1, d2, d3] => { results := [.lit (.bool false)], args := [d1, d2, d3] }
  | _ => none }
def ShipCutWrongFalsely : Prop := shipCutRow.holds Try.pinned (OpenSpec.ofChange shipCutWrong)

/-- 'latticelaw20.ShipSends': WHATEVER THE INPUT: true; the input reads as it did. -/
def shipSendsSpec : ChangeSpec := { name := "shipSends", fn := fun _ => fun
  | [d1, d2, d3] => { results := [.lit (.bool true)], args := [d1, d2, d3] }
  | _ => none }
def shipSendsRow : OpenClaim := { program := "ytgjibcfkjaedfaa", sum := "d3df84e96db476c0cff01835315837f34f614d1fcd65f5fdacffcb34b306fb49", func := "lattice/latticelaw20.ShipSends", spec := "shipSends", unfollowed := true, recurses := true, apart := false }
def ShipSendsSaid : Prop := shipSendsRow.holds Try.pinned (OpenSpec.ofChange shipSendsSpec)

/-- ITS FALSE NEIGHBOUR: 'it returns false'. Refute it at one input. -/
def shipSendsWrong : ChangeSpec := { name := "shipSends", fn := fun _ => fun
  | [d1, d2, d3] => { results := [.lit (.bool false)], args := [d1, d2, d3] }
  | _ => none }
def ShipSendsWrongFalsely : Prop := shipSendsRow.holds Try.pinned (OpenSpec.ofChange shipSendsWrong)

/-- 'latticelaw20.ShipNil': WHATEVER THE INPUT: true; the input reads as it did. -/
def shipNilSpec : ChangeSpec := { name := "shipNil", fn := fun _ => fun
  | [d] => { results := [.lit (.bool true)], args := [d] }
  | _ => none }
def shipNilRow : OpenClaim := { program := "ytgjibcfkjaedfaa", sum := "d3df84e96db476c0cff01835315837f34f614d1fcd65f5fdacffcb34b306fb49", func := "lattice/latticelaw20.ShipNil", spec := "shipNil", unfollowed := true, recurses := true, apart := false }
def ShipNilSaid : Prop := shipNilRow.holds Try.pinned (OpenSpec.ofChange shipNilSpec)

/-- ITS FALSE NEIGHBOUR: 'it returns false'. Refute it at one input. -/
def shipNilWrong : ChangeSpec := { name := "shipNil", fn := fun _ => fun
  | [d] => { results := [.lit (.bool false)], args := [d] }
  | _ => none }
def ShipNilWrongFalsely : Prop := shipNilRow.holds Try.pinned (OpenSpec.ofChange shipNilWrong)

/-- 'latticelaw20.ShipComes': WHATEVER THE INPUT: true; the input reads as it did. -/
def shipComesSpec : ChangeSpec := { name := "shipComes", fn := fun _ => fun
  | [d1, d2, d3] => { results := [.lit (.bool true)], args := [d1, d2, d3] }
  | _ => none }
def shipComesRow : OpenClaim := { program := "ytgjibcfkjaedfaa", sum := "d3df84e96db476c0cff01835315837f34f614d1fcd65f5fdacffcb34b306fb49", func := "lattice/latticelaw20.ShipComes", spec := "shipComes", unfollowed := true, recurses := true, apart := false }
def ShipComesSaid : Prop := shipComesRow.holds Try.pinned (OpenSpec.ofChange shipComesSpec)

/-- ITS FALSE NEIGHBOUR: 'it returns false'. Refute it at one input. -/
def shipComesWrong : ChangeSpec := { name := "shipComes", fn := fun _ => fun
  | [d1, d2, d3] => { results := [.lit (.bool false)], args := [d1, d2, d3] }
  | _ => none }
def ShipComesWrongFalsely : Prop := shipComesRow.holds Try.pinned (OpenSpec.ofChange shipComesWrong)

/-- 'latticelaw10.WalTorn': WHATEVER THE INPUT: true; the input reads as it did. -/
def walTornSpec : ChangeSpec := { name := "walTorn", fn := fun _ => fun
  | [d1, d2, d3] => { results := [.lit (.bool true)], args := [d1, d2, d3] }
  | _ => none }
def walTornRow : OpenClaim := { program := "ytgjibcfkjaedfaa", sum := "d3df84e96db476c0cff01835315837f34f614d1fcd65f5fdacffcb34b306fb49", func := "lattice/latticelaw10.WalTorn", spec := "walTorn", unfollowed := true, recurses := true, apart := false }
def WalTornSaid : Prop := walTornRow.holds Try.pinned (OpenSpec.ofChange walTornSpec)

/-- ITS FALSE NEIGHBOUR: 'it returns false'. Refute it at one input. -/
def walTornWrong : ChangeSpec := { name := "walTorn", fn := fun _ => fun
  | [d1, d2, d3] => { results := [.lit (.bool false)], args := [d1, d2, d3] }
  | _ => none }
def WalTornWrongFalsely : Prop := walTornRow.holds Try.pinned (OpenSpec.ofChange walTornWrong)

/-- 'latticelaw10.WalReads': WHATEVER THE INPUT: true; the input reads as it did. -/
def walReadsSpec : ChangeSpec := { name := "walReads", fn := fun _ => fun
  | [d1, d2] => { results := [.lit (.bool true)], args := [d1, d2] }
  | _ => none }
def walReadsRow : OpenClaim := { program := "ytgjibcfkjaedfaa", sum := "d3df84e96db476c0cff01835315837f34f614d1fcd65f5fdacffcb34b306fb49", func := "lattice/latticelaw10.WalReads", spec := "walReads", unfollowed := true, recurses := true, apart := false }
def WalReadsSaid : Prop := walReadsRow.holds Try.pinned (OpenSpec.ofChange walReadsSpec)

/-- ITS FALSE NEIGHBOUR: 'it returns false'. Refute it at one input. -/
def walReadsWrong : ChangeSpec := { name := "walReads", fn := fun _ => fun
  | [d1, d2] => { results := [.lit (.bool false)], args := [d1, d2] }
  | _ => none }
def WalReadsWrongFalsely : Prop := walReadsRow.holds Try.pinned (OpenSpec.ofChange walReadsWrong)

/-- 'latticelaw10.WalGrows': WHATEVER THE INPUT: true; the input reads as it did. -/
def walGrowsSpec : ChangeSpec := { name := "walGrows", fn := fun _ => fun
  | [d] => { results := [.lit (.bool true)], args := [d] }
  | _ => none }
def walGrowsRow : OpenClaim := { program := "ytgjibcfkjaedfaa", sum := "d3df84e96db476c0cff01835315837f34f614d1fcd65f5fdacffcb34b306fb49", func := "lattice/latticelaw10.WalGrows", spec := "walGrows", unfollowed := true, recurses := true, apart := false }
def WalGrowsSaid : Prop := walGrowsRow.holds Try.pinned (OpenSpec.ofChange walGrowsSpec)

/-- ITS FALSE NEIGHBOUR: 'it returns false'. Refute it at one input. -/
def walGrowsWrong : ChangeSpec := { name := "walGrows", fn := fun _ => fun
  | [d] => { results := [.lit (.bool false)], args := [d] }
  | _ => none }
def WalGrowsWrongFalsely : Prop := walGrowsRow.holds Try.pinned (OpenSpec.ofChange walGrowsWrong)

/-- 'latticelaw10.WalSteps': WHATEVER THE INPUT: true; the input reads as it did. -/
def walStepsSpec : ChangeSpec := { name := "walSteps", fn := fun _ => fun
  | [d] => { results := [.lit (.bool true)], args := [d] }
  | _ => none }
def walStepsRow : OpenClaim := { program := "ytgjibcfkjaedfaa", sum := "d3df84e96db476c0cff01835315837f34f614d1fcd65f5fdacffcb34b306fb49", func := "lattice/latticelaw10.WalSteps", spec := "walSteps", unfollowed := true, recurses := true, apart := false }
def WalStepsSaid : Prop := walStepsRow.holds Try.pinned (OpenSpec.ofChange walStepsSpec)

/-- ITS FALSE NEIGHBOUR: 'it returns false'. Refute it at one input. -/
def walStepsWrong : ChangeSpec := { name := "walSteps", fn := fun _ => fun
  | [d] => { results := [.lit (.bool false)], args := [d] }
  | _ => none }
def WalStepsWrongFalsely : Prop := walStepsRow.holds Try.pinned (OpenSpec.ofChange walStepsWrong)

/-- 'latticelaw10.WalNil': WHATEVER THE INPUT: true; the input reads as it did. -/
def walNilSpec : ChangeSpec := { name := "walNil", fn := fun _ => fun
  | [d] => { results := [.lit (.bool true)], args := [d] }
  | _ => none }
def walNilRow : OpenClaim := { program := "ytgjibcfkjaedfaa", sum := "d3df84e96db476c0cff01835315837f34f614d1fcd65f5fdacffcb34b306fb49", func := "lattice/latticelaw10.WalNil", spec := "walNil", unfollowed := true, recurses := true, apart := false }
def WalNilSaid : Prop := walNilRow.holds Try.pinned (OpenSpec.ofChange walNilSpec)

/-- ITS FALSE NEIGHBOUR: 'it returns false'. Refute it at one input. -/
def walNilWrong : ChangeSpec := { name := "walNil", fn := fun _ => fun
  | [d] => { results := [.lit (.bool false)], args := [d] }
  | _ => none }
def WalNilWrongFalsely : Prop := walNilRow.holds Try.pinned (OpenSpec.ofChange walNilWrong)

/- THE SECOND FORM. 'bulk': how many values and letters a reading holds, each counted each time it is reached (what is shared counts as often as it is met; a slice's spare places count too). A statement '..UptoSaid' is the law's where the arguments, and the package variables that the reading takes, are together of bulk at most 1048576: NARROWER than '..Said'. Prove '..Said' where nothing that the law and all that it calls make is longer than what came in: it says more and counts as full. Else prove '..UptoSaid'. A law counts once. -/
mutual
def uptoBulk {H : Type} : DataW H → Nat
  | .lit (.string bytes) => bytes.length + 1
  | .lit _ => 1
  | .nil => 1
  | .ptr d => uptoBulk d + 1
  | .slice elems spare => uptoBulkAll elems + uptoBulkAll spare + 1
  | .agg parts => uptoBulkAll parts + 1
  | .iface _ d => uptoBulk d + 1
  | .map entries => uptoBulkEntries entries + 1
  | .held _ => 1
def uptoBulkAll {H : Type} : List (DataW H) → Nat
  | [] => 0
  | d :: r => uptoBulk d + uptoBulkAll r
def uptoBulkEntries {H : Type} : List (Lit × DataW H) → Nat
  | [] => 0
  | x :: r => uptoBulkEntry x + uptoBulkEntries r
def uptoBulkEntry {H : Type} : Lit × DataW H → Nat
  | (.string bytes, d) => bytes.length + uptoBulk d + 1
  | (_, d) => uptoBulk d + 1
 end
def uptoSmall : (H : Type) → List (DataW H) → Bool := fun _ ds => decide (uptoBulkAll ds ≤ 1048576)
def OpenSpec.upto (s : _root_.Go.ChangeSpec) : _root_.Go.OpenSpec := { _root_.Go.OpenSpec.ofChange s with cond := some uptoSmall }

/-- 'latticelaw20.ShipTakes', WHERE WHAT IT READS IS OF BULK AT MOST 1048576: true; the input reads as it did. -/
def shipTakesUptoRow : OpenClaim := { program := "ytgjibcfkjaedfaa", sum := "d3df84e96db476c0cff01835315837f34f614d1fcd65f5fdacffcb34b306fb49", func := "lattice/latticelaw20.ShipTakes", spec := "shipTakes", unfollowed := true, recurses := true, apart := false, narrowed := true }
def ShipTakesUptoSaid : Prop := shipTakesUptoRow.holds Try.pinned (OpenSpec.upto shipTakesSpec)

/-- 'latticelaw20.ShipOne', WHERE WHAT IT READS IS OF BULK AT MOST 1048576: true; the input reads as it did. -/
def shipOneUptoRow : OpenClaim := { program := "ytgjibcfkjaedfaa", sum := "d3df84e96db476c0cff01835315837f34f614d1fcd65f5fdacffcb34b306fb49", func := "lattice/latticelaw20.ShipOne", spec := "shipOne", unfollowed := true, recurses := true, apart := false, narrowed := true }
def ShipOneUptoSaid : Prop := shipOneUptoRow.holds Try.pinned (OpenSpec.upto shipOneSpec)

/-- 'latticelaw20.ShipCut', WHERE WHAT IT READS IS OF BULK AT MOST 1048576: true; the input reads as it did. -/
def shipCutUptoRow : OpenClaim := { program := "ytgjibcfkjaedfaa", sum := "d3df84e96db476c0cff01835315837f34f614d1fcd65f5fdacffcb34b306fb49", func := "lattice/latticelaw20.ShipCut", spec := "shipCut", unfollowed := true, recurses := true, apart := false, narrowed := true }
def ShipCutUptoSaid : Prop := shipCutUptoRow.holds Try.pinned (OpenSpec.upto shipCutSpec)

/-- 'latticelaw20.ShipSends', WHERE WHAT IT READS IS OF BULK AT MOST 1048576: true; the input reads as it did. -/
def shipSendsUptoRow : OpenClaim := { program := "ytgjibcfkjaedfaa", sum := "d3df84e96db476c0cff01835315837f34f614d1fcd65f5fdacffcb34b306fb49", func := "lattice/latticelaw20.ShipSends", spec := "shipSends", unfollowed := true, recurses := true, apart := false, narrowed := true }
def ShipSendsUptoSaid : Prop := shipSendsUptoRow.holds Try.pinned (OpenSpec.upto shipSendsSpec)

/-- 'latticelaw20.ShipNil', WHERE WHAT IT READS IS OF BULK AT MOST 1048576: true; the input reads as it did. -/
def shipNilUptoRow : OpenClaim := { program := "ytgjibcfkjaedfaa", sum := "d3df84e96db476c0cff01835315837f34f614d1fcd65f5fdacffcb34b306fb49", func := "lattice/latticelaw20.ShipNil", spec := "shipNil", unfollowed := true, recurses := true, apart := false, narrowed := true }
def ShipNilUptoSaid : Prop := shipNilUptoRow.holds Try.pinned (OpenSpec.upto shipNilSpec)

/-- 'latticelaw20.ShipComes', WHERE WHAT IT READS IS OF BULK AT MOST 1048576: true; the input reads as it did. -/
def shipComesUptoRow : OpenClaim := { program := "ytgjibcfkjaedfaa", sum := "d3df84e96db476c0cff01835315837f34f614d1fcd65f5fdacffcb34b306fb49", func := "lattice/latticelaw20.ShipComes", spec := "shipComes", unfollowed := true, recurses := true, apart := false, narrowed := true }
def ShipComesUptoSaid : Prop := shipComesUptoRow.holds Try.pinned (OpenSpec.upto shipComesSpec)

/-- 'latticelaw10.WalTorn', WHERE WHAT IT READS IS OF BULK AT MOST 1048576: true; the input reads as it did. -/
def walTornUptoRow : OpenClaim := { program := "ytgjibcfkjaedfaa", sum := "d3df84e96db476c0cff01835315837f34f614d1fcd65f5fdacffcb34b306fb49", func := "lattice/latticelaw10.WalTorn", spec := "walTorn", unfollowed := true, recurses := true, apart := false, narrowed := true }
def WalTornUptoSaid : Prop := walTornUptoRow.holds Try.pinned (OpenSpec.upto walTornSpec)

/-- 'latticelaw10.WalReads', WHERE WHAT IT READS IS OF BULK AT MOST 1048576: true; the input reads as it did. -/
def walReadsUptoRow : OpenClaim := { program := "ytgjibcfkjaedfaa", sum := "d3df84e96db476c0cff01835315837f34f614d1fcd65f5fdacffcb34b306fb49", func := "lattice/latticelaw10.WalReads", spec := "walReads", unfollowed := true, recurses := true, apart := false, narrowed := true }
def WalReadsUptoSaid : Prop := walReadsUptoRow.holds Try.pinned (OpenSpec.upto walReadsSpec)

/-- 'latticelaw10.WalGrows', WHERE WHAT IT READS IS OF BULK AT MOST 1048576: true; the input reads as it did. -/
def walGrowsUptoRow : OpenClaim := { program := "ytgjibcfkjaedfaa", sum := "d3df84e96db476c0cff01835315837f34f614d1fcd65f5fdacffcb34b306fb49", func := "lattice/latticelaw10.WalGrows", spec := "walGrows", unfollowed := true, recurses := true, apart := false, narrowed := true }
def WalGrowsUptoSaid : Prop := walGrowsUptoRow.holds Try.pinned (OpenSpec.upto walGrowsSpec)

/-- 'latticelaw10.WalSteps', WHERE WHAT IT READS IS OF BULK AT MOST 1048576: true; the input reads as it did. -/
def walStepsUptoRow : OpenClaim := { program := "ytgjibcfkjaedfaa", sum := "d3df84e96db476c0cff01835315837f34f614d1fcd65f5fdacffcb34b306fb49", func := "lattice/latticelaw10.WalSteps", spec := "walSteps", unfollowed := true, recurses := true, apart := false, narrowed := true }
def WalStepsUptoSaid : Prop := walStepsUptoRow.holds Try.pinned (OpenSpec.upto walStepsSpec)

/-- 'latticelaw10.WalNil', WHERE WHAT IT READS IS OF BULK AT MOST 1048576: true; the input reads as it did. -/
def walNilUptoRow : OpenClaim := { program := "ytgjibcfkjaedfaa", sum := "d3df84e96db476c0cff01835315837f34f614d1fcd65f5fdacffcb34b306fb49", func := "lattice/latticelaw10.WalNil", spec := "walNil", unfollowed := true, recurses := true, apart := false, narrowed := true }
def WalNilUptoSaid : Prop := walNilUptoRow.holds Try.pinned (OpenSpec.upto walNilSpec)

end Rows
end Go.Proofs.Ytgjibcfkjaedfaa
