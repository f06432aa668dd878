/-
  No cell of these rows narrows 'for every input' (looked for: loops, veiled, ifaces, maps, wideKeys, modest, calm, conditions, laid).
  DERIVED. THE GIVEN ROWS OF THIS SEAT. 7 by the template 'for every input the law returns true; each argument reads behind the call as it read before'; 0 by the template 'total and deterministic' (their statements: YtcocmpblmkdmjaaTotals.lean).
  GIVEN WITH THE SEED: the statements are not yours to turn. If you find one false, say at which input.
  Laid BY PROGRAM, IN A SANDBOX (cutbox-rows.mjs): the forced cells as the released guide's own fill.sh prints them over the translation 75e0157410763f9e… (all of the seat's roots in one cut). By AI agents, Wed Nov 11 2026. No macro, syntax, notation, axiom, sorry.
-/
import Derived.Test.YtcocmpblmkdmjaaChecked
import GoSem.Claim
import GoSem.ClaimJoined
import GoSem.ClaimMapViews
import Derived.JoinedTies
import Derived.KernelRfl
namespace Go.Proofs.Ytcocmpblmkdmjaa
/- THE CELL 'sum', in the pinned program and in every row, IS THE sha256 OF THE DUMP (.gsa) THAT YtcocmpblmkdmjaaProg.lean LOADS. Nothing in Lean hashes anything: it is a label: what it is worth is what the hold of that sum in a sandbox is worth. -/
noncomputable def Try.pinned : Pinned := { name := "ytcocmpblmkdmjaa", sum := "75e0157410763f9ef8c34fc3b6109c48ec349ce7744c7b221474cc5593aaa33a", checked := Try.checked }
namespace Rows
def none {H : Type} : Left H := { results := [], args := [] }

/-- 'latticelaw07.NodeParts': WHATEVER THE INPUT: true; the input reads as it did. -/
def nodePartsSpec : ChangeSpec := { name := "nodeParts", fn := fun _ => fun
  | [d1, d2, d3] => { results := [.lit (.bool true)], args := [d1, d2, d3] }
  | _ => none }
def nodePartsRow : OpenClaim := { program := "ytcocmpblmkdmjaa", sum := "75e0157410763f9ef8c34fc3b6109c48ec349ce7744c7b221474cc5593aaa33a", func := "lattice/latticelaw07.NodeParts", spec := "nodeParts", unfollowed := true, recurses := true, apart := false }
def NodePartsSaid : Prop := nodePartsRow.holds Try.pinned (OpenSpec.ofChange nodePartsSpec)

/-- ITS FALSE NEIGHBOUR: 'it returns false'. Refute it at one input. -/
def nodePartsWrong : ChangeSpec := { name := "nodeParts", fn := fun _ => fun
  | [d1, d2, d3] => { results := [.lit (.bool false)], args := [d1, d2, d3] }
  | _ => none }
def NodePartsWrongFalsely : Prop := nodePartsRow.holds Try.pinned (OpenSpec.ofChange nodePartsWrong)

/-- 'latticelaw07.NodeLooks': WHATEVER THE INPUT: true; the input reads as it did. -/
def nodeLooksSpec : ChangeSpec := { name := "nodeLooks", fn := fun _ => fun
  | [d1, d2] => { results := [.lit (.bool true)], args := [d1, d2] }
  | _ => none }
def nodeLooksRow : OpenClaim := { program := "ytcocmpblmkdmjaa", sum := "75e0157410763f9ef8c34fc3b6109c48ec349ce7744c7b221474cc5593aaa33a", func := "lattice/latticelaw07.NodeLooks", spec := "nodeLooks", unfollowed := true, recurses := true, apart := false }
def NodeLooksSaid : Prop := nodeLooksRow.holds Try.pinned (OpenSpec.ofChange nodeLooksSpec)

/-- ITS FALSE NEIGHBOUR: 'it returns false'. Refute it at one input. -/
def nodeLooksWrong : ChangeSpec := { name := "nodeLooks", fn := fun _ => fun
  | [d1, d2] => { results := [.lit (.bool false)], args := [d1, d2] }
  | _ => none }
def NodeLooksWrongFalsely : Prop := nodeLooksRow.holds Try.pinned (OpenSpec.ofChange nodeLooksWrong)

/-- 'latticelaw07.NodeHalves': WHATEVER THE INPUT: true; the input reads as it did. -/
def nodeHalvesSpec : ChangeSpec := { name := "nodeHalves", fn := fun _ => fun
  | [d1, d2, d3] => { results := [.lit (.bool true)], args := [d1, d2, d3] }
  | _ => none }
def nodeHalvesRow : OpenClaim := { program := "ytcocmpblmkdmjaa", sum := "75e0157410763f9ef8c34fc3b6109c48ec349ce7744c7b221474cc5593aaa33a", func := "lattice/latticelaw07.NodeHalves", spec := "nodeHalves", unfollowed := true, recurses := true, apart := false }
def NodeHalvesSaid : Prop := nodeHalvesRow.holds Try.pinned (OpenSpec.ofChange nodeHalvesSpec)

/-- ITS FALSE NEIGHBOUR: 'it returns false'. Refute it at one input. -/
def nodeHalvesWrong : ChangeSpec := { name := "nodeHalves", fn := fun _ => fun
  | [d1, d2, d3] => { results := [.lit (.bool false)], args := [d1, d2, d3] }
  | _ => none }
def NodeHalvesWrongFalsely : Prop := nodeHalvesRow.holds Try.pinned (OpenSpec.ofChange nodeHalvesWrong)

/-- 'latticelaw07.NodePosts': WHATEVER THE INPUT: true; the input reads as it did. -/
def nodePostsSpec : ChangeSpec := { name := "nodePosts", fn := fun _ => fun
  | [d1, d2, d3] => { results := [.lit (.bool true)], args := [d1, d2, d3] }
  | _ => none }
def nodePostsRow : OpenClaim := { program := "ytcocmpblmkdmjaa", sum := "75e0157410763f9ef8c34fc3b6109c48ec349ce7744c7b221474cc5593aaa33a", func := "lattice/latticelaw07.NodePosts", spec := "nodePosts", inPlace := ["slices.overlaps[string]", "slices.overlaps[int]"], unfollowed := true, recurses := true, apart := false }
def NodePostsSaid : Prop := nodePostsRow.holds Try.pinned (OpenSpec.ofChange nodePostsSpec)

/-- ITS FALSE NEIGHBOUR: 'it returns false'. Refute it at one input. -/
def nodePostsWrong : ChangeSpec := { name := "nodePosts", fn := fun _ => fun
  | [d1, d2, d3] => { results := [.lit (.bool false)], args := [d1, d2, d3] }
  | _ => none }
def NodePostsWrongFalsely : Prop := nodePostsRow.holds Try.pinned (OpenSpec.ofChange nodePostsWrong)

/-- 'latticelaw07.NodeChanges': WHATEVER THE INPUT: true; the input reads as it did. -/
def nodeChangesSpec : ChangeSpec := { name := "nodeChanges", fn := fun _ => fun
  | [d1, d2, d3] => { results := [.lit (.bool true)], args := [d1, d2, d3] }
  | _ => none }
def nodeChangesRow : OpenClaim := { program := "ytcocmpblmkdmjaa", sum := "75e0157410763f9ef8c34fc3b6109c48ec349ce7744c7b221474cc5593aaa33a", func := "lattice/latticelaw07.NodeChanges", spec := "nodeChanges", inPlace := ["slices.overlaps[string]"], unfollowed := true, recurses := true, apart := false }
def NodeChangesSaid : Prop := nodeChangesRow.holds Try.pinned (OpenSpec.ofChange nodeChangesSpec)

/-- ITS FALSE NEIGHBOUR: 'it returns false'. Refute it at one input. -/
def nodeChangesWrong : ChangeSpec := { name := "nodeChanges", fn := fun _ => fun
  | [d1, d2, d3] => { results := [.lit (.bool false)], args := [d1, d2, d3] }
  | _ => none }
def NodeChangesWrongFalsely : Prop := nodeChangesRow.holds Try.pinned (OpenSpec.ofChange nodeChangesWrong)

/-- 'latticelaw07.NodeTurns': WHATEVER THE INPUT: true; the input reads as it did. -/
def nodeTurnsSpec : ChangeSpec := { name := "nodeTurns", fn := fun _ => fun
  | [d1, d2, d3] => { results := [.lit (.bool true)], args := [d1, d2, d3] }
  | _ => none }
def nodeTurnsRow : OpenClaim := { program := "ytcocmpblmkdmjaa", sum := "75e0157410763f9ef8c34fc3b6109c48ec349ce7744c7b221474cc5593aaa33a", func := "lattice/latticelaw07.NodeTurns", spec := "nodeTurns", inPlace := ["slices.overlaps[string]"], unfollowed := true, recurses := true, apart := false }
def NodeTurnsSaid : Prop := nodeTurnsRow.holds Try.pinned (OpenSpec.ofChange nodeTurnsSpec)

/-- ITS FALSE NEIGHBOUR: 'it returns false'. Refute it at one input. -/
def nodeTurnsWrong : ChangeSpec := { name := "nodeTurns", fn := fun _ => fun
  | [d1, d2, d3] => { results := [.lit (.bool false)], args := [d1, d2, d3] }
  | _ => none }
def NodeTurnsWrongFalsely : Prop := nodeTurnsRow.holds Try.pinned (OpenSpec.ofChange nodeTurnsWrong)

/-- 'latticelaw07.NodeBack': WHATEVER THE INPUT: true; the input reads as it did. -/
def nodeBackSpec : ChangeSpec := { name := "nodeBack", fn := fun _ => fun
  | [d1, d2, d3] => { results := [.lit (.bool true)], args := [d1, d2, d3] }
  | _ => none }
def nodeBackRow : OpenClaim := { program := "ytcocmpblmkdmjaa", sum := "75e0157410763f9ef8c34fc3b6109c48ec349ce7744c7b221474cc5593aaa33a", func := "lattice/latticelaw07.NodeBack", spec := "nodeBack", inPlace := ["slices.overlaps[string]"], unfollowed := true, recurses := true, apart := false }
def NodeBackSaid : Prop := nodeBackRow.holds Try.pinned (OpenSpec.ofChange nodeBackSpec)

/-- ITS FALSE NEIGHBOUR: 'it returns false'. Refute it at one input. -/
def nodeBackWrong : ChangeSpec := { name := "nodeBack", fn := fun _ => fun
  | [d1, d2, d3] => { results := [.lit (.bool false)], args := [d1, d2, d3] }
  | _ => none }
def NodeBackWrongFalsely : Prop := nodeBackRow.holds Try.pinned (OpenSpec.ofChange nodeBackWrong)

/- THE SECOND FORM. 'bulk': how many values and letters a reading holds, each counted each time it is reached (what is shared counts as often as it is met; a slice's spare places count too). A statement '..UptoSaid' is the law's where the arguments, and the package variables that the reading takes, are together of bulk at most 1048576: NARROWER than '..Said'. Prove '..Said' where nothing that the law and all that it calls make is longer than what came in: it says more and counts as full. Else prove '..UptoSaid'. A law counts once. -/
mutual
def uptoBulk {H : Type} : DataW H → Nat
  | .lit (.string bytes) => bytes.length + 1
  | .lit _ => 1
  | .nil => 1
  | .ptr d => uptoBulk d + 1
  | .slice elems spare => uptoBulkAll elems + uptoBulkAll spare + 1
  | .agg parts => uptoBulkAll parts + 1
  | .iface _ d => uptoBulk d + 1
  | .map entries => uptoBulkEntries entries + 1
  | .held _ => 1
def uptoBulkAll {H : Type} : List (DataW H) → Nat
  | [] => 0
  | d :: r => uptoBulk d + uptoBulkAll r
def uptoBulkEntries {H : Type} : List (Lit × DataW H) → Nat
  | [] => 0
  | x :: r => uptoBulkEntry x + uptoBulkEntries r
def uptoBulkEntry {H : Type} : Lit × DataW H → Nat
  | (.string bytes, d) => bytes.length + uptoBulk d + 1
  | (_, d) => uptoBulk d + 1
 end
def uptoSmall : (H : Type) → List (DataW H) → Bool := fun _ ds => decide (uptoBulkAll ds ≤ 1048576)
def OpenSpec.upto (s : _root_.Go.ChangeSpec) : _root_.Go.OpenSpec := { _root_.Go.OpenSpec.ofChange s with cond := some uptoSmall }

/-- 'latticelaw07.NodeParts', WHERE WHAT IT READS IS OF BULK AT MOST 1048576: true; the input reads as it did. -/
def nodePartsUptoRow : OpenClaim := { program := "ytcocmpblmkdmjaa", sum := "75e0157410763f9ef8c34fc3b6109c48ec349ce7744c7b221474cc5593aaa33a", func := "lattice/latticelaw07.NodeParts", spec := "nodeParts", unfollowed := true, recurses := true, apart := false, narrowed := true }
def NodePartsUptoSaid : Prop := nodePartsUptoRow.holds Try.pinned (OpenSpec.upto nodePartsSpec)

/-- 'latticelaw07.NodeLooks', WHERE WHAT IT READS IS OF BULK AT MOST 1048576: true; the input reads as it did. -/
def nodeLooksUptoRow : OpenClaim := { program := "ytcocmpblmkdmjaa", sum := "75e0157410763f9ef8c34fc3b6109c48ec349ce7744c7b221474cc5593aaa33a", func := "lattice/latticelaw07.NodeLooks", spec := "nodeLooks", unfollowed := true, recurses := true, apart := false, narrowed := true }
def NodeLooksUptoSaid : Prop := nodeLooksUptoRow.holds Try.pinned (OpenSpec.upto nodeLooksSpec)

/-- 'latticelaw07.NodeHalves', WHERE WHAT IT READS IS OF BULK AT MOST 1048576: true; the input reads as it did. -/
def nodeHalvesUptoRow : OpenClaim := { program := "ytcocmpblmkdmjaa", sum := "75e0157410763f9ef8c34fc3b6109c48ec349ce7744c7b221474cc5593aaa33a", func := "lattice/latticelaw07.NodeHalves", spec := "nodeHalves", unfollowed := true, recurses := true, apart := false, narrowed := true }
def NodeHalvesUptoSaid : Prop := nodeHalvesUptoRow.holds Try.pinned (OpenSpec.upto nodeHalvesSpec)

/-- 'latticelaw07.NodePosts', WHERE WHAT IT READS IS OF BULK AT MOST 1048576: true; the input reads as it did. -/
def nodePostsUptoRow : OpenClaim := { program := "ytcocmpblmkdmjaa", sum := "75e0157410763f9ef8c34fc3b6109c48ec349ce7744c7b221474cc5593aaa33a", func := "lattice/latticelaw07.NodePosts", spec := "nodePosts", inPlace := ["slices.overlaps[string]", "slices.overlaps[int]"], unfollowed := true, recurses := true, apart := false, narrowed := true }
def NodePostsUptoSaid : Prop := nodePostsUptoRow.holds Try.pinned (OpenSpec.upto nodePostsSpec)

/-- 'latticelaw07.NodeChanges', WHERE WHAT IT READS IS OF BULK AT MOST 1048576: true; the input reads as it did. -/
def nodeChangesUptoRow : OpenClaim := { program := "ytcocmpblmkdmjaa", sum := "75e0157410763f9ef8c34fc3b6109c48ec349ce7744c7b221474cc5593aaa33a", func := "lattice/latticelaw07.NodeChanges", spec := "nodeChanges", inPlace := ["slices.overlaps[string]"], unfollowed := true, recurses := true, apart := false, narrowed := true }
def NodeChangesUptoSaid : Prop := nodeChangesUptoRow.holds Try.pinned (OpenSpec.upto nodeChangesSpec)

/-- 'latticelaw07.NodeTurns', WHERE WHAT IT READS IS OF BULK AT MOST 1048576: true; the input reads as it did. -/
def nodeTurnsUptoRow : OpenClaim := { program := "ytcocmpblmkdmjaa", sum := "75e0157410763f9ef8c34fc3b6109c48ec349ce7744c7b221474cc5593aaa33a", func := "lattice/latticelaw07.NodeTurns", spec := "nodeTurns", inPlace := ["slices.overlaps[string]"], unfollowed := true, recurses := true, apart := false, narrowed := true }
def NodeTurnsUptoSaid : Prop := nodeTurnsUptoRow.holds Try.pinned (OpenSpec.upto nodeTurnsSpec)

/-- 'latticelaw07.NodeBack', WHERE WHAT IT READS IS OF BULK AT MOST 1048576: true; the input reads as it did. -/
def nodeBackUptoRow : OpenClaim := { program := "ytcocmpblmkdmjaa", sum := "75e0157410763f9ef8c34fc3b6109c48ec349ce7744c7b221474cc5593aaa33a", func := "lattice/latticelaw07.NodeBack", spec := "nodeBack", inPlace := ["slices.overlaps[string]"], unfollowed := true, recurses := true, apart := false, narrowed := true }
def NodeBackUptoSaid : Prop := nodeBackUptoRow.holds Try.pinned (OpenSpec.upto nodeBackSpec)

end Rows
end Go.Proofs.Ytcocmpblmkdmjaa
