/-
  No cell of these rows narrows 'for every input' (looked for: loops, veiled, ifaces, maps, wideKeys, modest, calm, conditions, laid).
  DERIVED. THE GIVEN ROWS OF THIS SEAT. 5 by the template 'for every input the law returns true; each argument reads behind the call as it read before'; 0 by the template 'total and deterministic' (their statements: YtjbddcaamefgaaaTotals.lean).
  GIVEN WITH THE SEED: the statements are not yours to turn. If you find one false, say at which input.
  Laid BY PROGRAM, IN A SANDBOX (cutbox-rows.mjs): the forced cells as the released guide's own fill.sh prints them over the translation a0ec7edd0cc0516e… (all of the seat's roots in one cut). By AI agents, Wed Nov 11 2026. No macro, syntax, notation, axiom, sorry.
-/
import Derived.Test.YtjbddcaamefgaaaChecked
import GoSem.Claim
import GoSem.ClaimJoined
import GoSem.ClaimMapViews
import Derived.JoinedTies
import Derived.KernelRfl
namespace Go.Proofs.Ytjbddcaamefgaaa
/- THE CELL 'sum', in the pinned program and in every row, IS THE sha256 OF THE DUMP (.gsa) THAT YtjbddcaamefgaaaProg.lean LOADS. Nothing in Lean hashes anything: it is a label: what it is worth is what the hold of that sum in a sandbox is worth. -/
noncomputable def Try.pinned : Pinned := { name := "ytjbddcaamefgaaa", sum := "a0ec7edd0cc0516e801d05ba41619d1fc637b89ba9dff8b3879a58e5f86df2e1", checked := Try.checked }
namespace Rows
def none {H : Type} : Left H := { results := [], args := [] }

/-- 'latticelaw22.VoteSteps': WHATEVER THE INPUT: true; the input reads as it did. -/
def voteStepsSpec : ChangeSpec := { name := "voteSteps", fn := fun _ => fun
  | [d1, d2] => { results := [.lit (.bool true)], args := [d1, d2] }
  | _ => none }
def voteStepsRow : OpenClaim := { program := "ytjbddcaamefgaaa", sum := "a0ec7edd0cc0516e801d05ba41619d1fc637b89ba9dff8b3879a58e5f86df2e1", func := "lattice/latticelaw22.VoteSteps", spec := "voteSteps", apart := false }
def VoteStepsSaid : Prop := voteStepsRow.holds Try.pinned (OpenSpec.ofChange voteStepsSpec)

/-- ITS FALSE NEIGHBOUR: 'it returns false'. Refute it at one input. -/
def voteStepsWrong : ChangeSpec := { name := "voteSteps", fn := fun _ => fun
  | [d1, d2] => { results := [.lit (.bool false)], args := [d1, d2] }
  | _ => none }
def VoteStepsWrongFalsely : Prop := voteStepsRow.holds Try.pinned (OpenSpec.ofChange voteStepsWrong)

/-- 'latticelaw22.VoteWinner': WHATEVER THE INPUT: true; the input reads as it did. -/
def voteWinnerSpec : ChangeSpec := { name := "voteWinner", fn := fun _ => fun
  | [d1, d2, d3] => { results := [.lit (.bool true)], args := [d1, d2, d3] }
  | _ => none }
def voteWinnerRow : OpenClaim := { program := "ytjbddcaamefgaaa", sum := "a0ec7edd0cc0516e801d05ba41619d1fc637b89ba9dff8b3879a58e5f86df2e1", func := "lattice/latticelaw22.VoteWinner", spec := "voteWinner", apart := false }
def VoteWinnerSaid : Prop := voteWinnerRow.holds Try.pinned (OpenSpec.ofChange voteWinnerSpec)

/-- ITS FALSE NEIGHBOUR: 'it returns false'. Refute it at one input. -/
def voteWinnerWrong : ChangeSpec := { name := "voteWinner", fn := fun _ => fun
  | [d1, d2, d3] => { results := [.lit (.bool false)], args := [d1, d2, d3] }
  | _ => none }
def VoteWinnerWrongFalsely : Prop := voteWinnerRow.holds Try.pinned (OpenSpec.ofChange voteWinnerWrong)

/-- 'latticelaw22.VoteNil': WHATEVER THE INPUT: true; the input reads as it did. -/
def voteNilSpec : ChangeSpec := { name := "voteNil", fn := fun _ => fun
  | [d1, d2] => { results := [.lit (.bool true)], args := [d1, d2] }
  | _ => none }
def voteNilRow : OpenClaim := { program := "ytjbddcaamefgaaa", sum := "a0ec7edd0cc0516e801d05ba41619d1fc637b89ba9dff8b3879a58e5f86df2e1", func := "lattice/latticelaw22.VoteNil", spec := "voteNil", apart := false }
def VoteNilSaid : Prop := voteNilRow.holds Try.pinned (OpenSpec.ofChange voteNilSpec)

/-- ITS FALSE NEIGHBOUR: 'it returns false'. Refute it at one input. -/
def voteNilWrong : ChangeSpec := { name := "voteNil", fn := fun _ => fun
  | [d1, d2] => { results := [.lit (.bool false)], args := [d1, d2] }
  | _ => none }
def VoteNilWrongFalsely : Prop := voteNilRow.holds Try.pinned (OpenSpec.ofChange voteNilWrong)

/-- 'latticelaw22.VoteCodes': WHATEVER THE INPUT: true; the input reads as it did. -/
def voteCodesSpec : ChangeSpec := { name := "voteCodes", fn := fun _ => fun
  | [d1, d2, d3] => { results := [.lit (.bool true)], args := [d1, d2, d3] }
  | _ => none }
def voteCodesRow : OpenClaim := { program := "ytjbddcaamefgaaa", sum := "a0ec7edd0cc0516e801d05ba41619d1fc637b89ba9dff8b3879a58e5f86df2e1", func := "lattice/latticelaw22.VoteCodes", spec := "voteCodes", unfollowed := true, recurses := true, apart := false }
def VoteCodesSaid : Prop := voteCodesRow.holds Try.pinned (OpenSpec.ofChange voteCodesSpec)

/-- ITS FALSE NEIGHBOUR: 'it returns false'. Refute it at one input. -/
def voteCodesWrong : ChangeSpec := { name := "voteCodes", fn := fun _ => fun
  | [d1, d2, d3] => { results := [.lit (.bool false)], args := [d1, d2, d3] }
  | _ => none }
def VoteCodesWrongFalsely : Prop := voteCodesRow.holds Try.pinned (OpenSpec.ofChange voteCodesWrong)

/-- 'latticelaw22.VoteOnce': WHATEVER THE INPUT: true; the input reads as it did. -/
def voteOnceSpec : ChangeSpec := { name := "voteOnce", fn := fun _ => fun
  | [d] => { results := [.lit (.bool true)], args := [d] }
  | _ => none }
def voteOnceRow : OpenClaim := { program := "ytjbddcaamefgaaa", sum := "a0ec7edd0cc0516e801d05ba41619d1fc637b89ba9dff8b3879a58e5f86df2e1", func := "lattice/latticelaw22.VoteOnce", spec := "voteOnce", unfollowed := true, recurses := true, apart := false }
def VoteOnceSaid : Prop := voteOnceRow.holds Try.pinned (OpenSpec.ofChange voteOnceSpec)

/-- ITS FALSE NEIGHBOUR: 'it returns false'. Refute it at one input. -/
def voteOnceWrong : ChangeSpec := { name := "voteOnce", fn := fun _ => fun
  | [d] => { results := [.lit (.bool false)], args := [d] }
  | _ => none }
def VoteOnceWrongFalsely : Prop := voteOnceRow.holds Try.pinned (OpenSpec.ofChange voteOnceWrong)

/- THE SECOND FORM. 'bulk': how many values and letters a reading holds, each counted each time it is reached (what is shared counts as often as it is met; a slice's spare places count too). A statement '..UptoSaid' is the law's where the arguments, and the package variables that the reading takes, are together of bulk at most 1048576: NARROWER than '..Said'. Prove '..Said' where nothing that the law and all that it calls make is longer than what came in: it says more and counts as full. Else prove '..UptoSaid'. A law counts once. -/
mutual
def uptoBulk {H : Type} : DataW H → Nat
  | .lit (.string bytes) => bytes.length + 1
  | .lit _ => 1
  | .nil => 1
  | .ptr d => uptoBulk d + 1
  | .slice elems spare => uptoBulkAll elems + uptoBulkAll spare + 1
  | .agg parts => uptoBulkAll parts + 1
  | .iface _ d => uptoBulk d + 1
  | .map entries => uptoBulkEntries entries + 1
  | .held _ => 1
def uptoBulkAll {H : Type} : List (DataW H) → Nat
  | [] => 0
  | d :: r => uptoBulk d + uptoBulkAll r
def uptoBulkEntries {H : Type} : List (Lit × DataW H) → Nat
  | [] => 0
  | x :: r => uptoBulkEntry x + uptoBulkEntries r
def uptoBulkEntry {H : Type} : Lit × DataW H → Nat
  | (.string bytes, d) => bytes.length + uptoBulk d + 1
  | (_, d) => uptoBulk d + 1
 end
def uptoSmall : (H : Type) → List (DataW H) → Bool := fun _ ds => decide (uptoBulkAll ds ≤ 1048576)
def OpenSpec.upto (s : _root_.Go.ChangeSpec) : _root_.Go.OpenSpec := { _root_.Go.OpenSpec.ofChange s with cond := some uptoSmall }

/-- 'latticelaw22.VoteSteps', WHERE WHAT IT READS IS OF BULK AT MOST 1048576: true; the input reads as it did. -/
def voteStepsUptoRow : OpenClaim := { program := "ytjbddcaamefgaaa", sum := "a0ec7edd0cc0516e801d05ba41619d1fc637b89ba9dff8b3879a58e5f86df2e1", func := "lattice/latticelaw22.VoteSteps", spec := "voteSteps", apart := false, narrowed := true }
def VoteStepsUptoSaid : Prop := voteStepsUptoRow.holds Try.pinned (OpenSpec.upto voteStepsSpec)

/-- 'latticelaw22.VoteWinner', WHERE WHAT IT READS IS OF BULK AT MOST 1048576: true; the input reads as it did. -/
def voteWinnerUptoRow : OpenClaim := { program := "ytjbddcaamefgaaa", sum := "a0ec7edd0cc0516e801d05ba41619d1fc637b89ba9dff8b3879a58e5f86df2e1", func := "lattice/latticelaw22.VoteWinner", spec := "voteWinner", apart := false, narrowed := true }
def VoteWinnerUptoSaid : Prop := voteWinnerUptoRow.holds Try.pinned (OpenSpec.upto voteWinnerSpec)

/-- 'latticelaw22.VoteNil', WHERE WHAT IT READS IS OF BULK AT MOST 1048576: true; the input reads as it did. -/
def voteNilUptoRow : OpenClaim := { program := "ytjbddcaamefgaaa", sum := "a0ec7edd0cc0516e801d05ba41619d1fc637b89ba9dff8b3879a58e5f86df2e1", func := "lattice/latticelaw22.VoteNil", spec := "voteNil", apart := false, narrowed := true }
def VoteNilUptoSaid : Prop := voteNilUptoRow.holds Try.pinned (OpenSpec.upto voteNilSpec)

/-- 'latticelaw22.VoteCodes', WHERE WHAT IT READS IS OF BULK AT MOST 1048576: true; the input reads as it did. -/
def voteCodesUptoRow : OpenClaim := { program := "ytjbddcaamefgaaa", sum := "a0ec7edd0cc0516e801d05ba41619d1fc637b89ba9dff8b3879a58e5f86df2e1", func := "lattice/latticelaw22.VoteCodes", spec := "voteCodes", unfollowed := true, recurses := true, apart := false, narrowed := true }
def VoteCodesUptoSaid : Prop := voteCodesUptoRow.holds Try.pinned (OpenSpec.upto voteCodesSpec)

/-- 'latticelaw22.VoteOnce', WHERE WHAT IT READS IS OF BULK AT MOST 1048576: true; the input reads as it did. -/
def voteOnceUptoRow : OpenClaim := { program := "ytjbddcaamefgaaa", sum := "a0ec7edd0cc0516e801d05ba41619d1fc637b89ba9dff8b3879a58e5f86df2e1", func := "lattice/latticelaw22.VoteOnce", spec := "voteOnce", unfollowed := true, recurses := true, apart := false, narrowed := true }
def VoteOnceUptoSaid : Prop := voteOnceUptoRow.holds Try.pinned (OpenSpec.upto voteOnceSpec)

end Rows
end Go.Proofs.Ytjbddcaamefgaaa
