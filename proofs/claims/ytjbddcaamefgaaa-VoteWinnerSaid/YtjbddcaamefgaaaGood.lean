/- How large a law's arguments are, and what is known of them. Written by a program of this session over the kit's printer. -/
import Derived.Test.YtjbddcaamefgaaaPrx0
namespace Go.Proofs.Ytjbddcaamefgaaa.Pr
open Go.RowKit
set_option linter.unusedVariables false
def good23 (y : S23) : Prop := (Lit.int .i64 y.f0).wf = true ∧ (Lit.int .i64 y.f1).wf = true
def bulk23 (y : S23) : Nat := (1 + 1) + 1
def good36 (y : S36) : Prop := (Lit.int .i64 y.f0).wf = true ∧ (Lit.int .i64 y.f1).wf = true
def bulk36 (y : S36) : Nat := (1 + 1) + 1
def good38 (y : S38) : Prop := (Lit.int .i64 y.f0).wf = true ∧ (Lit.int .i64 y.f1).wf = true ∧ (Lit.int .i64 y.f2).wf = true ∧ good36 y.f3 ∧ good36 y.f4
def bulk38 (y : S38) : Nat := (1 + (1 + (1 + (bulk36 y.f3 + bulk36 y.f4)))) + 1
def good55 (y : S55) : Prop := (Lit.int .i64 y.f0).wf = true ∧ (Lit.int .i64 y.f1).wf = true ∧ (Lit.int .i64 y.f2).wf = true
def bulk55 (y : S55) : Nat := (1 + (1 + 1)) + 1
end Go.Proofs.Ytjbddcaamefgaaa.Pr
