/- How large a law's arguments are, and what is known of them. Written by a program of this session over the kit's printer. -/
import Derived.Test.YtbpnigldojpapaaPrx0
namespace Go.Proofs.Ytbpnigldojpapaa.Pr
open Go.RowKit
set_option linter.unusedVariables false
def good25 (y : S25) : Prop := (Lit.int .i64 y.f0).wf = true ∧ (Lit.int .i64 y.f1).wf = true
def bulk25 (y : S25) : Nat := (1 + 1) + 1
def good34 (y : S34) : Prop := (Lit.int .i64 y.f0).wf = true ∧ (Lit.int .i64 y.f1).wf = true ∧ (Lit.int .i64 y.f2).wf = true
def bulk34 (y : S34) : Nat := (1 + (1 + 1)) + 1
end Go.Proofs.Ytbpnigldojpapaa.Pr
