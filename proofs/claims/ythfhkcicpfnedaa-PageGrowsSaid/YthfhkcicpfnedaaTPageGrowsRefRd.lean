-- A part of the text RefRd, thinned by a program of this session.
import Derived.Test.YthfhkcicpfnedaaTPageGrowsRead
namespace Go.Proofs.Ythfhkcicpfnedaa.Wire
open Go.RowKit Go.Proofs.YthfhkcicpfnedaaW.PrintWords Go.Proofs.YthfhkcicpfnedaaW.PrintLast Go.Proofs.YthfhkcicpfnedaaW.PrintMore
open Go.Proofs.Ythfhkcicpfnedaa.Back (numB numB_small numB_eight AllB hor hor_lt hor_last hor_at hor_drop_le pow_le7)
set_option linter.unusedVariables false
set_option linter.unusedSimpArgs false
abbrev RfAt:=RdT 64
end Go.Proofs.Ythfhkcicpfnedaa.Wire
