-- A part of the text PagePure, thinned by a program of this session.
import Derived.Test.YthfhkcicpfnedaaTPageChecksPageRt
import Derived.Test.YthfhkcicpfnedaaTPageChecksPrx0
import Derived.Test.YthfhkcicpfnedaaTPageChecksPrx4
import Derived.Test.YthfhkcicpfnedaaTPageChecksWire
import Derived.Test.YthfhkcicpfnedaaTPageChecksCrcRef
import Derived.Test.YthfhkcicpfnedaaTPageChecksPrx5
namespace Go.Proofs.Ythfhkcicpfnedaa.Page
open Go.RowKit Go.Proofs.YthfhkcicpfnedaaW.PrintWords Go.Proofs.YthfhkcicpfnedaaW.PrintLast Go.Proofs.YthfhkcicpfnedaaW.PrintMore Go.Proofs.Ythfhkcicpfnedaa.Wire Go.Proofs.Ythfhkcicpfnedaa.Crc Go.Proofs.Ythfhkcicpfnedaa.Pr
open Go.Proofs.Ythfhkcicpfnedaa.Back (AllB)
open Go.Proofs.Ythfhkcicpfnedaa.Pure
set_option linter.unusedVariables false
set_option linter.unusedSimpArgs false
theorem refcheck_ev (lv lsn rt:Int) (high:ByteArray) (keys vals:List ByteArray) (kids:List Int) (hl:keys.length*16≤140737488351232) (hv:vals.length*16≤140737488351232) (hk:kids.length*8≤140737488351232) (hg:∀ y ∈ keys,y.size≤140737488351232) :
  Ev (fun k=>latticeref06_Check.f k lv lsn rt high keys vals kids) (if nodeB lv lsn rt high keys vals kids=true then 0 else 60):=by
 unfold latticeref06_Check.f
 refine Ev.bind (right_ev lv lsn rt high keys vals kids hl hv hk hg) ?_
 by_cases c:nodeB lv lsn rt high keys vals kids=true
 ·simp only [if_pos c];exact Ev.now _
 ·simp only [if_neg c];exact Ev.now _
end Go.Proofs.Ythfhkcicpfnedaa.Page
