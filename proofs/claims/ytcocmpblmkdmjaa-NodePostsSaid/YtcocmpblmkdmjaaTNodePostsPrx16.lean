-- A part of the text Prx16, thinned by a program of this session.
import Derived.Test.YtcocmpblmkdmjaaTNodePostsPrx0
import Derived.Test.YtcocmpblmkdmjaaTNodePostsNodeSpeak
namespace Go.Proofs.Ytcocmpblmkdmjaa.Pr
open Go.RowKit Go.Proofs.YtcocmpblmkdmjaaW.PrintWords Go.Proofs.YtcocmpblmkdmjaaW.PrintLast Go.Proofs.YtcocmpblmkdmjaaW.PrintMore
attribute [local go_sem] max2_int min2_int max_two min_two max_three min_three max_four min_four
set_option linter.unusedVariables false
set_option linter.unusedSimpArgs false
def latticelaw07_speaks.f:Option Bool:=some true
theorem latticelaw07_speaks.calls (r:Bool) (w:World) (h:latticelaw07_speaks.f=some r) :
  Calls Try.prog 17 #[] w fun e w'=>e=.returned (.bool r)∧Below w.heap.size w w':=by
 unfold latticelaw07_speaks.f at h
 injection h with h
 subst h
 exact speaks7_ok w
end Go.Proofs.Ytcocmpblmkdmjaa.Pr
