-- A part of the text Prx11, thinned by a program of this session.
import Derived.Test.YtcocmpblmkdmjaaTNodeBackPrx0
import Derived.Test.YtcocmpblmkdmjaaTNodeBackPrx10
namespace Go.Proofs.Ytcocmpblmkdmjaa.Pr
open Go.RowKit Go.Proofs.YtcocmpblmkdmjaaW.PrintWords Go.Proofs.YtcocmpblmkdmjaaW.PrintLast Go.Proofs.YtcocmpblmkdmjaaW.PrintMore
attribute [local go_sem] max2_int min2_int max_two min_two max_three min_three max_four min_four
set_option linter.unusedVariables false
set_option linter.unusedSimpArgs false
def latticeref07_bare.f (a0_0:Int) (a0_1:Int) (a0_2:Int) (a0_3:ByteArray) (l0_4:List ByteArray) (l0_5:List ByteArray) (l0_6:List Int):Option (Int×Int×Int×ByteArray×List ByteArray×List ByteArray×List Int):=some (a0_0,a0_1,a0_2,a0_3,([]:List ByteArray),([]:List ByteArray),([]:List Int))
end Go.Proofs.Ytcocmpblmkdmjaa.Pr
