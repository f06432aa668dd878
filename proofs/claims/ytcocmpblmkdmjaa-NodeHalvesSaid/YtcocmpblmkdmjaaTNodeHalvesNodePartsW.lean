-- A part of the text NodePartsW, thinned by a program of this session.
import Derived.Test.YtcocmpblmkdmjaaTNodeHalvesNodeRestI
import Derived.Test.YtcocmpblmkdmjaaTNodeHalvesNodeSpeak
import Derived.Test.YtcocmpblmkdmjaaTNodeHalvesPrx4
import Derived.Test.YtcocmpblmkdmjaaTNodeHalvesPrx8
import Derived.Test.YtcocmpblmkdmjaaTNodeHalvesPrx0
import Derived.Test.YtcocmpblmkdmjaaTNodeHalvesPrx6
import Derived.Test.YtcocmpblmkdmjaaTNodeHalvesPrx10
import Derived.Test.YtcocmpblmkdmjaaTNodeHalvesNodeLeft
namespace Go.Proofs.Ytcocmpblmkdmjaa.Pr
open Go.RowKit Go.Proofs.YtcocmpblmkdmjaaW.PrintWords Go.Proofs.YtcocmpblmkdmjaaW.PrintLast Go.Proofs.YtcocmpblmkdmjaaW.PrintMore
set_option linter.unusedVariables false
set_option linter.unusedSimpArgs false
instance decT4:DecidableEq (List ByteArray×List ByteArray×List Int×Int):=inferInstance
instance decT8:DecidableEq (Int×Int×Int×ByteArray×List ByteArray×List ByteArray×List Int×Int):=inferInstance
end Go.Proofs.Ytcocmpblmkdmjaa.Pr
