-- A part of the text NodePartsW, thinned by a program of this session.
import Derived.Test.YtcocmpblmkdmjaaTNodeBackNodeRest
import Derived.Test.YtcocmpblmkdmjaaTNodeBackNodeSpeak
import Derived.Test.YtcocmpblmkdmjaaTNodeBackPrx4
import Derived.Test.YtcocmpblmkdmjaaTNodeBackPrx8
import Derived.Test.YtcocmpblmkdmjaaTNodeBackPrx0
import Derived.Test.YtcocmpblmkdmjaaTNodeBackPrx6
import Derived.Test.YtcocmpblmkdmjaaTNodeBackPrx11
import Derived.Test.YtcocmpblmkdmjaaTNodeBackPlain
namespace Go.Proofs.Ytcocmpblmkdmjaa.Pr
open Go.RowKit Go.Proofs.YtcocmpblmkdmjaaW.PrintWords Go.Proofs.YtcocmpblmkdmjaaW.PrintLast Go.Proofs.YtcocmpblmkdmjaaW.PrintMore
set_option linter.unusedVariables false
set_option linter.unusedSimpArgs false
instance decT4:DecidableEq (List ByteArray×List ByteArray×List Int×Int):=inferInstance
instance decT8:DecidableEq (Int×Int×Int×ByteArray×List ByteArray×List ByteArray×List Int×Int):=inferInstance
end Go.Proofs.Ytcocmpblmkdmjaa.Pr
