-- A part of the text NodePartsW, thinned by a program of this session.
import Derived.Test.YtcocmpblmkdmjaaTNodeTurnsNodeRest
import Derived.Test.YtcocmpblmkdmjaaTNodeTurnsNodeSpeak
import Derived.Test.YtcocmpblmkdmjaaTNodeTurnsPrx4
import Derived.Test.YtcocmpblmkdmjaaTNodeTurnsPrx8
import Derived.Test.YtcocmpblmkdmjaaTNodeTurnsPrx0
import Derived.Test.YtcocmpblmkdmjaaTNodeTurnsPrx6
import Derived.Test.YtcocmpblmkdmjaaTNodeTurnsPrx11
import Derived.Test.YtcocmpblmkdmjaaTNodeTurnsPlain
namespace Go.Proofs.Ytcocmpblmkdmjaa.Pr
open Go.RowKit Go.Proofs.YtcocmpblmkdmjaaW.PrintWords Go.Proofs.YtcocmpblmkdmjaaW.PrintLast Go.Proofs.YtcocmpblmkdmjaaW.PrintMore
set_option linter.unusedVariables false
set_option linter.unusedSimpArgs false
instance decT4:DecidableEq (List ByteArray×List ByteArray×List Int×Int):=inferInstance
instance decT8:DecidableEq (Int×Int×Int×ByteArray×List ByteArray×List ByteArray×List Int×Int):=inferInstance
end Go.Proofs.Ytcocmpblmkdmjaa.Pr
