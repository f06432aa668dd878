/- What the laws upon records (layers 10 and 20) stand on. -/
import Derived.Test.YtgjibcfkjaedfaaTHRecK
import Derived.Test.YtgjibcfkjaedfaaTHRecEncs
import Derived.Test.YtgjibcfkjaedfaaTHRecRight
import Derived.Test.YtgjibcfkjaedfaaTHPrxS
namespace Go.Proofs.Ytgjibcfkjaedfaa.Rec
theorem recHub_here:True:=trivial
end Go.Proofs.Ytgjibcfkjaedfaa.Rec
