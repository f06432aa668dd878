-- A part of the text THRecEncs, thinned by a program of this session.
import Derived.Test.YtgjibcfkjaedfaaTSTHRecLaw
import Derived.Test.YtgjibcfkjaedfaaTSTHPagePure
import Derived.Test.YtgjibcfkjaedfaaTSTHPrx0
import Derived.Test.YtgjibcfkjaedfaaTSTHRefW
import Derived.Test.YtgjibcfkjaedfaaTSTHCrcR
import Derived.Test.YtgjibcfkjaedfaaTSTHRecRight
import Derived.Test.YtgjibcfkjaedfaaTSTHPrxS
namespace Go.Proofs.Ytgjibcfkjaedfaa.Rec
open Go.RowKit Go.Proofs.YtgjibcfkjaedfaaW.PrintWords Go.Proofs.YtgjibcfkjaedfaaW.PrintLast Go.Proofs.YtgjibcfkjaedfaaW.PrintMore Go.Proofs.Ytgjibcfkjaedfaa.Wire Go.Proofs.Ytgjibcfkjaedfaa.Crc Go.Proofs.Ytgjibcfkjaedfaa.Pr Go.Proofs.Ytgjibcfkjaedfaa.Page
open Go.Proofs.Ytgjibcfkjaedfaa.Back (AllB)
open Go.Proofs.Ytgjibcfkjaedfaa.Pure
set_option linter.unusedVariables false
set_option linter.unusedSimpArgs false
theorem C_of_R {w:World} {b:Nat} {Q:Nat→Prop} {A:Option Addr} {c:Nat} {xs:List Int} (h:Kd.R (Kd.int .u8) 5 w b Q (.slice A xs.length c) xs):Kd.C (Kd.int .u8) w A xs.length xs∧xs.length≤c:=by
 obtain ⟨A',c',e,h1,h2⟩:=Kd.R_reads h
 injection e with e1 e2 e3
 subst e1 e3
 exact ⟨h2,h1⟩
end Go.Proofs.Ytgjibcfkjaedfaa.Rec
