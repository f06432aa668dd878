-- A part of the text CrcTurn, thinned by a program of this session.
import Derived.Test.YtgjibcfkjaedfaaTHCrcR
import Derived.Lib.SlBytesConst
import Derived.StillTailTactics
namespace Go.Proofs.Ytgjibcfkjaedfaa.Crc
open Go.RowKit Go.Proofs.YtgjibcfkjaedfaaW.PrintWords Go.Proofs.YtgjibcfkjaedfaaW.PrintLast Go.Proofs.YtgjibcfkjaedfaaW.PrintMore Go.Proofs.Ytgjibcfkjaedfaa.Wire
open Go.Proofs.Ytgjibcfkjaedfaa.Back (AllB numB numB_small)
set_option linter.unusedVariables false
set_option linter.unusedSimpArgs false
def turnB (xs:List Int) (k:Nat):List Int:=xs.set (k / 8) (((xs.getD (k / 8) 0).toNat ^^^ 2 ^ (k % 8):Nat):Int)
theorem turnB_length (xs:List Int) (k:Nat):(turnB xs k).length=xs.length:=List.length_set
theorem R_form {w:World} {base e:Nat} {ok:Nat→Prop} {v:Value} {xs:List Int} (h:Kd.R (Kd.int .u8) e w base ok v xs) (hp:0 < xs.length):∃ g cap,v=.slice (some ⟨g,0,none⟩) xs.length cap∧xs.length≤cap∧base≤g:=by
 obtain ⟨A,c,hv,hc,hC⟩:=Kd.R_reads h
 obtain ⟨inner,ho⟩:=Kd.R_own h
 rcases ho.2 with ⟨_,h0⟩|⟨g,cap,cur,hv2,hg,_⟩
 ·omega
 ·rw [hv] at hv2
  injection hv2 with h1 h2 h3
  subst h1
  exact ⟨g,c,hv,hc,hg⟩
end Go.Proofs.Ytgjibcfkjaedfaa.Crc
