-- A part of the text Prx28, thinned by a program of this session.
import Derived.Test.YtcocmpblmkdmjaaTNodeBackPrx0
import Derived.Test.YtcocmpblmkdmjaaTNodeBackPrx10
import Derived.Test.YtcocmpblmkdmjaaTNodeBackPrx11
namespace Go.Proofs.Ytcocmpblmkdmjaa.Pr
open Go.RowKit Go.Proofs.YtcocmpblmkdmjaaW.PrintWords Go.Proofs.YtcocmpblmkdmjaaW.PrintLast Go.Proofs.YtcocmpblmkdmjaaW.PrintMore
attribute [local go_sem] max2_int min2_int max_two min_two max_three min_three max_four min_four
set_option linter.unusedVariables false
set_option linter.unusedSimpArgs false
def latticeref07_Del.l0:Nat→ByteArray→List ByteArray→Int→Int→Int→Int→Int→ByteArray→List ByteArray→List ByteArray→List Int→Int→Int→Int→ByteArray→List ByteArray→List ByteArray→List Int→Option (Int×Int×Int×ByteArray×List ByteArray×List ByteArray×List Int×Int)
 | 0,_,_,_,_,_,_,_,_,_,_,_,_,_,_,_,_,_,_=>none
 | k+1,x1,x20,x21,x22,x518000,x518001,x518002,x518003,x518004,x518005,x518006,x534000,x534001,x534002,x534003,x534004,x534005,x534006=>if x22 < x21 then (if 0≤x22 then (if x22 < (x20.length:Int) then (if (rdOf ByteArray.empty x20 x22).toList=x1.toList then (latticeref07_Del.l0 k x1 x20 x21 (wrap64 (x22+1)) x518000 x518001 x518002 x518003 x518004 x518005 x518006 x534000 x534001 x534002 x534003 x534004 x534005 x534006) else (if x534004.length < 8796093022208 then (if x22 < (x518005.length:Int) then (if x534005.length < 8796093022208 then (latticeref07_Del.l0 k x1 x20 x21 (wrap64 (x22+1)) x518000 x518001 x518002 x518003 x518004 x518005 x518006 x534000 x534001 x534002 x534003 (x534004++[rdOf ByteArray.empty x20 x22]) (x534005++[rdOf ByteArray.empty x518005 x22]) x534006) else (none)) else (none)) else (none))) else (none)) else (none)) else (some (x534000,x534001,x534002,x534003,x534004,x534005,x534006,0))
def latticeref07_Del.f (k:Nat) (a0_0:Int) (a0_1:Int) (a0_2:Int) (a0_3:ByteArray) (l0_4:List ByteArray) (l0_5:List ByteArray) (l0_6:List Int) (a1:ByteArray):Option (Int×Int×Int×ByteArray×List ByteArray×List ByteArray×List Int×Int):=(latticeref07_asked.f k a0_0 a0_1 a0_2 a0_3 l0_4 l0_5 l0_6 a1 (⟨#[]⟩:ByteArray) 1 0).bind fun t519=>(if t519=0 then ((latticeref07_bare.f a0_0 a0_1 a0_2 a0_3 l0_4 l0_5 l0_6).bind fun bt520=>(latticeref07_Del.l0 k a1 l0_4 (l0_4.length:Int) 0 a0_0 a0_1 a0_2 a0_3 l0_4 l0_5 l0_6 bt520.1 bt520.2.1 bt520.2.2.1 bt520.2.2.2.1 bt520.2.2.2.2.1 bt520.2.2.2.2.2.1 bt520.2.2.2.2.2.2)) else (some (0,0,0,(⟨#[]⟩:ByteArray),([]:List ByteArray),([]:List ByteArray),([]:List Int),t519)))
end Go.Proofs.Ytcocmpblmkdmjaa.Pr
