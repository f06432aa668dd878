-- A part of the text Prx5, thinned by a program of this session.
import Derived.Test.YtcocmpblmkdmjaaTNodeBackPrx0
namespace Go.Proofs.Ytcocmpblmkdmjaa.Pr
open Go.RowKit Go.Proofs.YtcocmpblmkdmjaaW.PrintWords Go.Proofs.YtcocmpblmkdmjaaW.PrintLast Go.Proofs.YtcocmpblmkdmjaaW.PrintMore
attribute [local go_sem] max2_int min2_int max_two min_two max_three min_three max_four min_four
set_option linter.unusedVariables false
set_option linter.unusedSimpArgs false
mutual
def latticeref06_Size.l0:Nat→Int→List ByteArray→Int→Int→Int→Int→Int→ByteArray→List ByteArray→List ByteArray→List Int→Option (Int)
 | 0,_,_,_,_,_,_,_,_,_,_,_=>none
 | k+1,x3,x13,x14,x15,x137000,x137001,x137002,x137003,x137004,x137005,x137006=>if x15 < x14 then (if 0≤x15 then (if x15 < (x13.length:Int) then (latticeref06_Size.l0 k (wrap64 ((wrap64 (x3+2))+((rdOf ByteArray.empty x13 x15).size:Int))) x13 x14 (wrap64 (x15+1)) x137000 x137001 x137002 x137003 x137004 x137005 x137006) else (none)) else (none)) else (if x137000=0 then (latticeref06_Size.l1 k x3 x137005 (x137005.length:Int) 0) else (some (wrap64 (x3+(wrap64 (4*(x137006.length:Int)))))))
def latticeref06_Size.l1:Nat→Int→List ByteArray→Int→Int→Option (Int)
 | 0,_,_,_,_=>none
 | k+1,x3,x29,x30,x31=>if x31 < x30 then (if 0≤x31 then (if x31 < (x29.length:Int) then (latticeref06_Size.l1 k (wrap64 ((wrap64 (x3+2))+((rdOf ByteArray.empty x29 x31).size:Int))) x29 x30 (wrap64 (x31+1))) else (none)) else (none)) else (some x3)
end
def latticeref06_Size.f (k:Nat) (a0_0:Int) (a0_1:Int) (a0_2:Int) (a0_3:ByteArray) (l0_4:List ByteArray) (l0_5:List ByteArray) (l0_6:List Int):Option (Int):=latticeref06_Size.l0 k (wrap64 (21+(a0_3.size:Int))) l0_4 (l0_4.length:Int) 0 a0_0 a0_1 a0_2 a0_3 l0_4 l0_5 l0_6
end Go.Proofs.Ytcocmpblmkdmjaa.Pr
