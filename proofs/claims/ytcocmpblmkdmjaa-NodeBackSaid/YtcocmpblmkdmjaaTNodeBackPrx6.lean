-- A part of the text Prx6, thinned by a program of this session.
import Derived.Test.YtcocmpblmkdmjaaTNodeBackPrx0
import Derived.Test.YtcocmpblmkdmjaaTNodeBackPrx4
import Derived.Test.YtcocmpblmkdmjaaTNodeBackPrx5
namespace Go.Proofs.Ytcocmpblmkdmjaa.Pr
open Go.RowKit Go.Proofs.YtcocmpblmkdmjaaW.PrintWords Go.Proofs.YtcocmpblmkdmjaaW.PrintLast Go.Proofs.YtcocmpblmkdmjaaW.PrintMore
attribute [local go_sem] max2_int min2_int max_two min_two max_three min_three max_four min_four
set_option linter.unusedVariables false
set_option linter.unusedSimpArgs false
mutual
def latticeref06_Right.j0:Nat→Bool→Int→Int→Int→ByteArray→List ByteArray→List ByteArray→List Int→Option (Bool)
 | 0,_,_,_,_,_,_,_,_=>none
 | k+1,x47,x140000,x140001,x140002,x140003,x140004,x140005,x140006=>if x47=true then (some false) else (latticeref06_Right.l0 k x140004 (x140004.length:Int) 0 x140000 x140001 x140002 x140003 x140004 x140005 x140006)
def latticeref06_Right.l0:Nat→List ByteArray→Int→Int→Int→Int→Int→ByteArray→List ByteArray→List ByteArray→List Int→Option (Bool)
 | 0,_,_,_,_,_,_,_,_,_,_=>none
 | k+1,x49,x50,x51,x140000,x140001,x140002,x140003,x140004,x140005,x140006=>if x51 < x50 then (if 0≤x51 then (if x51 < (x49.length:Int) then ((latticeref05_Check.f (rdOf ByteArray.empty x49 x51)).bind fun t142=>(if t142=0 then (if x140003.toList=([]:List UInt8) then (latticeref06_Right.j2 k x51 (rdOf ByteArray.empty x49 x51) x49 x50 x51 false x140000 x140001 x140002 x140003 x140004 x140005 x140006) else ((latticeref05_Compare.f k (rdOf ByteArray.empty x49 x51) x140003).bind fun t143=>(latticeref06_Right.j2 k x51 (rdOf ByteArray.empty x49 x51) x49 x50 x51 (decide (t143≥0)) x140000 x140001 x140002 x140003 x140004 x140005 x140006))) else (latticeref06_Right.j2 k x51 (rdOf ByteArray.empty x49 x51) x49 x50 x51 true x140000 x140001 x140002 x140003 x140004 x140005 x140006))) else (none)) else (none)) else (if x140000=0 then (if (x140005.length:Int)=(x140004.length:Int) then (latticeref06_Right.j3 k (decide ((x140006.length:Int) > 0)) x140000 x140001 x140002 x140003 x140004 x140005 x140006) else (latticeref06_Right.j3 k true x140000 x140001 x140002 x140003 x140004 x140005 x140006)) else (if (x140006.length:Int)=(wrap64 ((x140004.length:Int)+1)) then (latticeref06_Right.j5 k (decide ((x140005.length:Int) > 0)) x140000 x140001 x140002 x140003 x140004 x140005 x140006) else (latticeref06_Right.j5 k true x140000 x140001 x140002 x140003 x140004 x140005 x140006)))
def latticeref06_Right.j2:Nat→Int→ByteArray→List ByteArray→Int→Int→Bool→Int→Int→Int→ByteArray→List ByteArray→List ByteArray→List Int→Option (Bool)
 | 0,_,_,_,_,_,_,_,_,_,_,_,_,_=>none
 | k+1,x3,x4,x49,x50,x51,x70,x140000,x140001,x140002,x140003,x140004,x140005,x140006=>if x70=true then (some false) else (if x3 > 0 then (if 0≤(wrap64 (x3 - 1)) then (if (wrap64 (x3 - 1)) < (x140004.length:Int) then ((latticeref05_Compare.f k (rdOf ByteArray.empty x140004 (wrap64 (x3 - 1))) x4).bind fun t145=>(if t145≥0 then (some false) else (latticeref06_Right.l0 k x49 x50 (wrap64 (x51+1)) x140000 x140001 x140002 x140003 x140004 x140005 x140006))) else (none)) else (none)) else (latticeref06_Right.l0 k x49 x50 (wrap64 (x51+1)) x140000 x140001 x140002 x140003 x140004 x140005 x140006))
def latticeref06_Right.j3:Nat→Bool→Int→Int→Int→ByteArray→List ByteArray→List ByteArray→List Int→Option (Bool)
 | 0,_,_,_,_,_,_,_,_=>none
 | k+1,x100,x140000,x140001,x140002,x140003,x140004,x140005,x140006=>if x100=true then (some false) else (latticeref06_Right.l1 k x140005 (x140005.length:Int) 0 x140000 x140001 x140002 x140003 x140004 x140005 x140006)
def latticeref06_Right.l1:Nat→List ByteArray→Int→Int→Int→Int→Int→ByteArray→List ByteArray→List ByteArray→List Int→Option (Bool)
 | 0,_,_,_,_,_,_,_,_,_,_=>none
 | k+1,x102,x103,x104,x140000,x140001,x140002,x140003,x140004,x140005,x140006=>if x104 < x103 then (if 0≤x104 then (if x104 < (x102.length:Int) then ((latticeref05_Value.f (rdOf ByteArray.empty x102 x104)).bind fun t147=>(if t147=0 then (latticeref06_Right.l1 k x102 x103 (wrap64 (x104+1)) x140000 x140001 x140002 x140003 x140004 x140005 x140006) else (some false))) else (none)) else (none)) else ((latticeref06_Size.f k x140000 x140001 x140002 x140003 x140004 x140005 x140006).bind fun t148=>(some (decide (t148≤256))))
def latticeref06_Right.j5:Nat→Bool→Int→Int→Int→ByteArray→List ByteArray→List ByteArray→List Int→Option (Bool)
 | 0,_,_,_,_,_,_,_,_=>none
 | k+1,x125,x140000,x140001,x140002,x140003,x140004,x140005,x140006=>if x125=true then (some false) else (latticeref06_Right.l2 k x140006 (x140006.length:Int) 0 x140000 x140001 x140002 x140003 x140004 x140005 x140006)
def latticeref06_Right.l2:Nat→List Int→Int→Int→Int→Int→Int→ByteArray→List ByteArray→List ByteArray→List Int→Option (Bool)
 | 0,_,_,_,_,_,_,_,_,_,_=>none
 | k+1,x127,x128,x129,x140000,x140001,x140002,x140003,x140004,x140005,x140006=>if x129 < x128 then (if 0≤x129 then (if x129 < (x127.length:Int) then (if (rd x127 x129) < 1 then (some false) else (if (rd x127 x129) > 4096 then (some false) else (latticeref06_Right.l2 k x127 x128 (wrap64 (x129+1)) x140000 x140001 x140002 x140003 x140004 x140005 x140006))) else (none)) else (none)) else ((latticeref06_Size.f k x140000 x140001 x140002 x140003 x140004 x140005 x140006).bind fun t150=>(some (decide (t150≤256))))
end
def latticeref06_Right.f (k:Nat) (a0_0:Int) (a0_1:Int) (a0_2:Int) (a0_3:ByteArray) (l0_4:List ByteArray) (l0_5:List ByteArray) (l0_6:List Int):Option (Bool):=if a0_0 < 0 then (latticeref06_Right.j0 k true a0_0 a0_1 a0_2 a0_3 l0_4 l0_5 l0_6) else (if a0_0 > 20 then (latticeref06_Right.j0 k true a0_0 a0_1 a0_2 a0_3 l0_4 l0_5 l0_6) else (if a0_1 < 0 then (latticeref06_Right.j0 k true a0_0 a0_1 a0_2 a0_3 l0_4 l0_5 l0_6) else (if a0_1 > 1099511627776 then (latticeref06_Right.j0 k true a0_0 a0_1 a0_2 a0_3 l0_4 l0_5 l0_6) else (if a0_2 < 0 then (latticeref06_Right.j0 k true a0_0 a0_1 a0_2 a0_3 l0_4 l0_5 l0_6) else (if a0_2 > 4096 then (latticeref06_Right.j0 k true a0_0 a0_1 a0_2 a0_3 l0_4 l0_5 l0_6) else (if a0_3.toList=([]:List UInt8) then (latticeref06_Right.j0 k false a0_0 a0_1 a0_2 a0_3 l0_4 l0_5 l0_6) else ((latticeref05_Check.f a0_3).bind fun t140=>(latticeref06_Right.j0 k (t140 != 0) a0_0 a0_1 a0_2 a0_3 l0_4 l0_5 l0_6))))))))
end Go.Proofs.Ytcocmpblmkdmjaa.Pr
