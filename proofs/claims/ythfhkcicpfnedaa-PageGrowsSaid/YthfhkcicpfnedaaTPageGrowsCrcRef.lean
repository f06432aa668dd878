-- A part of the text CrcRef, thinned by a program of this session.
import Derived.Test.YthfhkcicpfnedaaTPageGrowsCrc
import Derived.Test.YthfhkcicpfnedaaTPageGrowsWire
namespace Go.Proofs.Ythfhkcicpfnedaa.Crc
open Go.RowKit Go.Proofs.YthfhkcicpfnedaaW.PrintWords Go.Proofs.YthfhkcicpfnedaaW.PrintLast Go.Proofs.YthfhkcicpfnedaaW.PrintMore Go.Proofs.Ythfhkcicpfnedaa.Wire
open Go.Proofs.Ythfhkcicpfnedaa.Back (AllB numB numB_small)
set_option linter.unusedVariables false
set_option linter.unusedSimpArgs false
theorem le_hor:∀ {xs:List Int},AllB xs→le (Back.hor xs:Int) xs.length=xs
 | [],_=>rfl
 | x::l,h=>by
  have hx:=h x (List.mem_cons_self ..)
  have ih:=le_hor (xs:=l) (fun y hy=>h y (List.mem_cons_of_mem _ hy))
  rw [List.length_cons,le,Back.hor]
  have e1:((Back.hor l*256+x.toNat:Nat):Int) % 256=x:=by omega
  have e2:((Back.hor l*256+x.toNat:Nat):Int) / 256=(Back.hor l:Int):=by omega
  rw [e1,e2,ih]
theorem four_eq {ds:List Int} {s:Nat} (hd:ds.length=4) (hb:AllB ds) (hs:s < 4294967296):numB ds=(s:Int)↔ds=le (s:Int) 4:=by
 have h1:=le_hor hb
 have h2:=numB_small hb (by omega)
 rw [hd] at h1
 constructor
 ·intro h
  rw [← h,h2,h1]
 ·intro h
  have hh:=Back.hor_lt (xs:=ds) hb
  rw [h2]
  have h3:le (Back.hor ds:Int) 4=le (s:Int) 4:=h1.trans h
  simp only [le,List.cons.injEq] at h3
  rw [hd] at hh
  omega
end Go.Proofs.Ythfhkcicpfnedaa.Crc
