-- Parts melded by a program of this session.
import Derived.Test.YtgjibcfkjaedfaaTSWalS
namespace Go.Proofs.Ytgjibcfkjaedfaa.Wal
open Go.RowKit Go.Proofs.YtgjibcfkjaedfaaW.PrintWords Go.Proofs.YtgjibcfkjaedfaaW.PrintLast Go.Proofs.YtgjibcfkjaedfaaW.PrintMore Go.Proofs.Ytgjibcfkjaedfaa.Wire Go.Proofs.Ytgjibcfkjaedfaa.Pr Go.Proofs.Ytgjibcfkjaedfaa.Rec
set_option linter.unusedVariables false
set_option linter.unusedSimpArgs false
def SnAt (T:Nat) (w:World) (g:Nat) (nx mt:Int):Prop:=w.heap[g]?=some (.cells #[.int .i64 nx,.int .i64 mt] T (0,0))
section
variable {T:Nat} {w w1:World} {g:Nat} {nx mt:Int} {S:Nat→Prop}
theorem SnAt.cells (h:SnAt T w g nx mt):w.cell? ⟨g,0,none⟩=some (.int .i64 nx)∧w.cell? ⟨g,1,none⟩=some (.int .i64 mt)∧w.frozen? ⟨g,0,none⟩=false∧w.frozen? ⟨g,1,none⟩=false:=by
 unfold SnAt at h
 simp [World.cell?,World.frozen?,h]
theorem SnAt.chg (h:SnAt T w g nx mt) (hc:Chg w w1 S) (hn:¬ S g):SnAt T w1 g nx mt:=hc.blk h hn
theorem SnAt.below (h:SnAt T w g nx mt) (hB:Below w.heap.size w w1):SnAt T w1 g nx mt:=h.chg (Chg.of_below hB (fun _=>False)) (fun h=>h)
theorem SnAt.put0 (h:SnAt T w g nx mt) (x:Int):SnAt T (w.setCell ⟨g,0,none⟩ (.int .i64 x)) g x mt:=blk_set h 0 _
theorem SnAt.put1 (h:SnAt T w g nx mt) (x:Int):SnAt T (w.setCell ⟨g,1,none⟩ (.int .i64 x)) g nx x:=blk_set h 1 _
end
structure SnOk (nx mt:Int):Prop where
 low:0≤mt
 lt:mt < nx
 hi:nx≤1099511627776
def ackS (nx mt lsn:Int):Int×Int×Bool:=if lsn≤mt∨1099511627776≤lsn then (nx,mt,false) else (lsn+1,lsn,true)
def refS (nx mt last:Int):Int×Int×Bool:=if nx≤mt+1 then (nx,mt,false) else if mt < last∧last < nx - 1 then (last+1,mt,true) else (mt+1,mt,true)
theorem SnOk.ack {nx mt:Int} (h:SnOk nx mt) (lsn:Int):SnOk (ackS nx mt lsn).1 (ackS nx mt lsn).2.1:=by
 have:=h.low;have:=h.lt;have:=h.hi
 unfold ackS
 split
 ·exact h
 ·exact ⟨by show 0≤lsn;omega,by show lsn < lsn+1;omega,by show lsn+1≤1099511627776;omega⟩
theorem SnOk.ref {nx mt:Int} (h:SnOk nx mt) (last:Int):SnOk (refS nx mt last).1 (refS nx mt last).2.1:=by
 have:=h.low;have:=h.lt;have:=h.hi
 unfold refS
 split
 ·exact h
 ·split
  ·exact ⟨by omega,by show mt < last+1;omega,by show last+1≤1099511627776;omega⟩
  ·exact ⟨by omega,by show mt < mt+1;omega,by show mt+1≤1099511627776;omega⟩
theorem snew_ok (nx:Int) (h1:1≤nx) (h2:nx≤1099511627776) (w:World) :
  Calls Try.prog 22 #[.int .i64 nx] w fun e w'=>e=.returned (.tuple #[.pointer (some ⟨w.heap.size,0,none⟩),.int .i64 0])∧SnAt 101 w' w.heap.size nx 0∧Below w.heap.size w w':=by
 have HN:=Aside0.mk (show SnAt 101 (w.alloc (.cells #[.int .i64 nx,.int .i64 0] 101)) w.heap.size nx 0 from blk_newN _ _)
 have d1:decide (nx < 1)=false:=decide_eq_false (by omega)
 have d2:decide (nx > 1099511627776)=false:=decide_eq_false (by omega)
 have e1:¬ nx < 1:=by omega
 have e2:¬ 1099511627776 < nx:=by omega
 go_enter Try.func22,Try.ntmps22
 go_wp2
 go_ret2
 exact ⟨rfl,HN.out,below_alloc (Below.refl _ _) _⟩
theorem snew_no (nx:Int) (h:nx < 1∨1099511627776 < nx) (w:World) :
  Calls Try.prog 22 #[.int .i64 nx] w fun e w'=>e=.returned (.tuple #[.pointer none,.int .i64 1])∧Below w.heap.size w w':=by
 rcases h with e1|e2
 ·have d1:decide (nx < 1)=true:=decide_eq_true e1
  go_enter Try.func22,Try.ntmps22
  go_wp2
  go_ret2
  exact ⟨rfl,Below.refl _ _⟩
 ·have d1:decide (nx < 1)=false:=decide_eq_false (by omega)
  have d2:decide (nx > 1099511627776)=true:=decide_eq_true e2
  have e1:¬ nx < 1:=by omega
  go_enter Try.func22,Try.ntmps22
  go_wp2
  go_ret2
  exact ⟨rfl,Below.refl _ _⟩
theorem sack_ok {w:World} {g:Nat} {nx mt:Int} (h:SnAt 101 w g nx mt) (hs:SnOk nx mt) (lsn:Int) :
  Calls Try.prog 25 #[.pointer (some ⟨g,0,none⟩),.int .i64 lsn] w fun e w'=>e=.returned (.bool (ackS nx mt lsn).2.2)∧SnAt 101 w' g (ackS nx mt lsn).1 (ackS nx mt lsn).2.1∧Chg w w' (fun k=>k=g):=by
 have HS:=Aside0.mk h
 have hlo:=hs.low
 have hlt:=hs.lt
 have hhi:=hs.hi
 obtain ⟨h0,h1,f0,f1⟩:=h.cells
 clear h hs
 unfold ackS
 by_cases e1:lsn≤mt
 ·rw [if_pos (.inl e1)]
  have d1:decide (lsn≤mt)=true:=decide_eq_true e1
  go_enter Try.func25,Try.ntmps25
  go_wp2
  go_ret
  exact ⟨rfl,HS.out,Chg.refl _ _⟩
 ·have d1:decide (lsn≤mt)=false:=decide_eq_false e1
  by_cases e2:1099511627776≤lsn
  ·rw [if_pos (.inr e2)]
   have d2:decide (lsn≥1099511627776)=true:=decide_eq_true (by omega)
   go_enter Try.func25,Try.ntmps25
   go_wp2
   go_ret
   exact ⟨rfl,HS.out,Chg.refl _ _⟩
  ·rw [if_neg (by omega)]
   have d2:decide (lsn≥1099511627776)=false:=decide_eq_false (by omega)
   have hw:IntKind.i64.wrap (lsn+1)=lsn+1:=by rw [IntKind.wrap_i64];omega
   go_enter Try.func25,Try.ntmps25
   go_wp2
   go_ret
   exact ⟨rfl,(HS.out.put1 _).put0 _,(Chg.setCell _ ⟨g,1,none⟩ _).trans (Chg.setCell _ ⟨g,0,none⟩ _) (fun k hk=>.inl hk)⟩
theorem srefu_ok {w:World} {g:Nat} {nx mt:Int} (h:SnAt 101 w g nx mt) (hs:SnOk nx mt) (last:Int) :
  Calls Try.prog 27 #[.pointer (some ⟨g,0,none⟩),.int .i64 last] w fun e w'=>e=.returned (.bool (refS nx mt last).2.2)∧SnAt 101 w' g (refS nx mt last).1 (refS nx mt last).2.1∧Chg w w' (fun k=>k=g):=by
 have HS:=Aside0.mk h
 have hlo:=hs.low
 have hlt:=hs.lt
 have hhi:=hs.hi
 obtain ⟨h0,h1,f0,f1⟩:=h.cells
 clear h hs
 unfold refS
 have hw1:IntKind.i64.wrap (mt+1)=mt+1:=by rw [IntKind.wrap_i64];omega
 have hw2:IntKind.i64.wrap (nx - 1)=nx - 1:=by rw [IntKind.wrap_i64];omega
 by_cases e1:nx≤mt+1
 ·rw [if_pos e1]
  have d1:decide (nx≤mt+1)=true:=decide_eq_true e1
  go_enter Try.func27,Try.ntmps27
  go_wp2
  repeat (go_quiet (fail);try go_wp2)
  go_ret
  exact ⟨rfl,HS.out.below (Drawn0.below (by repeat (first|exact Drawn0.refl _|apply Drawn0.step))),Chg.of_below (Drawn0.below (by repeat (first|exact Drawn0.refl _|apply Drawn0.step))) _⟩
 ·rw [if_neg e1]
  have d1:decide (nx≤mt+1)=false:=decide_eq_false e1
  by_cases e2:mt < last
  ·have d2:decide (last≥mt+1)=true:=decide_eq_true (by omega)
   have e2':last≥mt+1:=by omega
   by_cases e3:last < nx - 1
   ·rw [if_pos ⟨e2,e3⟩]
    have d3:decide (last < nx - 1)=true:=decide_eq_true e3
    have hw3:IntKind.i64.wrap (last+1)=last+1:=by rw [IntKind.wrap_i64];omega
    go_enter Try.func27,Try.ntmps27
    go_wp2
    repeat (go_quiet (fail);try go_wp2)
    go_ret
    exact ⟨rfl,(HS.out.below (Drawn0.below (by repeat (first|exact Drawn0.refl _|apply Drawn0.step)))).put0 _,(Chg.of_below (Drawn0.below (by repeat (first|exact Drawn0.refl _|apply Drawn0.step))) _).trans (Chg.setCell _ ⟨g,0,none⟩ _) (fun k hk=>.inl hk)⟩
   ·rw [if_neg (fun h=>e3 h.2)]
    have d3:decide (last < nx - 1)=false:=decide_eq_false e3
    go_enter Try.func27,Try.ntmps27
    go_wp2
    repeat (go_quiet (fail);try go_wp2)
    go_ret
    exact ⟨rfl,(HS.out.below (Drawn0.below (by repeat (first|exact Drawn0.refl _|apply Drawn0.step)))).put0 _,(Chg.of_below (Drawn0.below (by repeat (first|exact Drawn0.refl _|apply Drawn0.step))) _).trans (Chg.setCell _ ⟨g,0,none⟩ _) (fun k hk=>.inl hk)⟩
  ·rw [if_neg (fun h=>e2 h.1)]
   have d2:decide (last≥mt+1)=false:=decide_eq_false (by omega)
   have e2':¬ last≥mt+1:=by omega
   go_enter Try.func27,Try.ntmps27
   go_wp2
   repeat (go_quiet (fail);try go_wp2)
   go_ret
   exact ⟨rfl,(HS.out.below (Drawn0.below (by repeat (first|exact Drawn0.refl _|apply Drawn0.step)))).put0 _,(Chg.of_below (Drawn0.below (by repeat (first|exact Drawn0.refl _|apply Drawn0.step))) _).trans (Chg.setCell _ ⟨g,0,none⟩ _) (fun k hk=>.inl hk)⟩
theorem sat_ok {w:World} {g:Nat} {nx mt:Int} (h:SnAt 101 w g nx mt) :
  Calls Try.prog 30 #[.pointer (some ⟨g,0,none⟩)] w fun e w'=>e=.returned (.tuple #[.int .i64 nx,.int .i64 mt])∧Below w.heap.size w w':=by
 obtain ⟨h0,h1,f0,f1⟩:=h.cells
 clear h
 go_enter Try.func30,Try.ntmps30
 go_wp2
 repeat (go_quiet (fail);try go_wp2)
 go_ret2
 exact ⟨rfl,(Drawn0.below (by repeat (first|exact Drawn0.refl _|apply Drawn0.step)))⟩
theorem sat_nil (x:Int) (w:World):Calls Try.prog 30 #[.pointer none] w fun e w'=>e=.returned (.tuple #[.int .i64 0,.int .i64 0])∧Below w.heap.size w w':=by
 go_enter Try.func30,Try.ntmps30
 go_wp2
 repeat (go_quiet (fail);try go_wp2)
 go_ret2
 exact ⟨rfl,(Drawn0.below (by repeat (first|exact Drawn0.refl _|apply Drawn0.step)))⟩
theorem sack_nil (x:Int) (w:World):Calls Try.prog 25 #[.pointer none,.int .i64 x] w fun e w'=>e=.returned (.bool false)∧Below w.heap.size w w':=by
 go_enter Try.func25,Try.ntmps25
 go_wp2
 repeat (go_quiet (fail);try go_wp2)
 go_ret
 exact ⟨rfl,(Drawn0.below (by repeat (first|exact Drawn0.refl _|apply Drawn0.step)))⟩
theorem srefu_nil (x:Int) (w:World):Calls Try.prog 27 #[.pointer none,.int .i64 x] w fun e w'=>e=.returned (.bool false)∧Below w.heap.size w w':=by
 go_enter Try.func27,Try.ntmps27
 go_wp2
 repeat (go_quiet (fail);try go_wp2)
 go_ret
 exact ⟨rfl,(Drawn0.below (by repeat (first|exact Drawn0.refl _|apply Drawn0.step)))⟩
theorem tnew_ok (nx:Int) (h1:1≤nx) (h2:nx≤1099511627776) (w:World) :
  Calls Try.prog 24 #[.int .i64 nx] w fun e w'=>e=.returned (.tuple #[.pointer (some ⟨w.heap.size,0,none⟩),.int .i64 0])∧SnAt 63 w' w.heap.size nx 0∧Below w.heap.size w w':=by
 have HN:=Aside0.mk (show SnAt 63 (w.alloc (.cells #[.int .i64 nx,.int .i64 0] 63)) w.heap.size nx 0 from blk_newN _ _)
 have d1:decide (nx < 1)=false:=decide_eq_false (by omega)
 have d2:decide (nx > 1099511627776)=false:=decide_eq_false (by omega)
 have e1:¬ nx < 1:=by omega
 have e2:¬ 1099511627776 < nx:=by omega
 go_enter Try.func24,Try.ntmps24
 go_wp2
 go_ret2
 exact ⟨rfl,HN.out,below_alloc (Below.refl _ _) _⟩
theorem tnew_no (nx:Int) (h:nx < 1∨1099511627776 < nx) (w:World) :
  Calls Try.prog 24 #[.int .i64 nx] w fun e w'=>e=.returned (.tuple #[.pointer none,.int .i64 1])∧Below w.heap.size w w':=by
 rcases h with e1|e2
 ·have d1:decide (nx < 1)=true:=decide_eq_true e1
  go_enter Try.func24,Try.ntmps24
  go_wp2
  go_ret2
  exact ⟨rfl,Below.refl _ _⟩
 ·have d1:decide (nx < 1)=false:=decide_eq_false (by omega)
  have d2:decide (nx > 1099511627776)=true:=decide_eq_true e2
  have e1:¬ nx < 1:=by omega
  go_enter Try.func24,Try.ntmps24
  go_wp2
  go_ret2
  exact ⟨rfl,Below.refl _ _⟩
theorem tack_ok {w:World} {g:Nat} {nx mt:Int} (h:SnAt 63 w g nx mt) (hs:SnOk nx mt) (lsn:Int) :
  Calls Try.prog 26 #[.pointer (some ⟨g,0,none⟩),.int .i64 lsn] w fun e w'=>e=.returned (.bool (ackS nx mt lsn).2.2)∧SnAt 63 w' g (ackS nx mt lsn).1 (ackS nx mt lsn).2.1∧Chg w w' (fun k=>k=g):=by
 have HS:=Aside0.mk h
 have hlo:=hs.low
 have hlt:=hs.lt
 have hhi:=hs.hi
 obtain ⟨h0,h1,f0,f1⟩:=h.cells
 clear h hs
 unfold ackS
 by_cases e1:lsn≤mt
 ·rw [if_pos (.inl e1)]
  have d1:decide (lsn≤mt)=true:=decide_eq_true e1
  go_enter Try.func26,Try.ntmps26
  go_wp2
  go_ret
  exact ⟨rfl,HS.out,Chg.refl _ _⟩
 ·have d1:decide (lsn≤mt)=false:=decide_eq_false e1
  by_cases e2:1099511627776≤lsn
  ·rw [if_pos (.inr e2)]
   have d2:decide (lsn > 1099511627775)=true:=decide_eq_true (by omega)
   go_enter Try.func26,Try.ntmps26
   go_wp2
   go_ret
   exact ⟨rfl,HS.out,Chg.refl _ _⟩
  ·rw [if_neg (by omega)]
   have d2:decide (lsn > 1099511627775)=false:=decide_eq_false (by omega)
   have hw:IntKind.i64.wrap (lsn+1)=lsn+1:=by rw [IntKind.wrap_i64];omega
   go_enter Try.func26,Try.ntmps26
   go_wp2
   go_ret
   exact ⟨rfl,(HS.out.put1 _).put0 _,(Chg.setCell _ ⟨g,1,none⟩ _).trans (Chg.setCell _ ⟨g,0,none⟩ _) (fun k hk=>.inl hk)⟩
theorem trefu_ok {w:World} {g:Nat} {nx mt:Int} (h:SnAt 63 w g nx mt) (hs:SnOk nx mt) (last:Int) :
  Calls Try.prog 28 #[.pointer (some ⟨g,0,none⟩),.int .i64 last] w fun e w'=>e=.returned (.bool (refS nx mt last).2.2)∧SnAt 63 w' g (refS nx mt last).1 (refS nx mt last).2.1∧Chg w w' (fun k=>k=g):=by
 have HS:=Aside0.mk h
 have hlo:=hs.low
 have hlt:=hs.lt
 have hhi:=hs.hi
 obtain ⟨h0,h1,f0,f1⟩:=h.cells
 clear h hs
 unfold refS
 have hw1:IntKind.i64.wrap (mt+1)=mt+1:=by rw [IntKind.wrap_i64];omega
 have hw2:IntKind.i64.wrap (nx - 1)=nx - 1:=by rw [IntKind.wrap_i64];omega
 by_cases e1:nx≤mt+1
 ·rw [if_pos e1]
  have d1:decide (nx≤mt+1)=true:=decide_eq_true e1
  go_enter Try.func28,Try.ntmps28
  go_wp2
  repeat (go_quiet (fail);try go_wp2)
  go_ret
  exact ⟨rfl,HS.out.below (Drawn0.below (by repeat (first|exact Drawn0.refl _|apply Drawn0.step))),Chg.of_below (Drawn0.below (by repeat (first|exact Drawn0.refl _|apply Drawn0.step))) _⟩
 ·rw [if_neg e1]
  have d1:decide (nx≤mt+1)=false:=decide_eq_false e1
  by_cases e2:mt < last
  ·have d2:decide (last > mt)=true:=decide_eq_true (by omega)
   have e2':last > mt:=by omega
   by_cases e3:last < nx - 1
   ·rw [if_pos ⟨e2,e3⟩]
    have d3:decide (last < nx - 1)=true:=decide_eq_true e3
    have hw3:IntKind.i64.wrap (last+1)=last+1:=by rw [IntKind.wrap_i64];omega
    go_enter Try.func28,Try.ntmps28
    go_wp2
    repeat (go_quiet (fail);try go_wp2)
    go_ret
    exact ⟨rfl,(HS.out.below (Drawn0.below (by repeat (first|exact Drawn0.refl _|apply Drawn0.step)))).put0 _,(Chg.of_below (Drawn0.below (by repeat (first|exact Drawn0.refl _|apply Drawn0.step))) _).trans (Chg.setCell _ ⟨g,0,none⟩ _) (fun k hk=>.inl hk)⟩
   ·rw [if_neg (fun h=>e3 h.2)]
    have d3:decide (last < nx - 1)=false:=decide_eq_false e3
    go_enter Try.func28,Try.ntmps28
    go_wp2
    repeat (go_quiet (fail);try go_wp2)
    go_ret
    exact ⟨rfl,(HS.out.below (Drawn0.below (by repeat (first|exact Drawn0.refl _|apply Drawn0.step)))).put0 _,(Chg.of_below (Drawn0.below (by repeat (first|exact Drawn0.refl _|apply Drawn0.step))) _).trans (Chg.setCell _ ⟨g,0,none⟩ _) (fun k hk=>.inl hk)⟩
  ·rw [if_neg (fun h=>e2 h.1)]
   have d2:decide (last > mt)=false:=decide_eq_false (by omega)
   have e2':¬ last > mt:=by omega
   go_enter Try.func28,Try.ntmps28
   go_wp2
   repeat (go_quiet (fail);try go_wp2)
   go_ret
   exact ⟨rfl,(HS.out.below (Drawn0.below (by repeat (first|exact Drawn0.refl _|apply Drawn0.step)))).put0 _,(Chg.of_below (Drawn0.below (by repeat (first|exact Drawn0.refl _|apply Drawn0.step))) _).trans (Chg.setCell _ ⟨g,0,none⟩ _) (fun k hk=>.inl hk)⟩
end Go.Proofs.Ytgjibcfkjaedfaa.Wal


-- A part of the text ShipSend, thinned by a program of this session.
namespace Go.Proofs.Ytgjibcfkjaedfaa.Wal
open Go.RowKit Go.Proofs.YtgjibcfkjaedfaaW.PrintWords Go.Proofs.YtgjibcfkjaedfaaW.PrintLast Go.Proofs.YtgjibcfkjaedfaaW.PrintMore Go.Proofs.Ytgjibcfkjaedfaa.Wire Go.Proofs.Ytgjibcfkjaedfaa.Pr Go.Proofs.Ytgjibcfkjaedfaa.Rec
set_option linter.unusedVariables false
set_option linter.unusedSimpArgs false
def markF (l:List RecS) (n:Int):Int×Int:=if 1≤n∧n≤(l.length:Int) then ((rd_T53 l (n - 1)).f1,(rd_T53 l (n - 1)).f0) else (0,0)
theorem rec_far2 {w1:World} {b c0 n c:Nat} {A:Option Addr} {xs:List RecS} {ok:Nat→Prop} (h:Kd.R kRec 53 w1 c0 ok (.slice A n c) xs) (hb:b < c0) (x y:Value):n≤c∧Kd.C kRec ((w1.setCell ⟨b,0,none⟩ x).setCell ⟨b,1,none⟩ y) A xs.length xs:=by
 have h1:=Kd.R_mono (Kd.R_bound h) (ok':=fun k=>c0≤k) (fun k hk=>hk.2.1)
 have h2:=Kd.R_far (Kd.R_far h1 (p:=⟨b,0,none⟩) (fun k hk e=>by have e:k=b:=e;omega) x) (p:=⟨b,1,none⟩) (fun k hk e=>by have e:k=b:=e;omega) y
 exact (Kd.R_reads' h2).2
theorem rec_far3 {w1:World} {b c0 n c:Nat} {A:Option Addr} {xs:List RecS} {ok:Nat→Prop} (h:Kd.R kRec 53 w1 c0 ok (.slice A n c) xs) (hb:b < c0) (x y:Value):∃ B,b≤B∧Kd.R kRec 53 ((w1.setCell ⟨b,0,none⟩ x).setCell ⟨b,1,none⟩ y) B (fun k=>B≤k) (.slice A n c) xs:=by
 have h1:=Kd.R_mono (Kd.R_bound h) (ok':=fun k=>c0≤k) (fun k hk=>hk.2.1)
 exact ⟨c0,Nat.le_of_lt hb,Kd.R_far (Kd.R_far h1 (p:=⟨b,0,none⟩) (fun k hk e=>by have e:k=b:=e;omega) x) (p:=⟨b,1,none⟩) (fun k hk e=>by have e:k=b:=e;omega) y⟩
structure Sd (W:World) (ok:Nat→Prop) (g gl b r:Nat) (nx mt:Int) (l:List RecS) (fl a0 a1 a2 a3 a4 a5:Int) (a6 a7:ByteArray):Prop where
 sn:SnAt 101 W g nx mt
 mr:SnAt 24 W b 0 0
 rc:RcAt W r a0 a1 a2 a3 a4 a5 a6 a7
 lg:LogAt 98 W ok gl l fl
section
variable {W W1:World} {ok:Nat→Prop} {g gl b r:Nat} {nx mt fl a0 a1 a2 a3 a4 a5:Int} {l:List RecS} {a6 a7:ByteArray}
theorem Sd.below (h:Sd W ok g gl b r nx mt l fl a0 a1 a2 a3 a4 a5 a6 a7) (hB:Below W.heap.size W W1):Sd W1 ok g gl b r nx mt l fl a0 a1 a2 a3 a4 a5 a6 a7:=⟨h.sn.below hB,h.mr.below hB,h.rc.below hB,h.lg.below hB⟩
theorem Sd.cells (h:Sd W ok g gl b r nx mt l fl a0 a1 a2 a3 a4 a5 a6 a7):(W.cell? ⟨r,0,none⟩=some (.int .i64 a0)∧W.cell? ⟨r,1,none⟩=some (.int .i64 a1))∧W.cell? ⟨g,0,none⟩=some (.int .i64 nx):=by
 obtain ⟨⟨x0,x1,_⟩,_⟩:=h.rc.cells
 exact ⟨⟨x0,x1⟩,h.sn.cells.1⟩
theorem Sd.cells2 (h:Sd W ok g gl b r nx mt l fl a0 a1 a2 a3 a4 a5 a6 a7) (x y:Value):(((W.setCell ⟨b,0,none⟩ x).setCell ⟨b,1,none⟩ y).cell? ⟨r,0,none⟩=some (.int .i64 a0)∧((W.setCell ⟨b,0,none⟩ x).setCell ⟨b,1,none⟩ y).cell? ⟨r,1,none⟩=some (.int .i64 a1))∧((W.setCell ⟨b,0,none⟩ x).setCell ⟨b,1,none⟩ y).cell? ⟨g,0,none⟩=some (.int .i64 nx):=by
 have CH:=(Chg.setCell W ⟨b,0,none⟩ x).trans (Chg.setCell _ ⟨b,1,none⟩ y) (fun k hk=>.inl hk)
 have h2:W.heap[b]?=some _:=h.mr
 have h3:W.heap[r]?=some _:=h.rc
 have e1:g≠b:=by
  rintro rfl
  have h1:W.heap[g]?=some _:=h.sn
  rw [h1] at h2
  cases h2
 have e2:r≠b:=by
  rintro rfl
  rw [h3] at h2
  cases h2
 have hs:=h.sn.chg CH e1
 have hr:RcAt _ r a0 a1 a2 a3 a4 a5 a6 a7:=CH.blk h.rc e2
 obtain ⟨⟨x0,x1,_⟩,_⟩:=hr.cells
 exact ⟨⟨x0,x1⟩,hs.cells.1⟩
end
theorem SnAt.lt {T:Nat} {w:World} {g:Nat} {nx mt:Int} (h:SnAt T w g nx mt):g < w.heap.size:=blk_lt h
set_option maxHeartbeats 8000000 in
set_option maxRecDepth 100000 in
theorem ssend_far {w:World} {g gl:Nat} {nx mt fl most:Int} {l:List RecS} {ok:Nat→Prop} (h:SnAt 101 w g nx mt) (hs:SnOk nx mt) (hL:LogAt 98 w ok gl l fl) (hl:l.length≤65536) :
  Calls Try.prog 23 #[.pointer (some ⟨g,0,none⟩),.pointer (some ⟨gl,0,none⟩),.int .i64 most] w fun e w'=>∃ A c,e=.returned (.tuple #[.agg #[.int .i64 (markF l (nx - 1)).1,.int .i64 (markF l (nx - 1)).2],.slice A (fromF l nx most).length c])∧(fromF l nx most).length≤c∧Kd.C kRec w' A (fromF l nx most).length (fromF l nx most)∧Below w.heap.size w w'∧∃ B,w.heap.size≤B∧Kd.R kRec 53 w' B (fun k=>B≤k) (.slice A (fromF l nx most).length c) (fromF l nx most):=by
 have HN:=Aside0.mk (show SnAt 24 (w.alloc (.cells #[.int .i64 0,.int .i64 0] 24)) w.heap.size 0 0 from blk_newN _ _)
 have HB:=Aside0.mk (below_alloc (Below.refl w.heap.size w) (.cells #[.int .i64 0,.int .i64 0] 24))
 have HS:=Aside0.mk (h.below HB.out)
 have HL:=Aside0.mk (hL.below HB.out)
 have hlo:=hs.low
 have hlt:=hs.lt
 have hhi:=hs.hi
 have hg:=get_ok HL.out (by omega) (nx - 1)
 obtain ⟨h0,h1,f0,f1⟩:=HS.out.cells
 have hw:IntKind.i64.wrap (nx - 1)=nx - 1:=by rw [IntKind.wrap_i64];omega
 have HLL:=Aside0.mk hl
 clear h hs hL hl
 unfold getF markF at *
 by_cases hin:1≤nx - 1∧nx - 1≤(l.length:Int)
 ·rw [if_pos hin] at hg
  rw [if_pos hin]
  generalize rd_T53 l (nx - 1 - 1)=x at hg
  obtain ⟨a0,a1,a2,a3,a4,a5,a6,a7⟩:=x
  dsimp only at hg ⊢
  clear hin
  go_enter Try.func23,Try.ntmps23
  go_wp2_with (first
   | (go_at_call 47;(with_reducible refine hg.mono ?_);rintro e w2 ⟨rfl,hB⟩;clear h0 h1 f0 f1;(have HBR:=Aside0.mk (below_alloc hB (.cells #[.int .i64 a0,.int .i64 a1,.int .i64 a2,.int .i64 a3,.int .i64 a4,.int .i64 a5,.string a6,.string a7] 53)));(replace HS:=Aside0.mk (HS.out.below HBR.out));(replace HN:=Aside0.mk (HN.out.below HBR.out));(replace HL:=Aside0.mk (HL.out.below HBR.out));(replace HB:=Aside0.mk (below_from2 HB.out (Nat.le_refl _) HBR.out));obtain ⟨h0,h1,f0,f1⟩:=HS.out.cells;(have HNL:=Aside0.mk HN.out.lt);(have HX:Aside0 (Sd (w2.alloc (.cells #[.int .i64 a0,.int .i64 a1,.int .i64 a2,.int .i64 a3,.int .i64 a4,.int .i64 a5,.string a6,.string a7] 53)) ok g gl w.heap.size w2.heap.size nx mt l fl a0 a1 a2 a3 a4 a5 a6 a7):=⟨⟨HS.out,HN.out,rc_new w2 a0 a1 a2 a3 a4 a5 a6 a7,HL.out⟩⟩);clear hB hg HS HN HL))
  obtain ⟨m0,m1,k0,k1⟩:=HX.out.mr.cells
  clear h0 h1 f0 f1
  go_region_held3 (fun W=>(W.cell? ⟨w2.heap.size,0,none⟩=some (.int .i64 a0)∧W.cell? ⟨w2.heap.size,1,none⟩=some (.int .i64 a1))∧W.cell? ⟨g,0,none⟩=some (.int .i64 nx))
   (first|(with_reducible exact HX.out.cells)|(with_reducible exact (HX.out.below (below_drew (Below.refl _ _))).cells)|(with_reducible exact HX.out.cells2 _ _))
   (first
    | (go_at_call 18;(with_reducible refine (from_ok (HX.out.below (below_drew (Below.refl _ _))).lg (by have:=HLL.out;omega) nx most).mono ?_);rintro e w3 ⟨A1,c1,rfl,hR,hB⟩;(replace hB:=below_pastC hB);clear m0 m1 k0 k1;(replace HX:=Aside0.mk (HX.out.below hB));obtain ⟨m0,m1,k0,k1⟩:=HX.out.mr.cells;(replace HB:=Aside0.mk (below_from2 HB.out (Nat.le_refl _) hB));(have HR:=Aside0.mk hR);clear hB hR))
  all_goals
   go_wp2
   refine bodyPost_ret (results_ct rfl _ _ w.heap.size 24 #[.int .i64 a1,.int .i64 a0] (0,0) _ rfl ((HX.out.mr.put0 a1).put1 a0) Try.underlying24 rfl (by kernel_rfl)) rfl ?_
   exact ⟨A1,c1,rfl,(rec_far2 HR.out HNL.out (.int .i64 a1) (.int .i64 a0)).1,(rec_far2 HR.out HNL.out _ _).2,(HB.out.setCell (Nat.le_refl _) _).setCell (Nat.le_refl _) _,rec_far3 HR.out HNL.out _ _⟩
 ·rw [if_neg hin] at hg
  rw [if_neg hin]
  dsimp only [z53] at hg
  clear hin
  go_enter Try.func23,Try.ntmps23
  go_wp2_with (first
   | (go_at_call 47;(with_reducible refine hg.mono ?_);rintro e w2 ⟨rfl,hB⟩;clear h0 h1 f0 f1;(have HBR:=Aside0.mk (below_alloc hB (.cells #[.int .i64 0,.int .i64 0,.int .i64 0,.int .i64 0,.int .i64 0,.int .i64 0,.string ⟨#[]⟩,.string ⟨#[]⟩] 53)));(replace HS:=Aside0.mk (HS.out.below HBR.out));(replace HN:=Aside0.mk (HN.out.below HBR.out));(replace HL:=Aside0.mk (HL.out.below HBR.out));(replace HB:=Aside0.mk (below_from2 HB.out (Nat.le_refl _) HBR.out));obtain ⟨h0,h1,f0,f1⟩:=HS.out.cells;(have HNL:=Aside0.mk HN.out.lt);(have hf:=from_ok HL.out (by have:=HLL.out;omega) nx most);clear hB hg)
   | (go_at_call 18;(with_reducible refine hf.mono ?_);rintro e w3 ⟨A1,c1,rfl,hR,hB⟩;(replace HN:=Aside0.mk (HN.out.below hB));(replace HB:=Aside0.mk (below_from2 HB.out (Nat.le_refl _) hB));obtain ⟨m0,m1,k0,k1⟩:=HN.out.cells;(have HR:=Aside0.mk hR);clear hB hR hf))
  refine bodyPost_ret (results_ct rfl _ _ w.heap.size 24 #[.int .i64 0,.int .i64 0] (0,0) _ rfl ((HN.out.put0 0).put1 0) Try.underlying24 rfl (by kernel_rfl)) rfl ?_
  exact ⟨A1,c1,rfl,(rec_far2 HR.out HNL.out (.int .i64 0) (.int .i64 0)).1,(rec_far2 HR.out HNL.out _ _).2,(HB.out.setCell (Nat.le_refl _) _).setCell (Nat.le_refl _) _,rec_far3 HR.out HNL.out _ _⟩
theorem ssend_ok {w:World} {g gl:Nat} {nx mt fl most:Int} {l:List RecS} {ok:Nat→Prop} (h:SnAt 101 w g nx mt) (hs:SnOk nx mt) (hL:LogAt 98 w ok gl l fl) (hl:l.length≤65536) :
  Calls Try.prog 23 #[.pointer (some ⟨g,0,none⟩),.pointer (some ⟨gl,0,none⟩),.int .i64 most] w fun e w'=>∃ A c,e=.returned (.tuple #[.agg #[.int .i64 (markF l (nx - 1)).1,.int .i64 (markF l (nx - 1)).2],.slice A (fromF l nx most).length c])∧(fromF l nx most).length≤c∧Kd.C kRec w' A (fromF l nx most).length (fromF l nx most)∧Below w.heap.size w w' :=
 (ssend_far h hs hL hl).mono fun _ _ ⟨A,c,h1,h2,h3,h4,_⟩=>⟨A,c,h1,h2,h3,h4⟩
theorem sent_stays {w w1 W:World} {B n c:Nat} {A:Option Addr} {xs:List RecS} {S:Nat→Prop} (h:Kd.R kRec 53 w1 B (fun k=>B≤k) (.slice A n c) xs) (hC:Chg w1 W S) (hS:∀ k,S k→k < w.heap.size) (hB:w.heap.size≤B):Kd.C kRec W A xs.length xs :=
 (Kd.R_reads' (Kd.R_step h (fun k hk hl=>hC.block k hl (fun hs=>by have:=hS k hs;omega)))).2.2
end Go.Proofs.Ytgjibcfkjaedfaa.Wal


-- A part of the text ShipRef, thinned by a program of this session.
namespace Go.Proofs.Ytgjibcfkjaedfaa.Wal
open Go.RowKit Go.Proofs.YtgjibcfkjaedfaaW.PrintWords Go.Proofs.YtgjibcfkjaedfaaW.PrintLast Go.Proofs.YtgjibcfkjaedfaaW.PrintMore Go.Proofs.Ytgjibcfkjaedfaa.Wire Go.Proofs.Ytgjibcfkjaedfaa.Pr Go.Proofs.Ytgjibcfkjaedfaa.Rec
set_option linter.unusedVariables false
set_option linter.unusedSimpArgs false
theorem markF_succ {l:List RecS} (hs:LsnOk l) {k:Nat} (hk:k < l.length) (n:Int):markF (l.take (k+1)) n=if (rd_T53 l (k:Int)).f0=n then ((rd_T53 l (k:Int)).f1,(rd_T53 l (k:Int)).f0) else markF (l.take k) n:=by
 have h0:=hs k hk
 have l1:(l.take (k+1)).length=k+1:=by rw [List.length_take];omega
 have l2:(l.take k).length=k:=by rw [List.length_take];omega
 unfold markF
 rw [l1,l2]
 by_cases he:(rd_T53 l (k:Int)).f0=n
 ·rw [if_pos he,if_pos (by omega),show n - 1=(k:Int) by omega,rd_take (Nat.lt_succ_self k) (by omega)]
 ·rw [if_neg he]
  by_cases hin:1≤n∧n≤(k:Int)
  ·obtain ⟨j,hj⟩:∃ j:Nat,n - 1=(j:Int):=⟨(n - 1).toNat,by omega⟩
   rw [if_pos hin,if_pos (by omega),hj,rd_take (by omega) (by omega),rd_take (by omega) (by omega)]
  ·rw [if_neg hin,if_neg (by omega)]
structure Td (W:World) (ok:Nat→Prop) (g gl b b2:Nat) (nx mt:Int) (l:List RecS) (fl:Int) (m:Int×Int):Prop where
 sn:SnAt 63 W g nx mt
 mr:SnAt 24 W b 0 0
 m2:SnAt 24 W b2 m.1 m.2
 lg:LogAt 37 W ok gl l fl
section
variable {W W1:World} {ok:Nat→Prop} {g gl b b2:Nat} {nx mt fl:Int} {l:List RecS} {m:Int×Int}
theorem Td.below (h:Td W ok g gl b b2 nx mt l fl m) (hB:Below W.heap.size W W1):Td W1 ok g gl b b2 nx mt l fl m:=⟨h.sn.below hB,h.mr.below hB,h.m2.below hB,h.lg.below hB⟩
theorem Td.put (h:Td W ok g gl b b2 nx mt l fl m) (hb:b≠b2) (hno:∀ k,ok k→k≠b2) (x y:Int):Td ((W.setCell ⟨b2,0,none⟩ (.int .i64 x)).setCell ⟨b2,1,none⟩ (.int .i64 y)) ok g gl b b2 nx mt l fl (x,y):=by
 have CH:=(Chg.setCell W ⟨b2,0,none⟩ (.int .i64 x)).trans (Chg.setCell _ ⟨b2,1,none⟩ (.int .i64 y)) (fun k hk=>.inl hk)
 have h2:W.heap[b2]?=some _:=h.m2
 have e1:g≠b2:=by
  rintro rfl
  have h1:W.heap[g]?=some _:=h.sn
  rw [h1] at h2
  cases h2
 exact ⟨h.sn.chg CH e1,h.mr.chg CH hb,(h.m2.put0 x).put1 y,h.lg.chg CH (fun k hk _ e=>hno k hk e)⟩
theorem Td.cells (h:Td W ok g gl b b2 nx mt l fl m):(W.cell? ⟨b2,0,none⟩=some (.int .i64 m.1)∧W.cell? ⟨b2,1,none⟩=some (.int .i64 m.2))∧W.cell? ⟨g,0,none⟩=some (.int .i64 nx):=⟨⟨h.m2.cells.1,h.m2.cells.2.1⟩,h.sn.cells.1⟩
theorem Td.cells2 (h:Td W ok g gl b b2 nx mt l fl m) (hb:b≠b2) (x y:Value):(((W.setCell ⟨b,0,none⟩ x).setCell ⟨b,1,none⟩ y).cell? ⟨b2,0,none⟩=some (.int .i64 m.1)∧((W.setCell ⟨b,0,none⟩ x).setCell ⟨b,1,none⟩ y).cell? ⟨b2,1,none⟩=some (.int .i64 m.2))∧((W.setCell ⟨b,0,none⟩ x).setCell ⟨b,1,none⟩ y).cell? ⟨g,0,none⟩=some (.int .i64 nx):=by
 have CH:=(Chg.setCell W ⟨b,0,none⟩ x).trans (Chg.setCell _ ⟨b,1,none⟩ y) (fun k hk=>.inl hk)
 have h2:W.heap[b]?=some _:=h.mr
 have e1:g≠b:=by
  rintro rfl
  have h1:W.heap[g]?=some _:=h.sn
  rw [h1] at h2
  cases h2
 exact ⟨⟨(h.m2.chg CH hb.symm).cells.1,(h.m2.chg CH hb.symm).cells.2.1⟩,(h.sn.chg CH e1).cells.1⟩
end
def TdIn (w:World) (ok:Nat→Prop) (g gl:Nat) (nx mt:Int) (l:List RecS) (fl:Int) (v17:Value) (wr:World):Prop :=
 ∃ k:Nat,k≤l.length∧v17=.int .i64 k∧Aside0 (Td wr (fun k=>ok k∧k < w.heap.size) g gl w.heap.size (w.heap.size+1) nx mt l fl (markF (l.take k) (nx - 1)))∧Aside0 (Below w.heap.size w wr)
set_option maxHeartbeats 8000000 in
set_option maxRecDepth 100000 in
theorem tsend_ok {w:World} {g gl:Nat} {nx mt fl most:Int} {l:List RecS} {ok:Nat→Prop} (h:SnAt 63 w g nx mt) (hs:SnOk nx mt) (hL:LogAt 37 w ok gl l fl) (hl:l.length≤65536) (hlo:LsnOk l) :
  Calls Try.prog 29 #[.pointer (some ⟨g,0,none⟩),.pointer (some ⟨gl,0,none⟩),.int .i64 most] w fun e w'=>∃ A c,e=.returned (.tuple #[.agg #[.int .i64 (markF l (nx - 1)).1,.int .i64 (markF l (nx - 1)).2],.slice A (fromF l nx most).length c])∧(fromF l nx most).length≤c∧Kd.C kRec w' A (fromF l nx most).length (fromF l nx most)∧Below w.heap.size w w':=by
 have hB:=below_alloc (Below.refl w.heap.size w) (.cells #[.int .i64 0,.int .i64 0] 24)
 have hB2:=below_alloc (Below.refl (w.alloc (.cells #[.int .i64 0,.int .i64 0] 24)).heap.size (w.alloc (.cells #[.int .i64 0,.int .i64 0] 24))) (.cells #[.int .i64 0,.int .i64 0] 24)
 have hN:SnAt 24 (w.alloc (.cells #[.int .i64 0,.int .i64 0] 24)) w.heap.size 0 0:=blk_newN _ _
 have hN2:SnAt 24 ((w.alloc (.cells #[.int .i64 0,.int .i64 0] 24)).alloc (.cells #[.int .i64 0,.int .i64 0] 24)) (w.heap.size+1) 0 0:=by
  have h:=blk_newN (w.alloc (.cells #[.int .i64 0,.int .i64 0] 24)) (.cells #[.int .i64 0,.int .i64 0] 24)
  rw [alloc_size] at h
  exact h
 have hm0:markF (l.take 0) (nx - 1)=(0,0):=by unfold markF;rw [if_neg (by simp;omega)]
 have HT:Aside0 (Td _ (fun k=>ok k∧k < w.heap.size) g gl w.heap.size (w.heap.size+1) nx mt l fl (markF (l.take 0) (nx - 1))):=⟨⟨(h.below hB).below hB2,hN.below hB2,by rw [hm0];exact hN2,(hL.bound.below hB).below hB2⟩⟩
 have HB:=Aside0.mk (below_from2 hB (Nat.le_refl _) hB2)
 obtain ⟨A,c,hb,_,hc,hC⟩:=hL.row
 have hb2:=(Chg.of_below hB2 (fun _=>False)).blk ((Chg.of_below hB (fun _=>False)).blk hb (fun h=>h)) (fun h=>h)
 have h0:((w.alloc (.cells #[.int .i64 0,.int .i64 0] 24)).alloc (.cells #[.int .i64 0,.int .i64 0] 24)).cell? ⟨gl,0,none⟩=some (.slice A l.length c):=by simp [World.cell?,hb2]
 have hlw:=hs.low
 have hlt:=hs.lt
 have hhi:=hs.hi
 have hw:IntKind.i64.wrap (nx - 1)=nx - 1:=by rw [IntKind.wrap_i64];omega
 have HC2:=Aside0.mk hC
 have HLL:=Aside0.mk hl
 have HLO:=Aside0.mk hlo
 have hna:l.length≤65536:=hl
 clear h hs hL hl hlo hB hB2 hN hN2 hm0 hb hb2 hc hC
 go_enter Try.func29,Try.ntmps29
 go_wp2
 go_loopw [17] (fun v17 wr=>TdIn w ok g gl nx mt l fl v17 wr) (fun v17 _=>l.length - (intOf v17).toNat)
 case atStart=>exact ⟨0,by omega,rfl,HT,HB⟩
 case round =>
  clear HT HB h0
  obtain ⟨k,hk,rfl,HT,HB⟩:=hrel
  by_cases hlk:k < l.length
  ·have hltI:(k:Int) < (l.length:Int):=by omega
   have hk0:(0:Int)≤(k:Int):=by omega
   obtain ⟨ad,rfl,hx0,hx1,hx2,hx3,hx4,hx5,hx6,hx7⟩:=at_T53 (Kd.C_below HC2.out HB.out) (k:Int) hk0 hltI
   rw [Int.toNat_natCast] at hx0 hx1 hx2 hx3 hx4 hx5 hx6 hx7
   have hms:=markF_succ HLO.out hlk (nx - 1)
   generalize rd_T53 l (k:Int)=x at hx0 hx1 hx2 hx3 hx4 hx5 hx6 hx7 hms
   obtain ⟨x0,x1,x2,x3,x4,x5,x6,x7⟩:=x
   dsimp only at hx0 hx1 hx2 hx3 hx4 hx5 hx6 hx7 hms
   have HBA:=Aside0.mk (below_alloc (Below.refl wr.heap.size wr) (.cells #[.int .i64 x0,.int .i64 x1,.int .i64 x2,.int .i64 x3,.int .i64 x4,.int .i64 x5,.string x6,.string x7] 53))
   have HT2:=Aside0.mk (HT.out.below HBA.out)
   have HB2:=Aside0.mk (below_from2 HB.out (Nat.le_refl _) HBA.out)
   obtain ⟨s0,s1,s2,s3⟩:=HT2.out.sn.cells
   obtain ⟨m0,m1,m2,m3⟩:=HT2.out.m2.cells
   by_cases he:x0=nx - 1
   ·have d1:(x0==nx - 1)=true:=by simp [he]
    rw [if_pos he] at hms
    have HMS:=Aside0.mk hms
    clear hms he
    go_wp2
    repeat (go_quiet (fail);try go_wp2)
    go_roundw
    case rel=>exact ⟨k+1,by omega,by go_num,⟨by rw [HMS.out];exact (HT2.out.below (Drawn0.below (by repeat (first|exact Drawn0.refl _|apply Drawn0.step)))).put (by omega) (fun k hk e=>by omega) x1 x0⟩,⟨((below_from2 HB2.out (Nat.le_refl _) (Drawn0.below (by repeat (first|exact Drawn0.refl _|apply Drawn0.step)))).setCell (Nat.le_succ _) _).setCell (Nat.le_succ _) _⟩⟩
    case measure=>simp [intOf];omega
   ·have d1:(x0==nx - 1)=false:=by simp [he]
    rw [if_neg he] at hms
    have HMS:=Aside0.mk hms
    clear hms he
    go_wp2
    repeat (go_quiet (fail);try go_wp2)
    go_roundw
    case rel=>exact ⟨k+1,by omega,by go_num,⟨by rw [HMS.out];exact HT2.out.below (Drawn0.below (by repeat (first|exact Drawn0.refl _|apply Drawn0.step)))⟩,⟨below_from2 HB2.out (Nat.le_refl _) (Drawn0.below (by repeat (first|exact Drawn0.refl _|apply Drawn0.step)))⟩⟩
    case measure=>simp [intOf];omega
  ·have hge:¬ (k:Int) < (l.length:Int):=by omega
   have hkl:l.take k=l:=List.take_of_length_le (by omega)
   rw [hkl] at HT
   have hne:w.heap.size≠w.heap.size+1:=by omega
   have HNE:=Aside0.mk hne
   obtain ⟨a,ha⟩:∃ a,markF l (nx - 1)=a:=⟨_,rfl⟩
   rw [ha] at HT
   obtain ⟨a1,a0⟩:=a
   have HA:=Aside0.mk ha
   have HNL:=Aside0.mk HT.out.mr.lt
   obtain ⟨m0,m1,k0,k1⟩:=HT.out.mr.cells
   clear ha hne hkl
   go_upto_region 8 with (fail)
   go_region_held3 (fun W=>(W.cell? ⟨w.heap.size+1,0,none⟩=some (.int .i64 a1)∧W.cell? ⟨w.heap.size+1,1,none⟩=some (.int .i64 a0))∧W.cell? ⟨g,0,none⟩=some (.int .i64 nx))
    (first|(with_reducible exact HT.out.cells)|(with_reducible exact (HT.out.below (below_drew (Below.refl _ _))).cells)|(with_reducible exact HT.out.cells2 HNE.out _ _))
    (first
     | (go_at_call 54;(with_reducible refine (rfrom_ok (HT.out.below (below_drew (Below.refl _ _))).lg HLL.out HLO.out nx most).mono ?_);rintro e w3 ⟨A1,c1,rfl,hR,hB⟩;(replace hB:=below_pastC hB);clear m0 m1 k0 k1;(replace HT:=Aside0.mk (HT.out.below hB));obtain ⟨m0,m1,k0,k1⟩:=HT.out.mr.cells;(replace HB:=Aside0.mk (below_from2 HB.out (Nat.le_refl _) hB));(have HR:=Aside0.mk hR);clear hB hR))
   all_goals
    go_wp2
    refine bodyPost_ret (results_ct rfl _ _ w.heap.size 24 #[.int .i64 a1,.int .i64 a0] (0,0) _ rfl ((HT.out.mr.put0 a1).put1 a0) Try.underlying24 rfl (by kernel_rfl)) rfl ?_
    rw [HA.out]
    exact ⟨A1,c1,rfl,(rec_far2 HR.out HNL.out (.int .i64 a1) (.int .i64 a0)).1,(rec_far2 HR.out HNL.out _ _).2,(HB.out.setCell (Nat.le_refl _) _).setCell (Nat.le_refl _) _⟩
end Go.Proofs.Ytgjibcfkjaedfaa.Wal


-- A part of the text ShipBoth, thinned by a program of this session.
namespace Go.Proofs.Ytgjibcfkjaedfaa.Wal
open Go.RowKit Go.Proofs.YtgjibcfkjaedfaaW.PrintWords Go.Proofs.YtgjibcfkjaedfaaW.PrintLast Go.Proofs.YtgjibcfkjaedfaaW.PrintMore Go.Proofs.Ytgjibcfkjaedfaa.Wire Go.Proofs.Ytgjibcfkjaedfaa.Pr Go.Proofs.Ytgjibcfkjaedfaa.Rec
set_option linter.unusedVariables false
set_option linter.unusedSimpArgs false
def logF (rs:List RecS):List RecS:=rs.foldl (fun l r=>(appF l r).1) []
theorem logF_succ {rs:List RecS} {k:Nat} (hk:k < rs.length):logF (rs.take (k+1))=(appF (logF (rs.take k)) (rd_T53 rs (k:Int))).1:=by
 unfold logF
 rw [List.take_succ_eq_append_getElem hk,List.foldl_append,rd_get hk]
 rfl
theorem logF_okN (rs:List RecS):∀ k,k≤rs.length→LogOk (logF (rs.take k))
 | 0,_=>LogOk.nil
 | k+1,h=>by
  rw [logF_succ (by omega)]
  exact (logF_okN rs k (by omega)).app _
theorem logF_ok (rs:List RecS):LogOk (logF rs):=by
 have h:=logF_okN rs rs.length (Nat.le_refl _)
 rw [List.take_length] at h
 exact h
def BothIn (w:World) (rs:List RecS) (g g':Nat) (v13:Value) (wr:World):Prop :=
 ∃ k:Nat,k≤rs.length∧v13=.int .i64 k∧Aside0 (Two w.heap.size wr g g' (logF (rs.take k)) 0)∧Aside0 (Below w.heap.size w wr)
set_option maxHeartbeats 16000000 in
set_option maxRecDepth 100000 in
theorem both_ok (A:Option Addr) (c:Nat) (rs:List RecS) (w:World) (hr:Kd.C kRec w A rs.length rs) (hv:∀ x ∈ rs,x.f7.size≤140737488351232) :
  Calls Try.prog 14 #[.slice A rs.length c] w fun e w'=>∃ g g',e=.returned (.tuple #[.pointer (some ⟨g,0,none⟩),.pointer (some ⟨g',0,none⟩)])∧Two w.heap.size w' g g' (logF rs) 0∧Below w.heap.size w w':=by
 have hnew:=new_ok w
 have HX:=Aside0.mk hr
 have HV:=Aside0.mk hv
 have hna:rs.length≤9223372036854775807:=hr.2.1
 clear hr hv
 go_enter Try.func14,Try.ntmps14
 go_wp2_with (go_at_call 20;(with_reducible refine hnew.mono ?_);rintro e w1 ⟨rfl,hL,hB⟩;(have HL:=Aside0.mk hL);(have HB:=Aside0.mk hB);clear hL hB hnew)
 have htw:Two w.heap.size (w1.alloc (.cells #[.slice none 0 0,.int .i64 0] 37)) w.heap.size w1.heap.size [] 0:=by
  refine ⟨_,fun k=>w1.heap.size≤k,(HL.out.bound).below (below_alloc (Below.refl _ _) _),⟨none,0,blk_newN _ _,Nat.le_refl _,Kd.R_nil _ _ _ _ _⟩,fun k h1 h2=>by have:=h1.2;omega,fun k h=>h.1,fun k h=>Nat.le_trans HB.out.size h⟩
 have HTW:=Aside0.mk htw
 replace HB:=Aside0.mk (below_alloc HB.out (.cells #[.slice none 0 0,.int .i64 0] 37))
 clear htw HL
 generalize w1.heap.size=g' at HTW ⊢
 go_loopw [13] (fun v13 wr=>BothIn w rs w.heap.size g' v13 wr) (fun v13 _=>rs.length - (intOf v13).toNat)
 case atStart=>exact ⟨0,by omega,rfl,HTW,HB⟩
 case round =>
  clear HTW HB
  obtain ⟨k,hk,rfl,HTW,HB⟩:=hrel
  by_cases hlt:k < rs.length
  ·have hltI:(k:Int) < (rs.length:Int):=by omega
   have hk0:(0:Int)≤(k:Int):=by omega
   obtain ⟨ad,rfl,hx0,hx1,hx2,hx3,hx4,hx5,hx6,hx7⟩:=at_T53 (Kd.C_below HX.out HB.out) (k:Int) hk0 hltI
   rw [Int.toNat_natCast] at hx0 hx1 hx2 hx3 hx4 hx5 hx6 hx7
   have hsz:=HV.out _ (rd_rec_mem hlt)
   have hlf:=logF_succ hlt
   have HLO:=Aside0.mk (logF_okN rs k hk)
   generalize rd_T53 rs (k:Int)=x at hx0 hx1 hx2 hx3 hx4 hx5 hx6 hx7 hsz hlf
   obtain ⟨a0,a1,a2,a3,a4,a5,a6,a7⟩:=x
   dsimp only at hx0 hx1 hx2 hx3 hx4 hx5 hx6 hx7 hsz
   have HLF:=Aside0.mk hlf
   generalize logF (rs.take k)=l at HTW HLO HLF hlf
   obtain ⟨ok0,ok0',hq1,hq2,hq3,hq4,hq5⟩:=HTW.out
   have HBA:=Aside0.mk (below_alloc (Below.refl wr.heap.size wr) (.cells #[.int .i64 a0,.int .i64 a1,.int .i64 a2,.int .i64 a3,.int .i64 a4,.int .i64 a5,.string a6,.string a7] 53))
   obtain ⟨ok,hok⟩:∃ ok:Nat→Prop,∀ k,ok k↔(ok0 k∧k < wr.heap.size):=⟨_,fun _=>Iff.rfl⟩
   obtain ⟨ok',hok'⟩:∃ ok':Nat→Prop,∀ k,ok' k↔(ok0' k∧k < wr.heap.size):=⟨_,fun _=>Iff.rfl⟩
   have HLB:=Aside0.mk ((hq1.bound.mono (fun k h=>(hok k).2 h)).below HBA.out)
   have HLB':=Aside0.mk ((hq2.bound.mono (fun k h=>(hok' k).2 h)).below HBA.out)
   have HDJ:Aside0 (∀ k,ok k→ok' k→False):=⟨fun k h h'=>hq3 k ((hok k).1 h).1 ((hok' k).1 h').1⟩
   have HBO:Aside0 (∀ k,ok k→w.heap.size≤k):=⟨fun k h=>hq4 k ((hok k).1 h).1⟩
   have HBO':Aside0 (∀ k,ok' k→w.heap.size≤k):=⟨fun k h=>hq5 k ((hok' k).1 h).1⟩
   have HNB:Aside0 (∀ k,ok k→k=wr.heap.size→False):=⟨fun k h e=>by have:=((hok k).1 h).2;omega⟩
   have HBX:=Aside0.mk (rc_new wr a0 a1 a2 a3 a4 a5 a6 a7)
   replace HB:=Aside0.mk (below_from2 HB.out (Nat.le_refl _) HBA.out)
   have HWS:=Aside0.mk HB.out.size
   have happ:=append_ok HLB.out HLO.out.len a0 a1 a2 a3 a4 a5 a6 a7 hsz
   have HRAP:=Aside0.mk (fun (W:World) (o:Nat→Prop) (h:LogAt 37 W o g' l 0)=>rappend_ok h HLO.out.len a0 a1 a2 a3 a4 a5 a6 a7 hsz)
   rw [← hlf] at happ HRAP
   clear hok hok' hq1 hq2 hq3 hq4 hq5 HTW hlf hsz
   obtain ⟨⟨b0,b1,b2,b3,b4,b5,b6,b7⟩,_⟩:=HBX.out.cells
   go_wp2_with (first
    | (go_at_call 33;(with_reducible refine happ.mono ?_);rintro e w3 ⟨rfl,hL,hC⟩;(have HC1:=Aside0.mk hC);(have HL1:=Aside0.mk hL);(have HR:=Aside0.mk (two_first HDJ.out HLB'.out hC));(replace HBX:=Aside0.mk (HBX.out.chg hC (fun h=>HNB.out _ h rfl)));(replace HB:=Aside0.mk (HB.out.trans (hC.below HWS.out (fun k h=>HBO.out k h))));clear b0 b1 b2 b3 b4 b5 b6 b7;obtain ⟨⟨b0,b1,b2,b3,b4,b5,b6,b7⟩,_⟩:=HBX.out.cells;(have hra:=HRAP.out _ _ HR.out);clear hL hC happ)
    | (go_at_call 42;(with_reducible refine hra.mono ?_);rintro e w4 ⟨rfl,hL,hC⟩;(have HC2:=Aside0.mk hC);(have HL2:=Aside0.mk hL);(replace HB:=Aside0.mk (HB.out.trans (hC.below (Nat.le_trans HWS.out HC1.out.size) (fun k h=>HBO'.out k h.1))));clear hra;clear hL hC))
   go_roundw
   case rel=>exact ⟨k+1,by omega,by go_num,⟨two_step HDJ.out HBO.out HBO'.out HWS.out HC1.out.size HL1.out HL2.out HC2.out⟩,HB⟩
   case measure=>simp [intOf];omega
  ·have hge:¬ (k:Int) < (rs.length:Int):=by omega
   have hkl:rs.take k=rs:=List.take_of_length_le (by omega)
   rw [hkl] at HTW
   clear hkl
   go_wp2
   go_ret2
   exact ⟨_,_,rfl,HTW.out,HB.out⟩
end Go.Proofs.Ytgjibcfkjaedfaa.Wal


-- A part of the text ShipTakeP, thinned by a program of this session.
namespace Go.Proofs.Ytgjibcfkjaedfaa.Wal
open Go.RowKit Go.Proofs.YtgjibcfkjaedfaaW.PrintWords Go.Proofs.YtgjibcfkjaedfaaW.PrintLast Go.Proofs.YtgjibcfkjaedfaaW.PrintMore Go.Proofs.Ytgjibcfkjaedfaa.Wire Go.Proofs.Ytgjibcfkjaedfaa.Pr Go.Proofs.Ytgjibcfkjaedfaa.Rec
set_option linter.unusedVariables false
set_option linter.unusedSimpArgs false
def chainF:Int→Int→List RecS→Bool
  | _,_,[]=>true
  | ep,p,r::rs=>if r.f0=p+1∧ep≤r.f1 then chainF r.f1 r.f0 rs else false
def wrongF (l:List RecS) (ep p:Int) (rs:List RecS):Int :=
  if rs.all (fun r=>rightV (toV r))=false∨p < 0 then 90
  else if p≠0∧((getF l p).2≠0∨(getF l p).1.f1≠ep) then 200
  else if chainF ep p rs=true then 0 else 200
def takeStep (l:List RecS) (r:RecS):List RecS×Bool×Int :=
  if (getF l r.f0).2=0 then
    (if (getF l r.f0).1.f1=r.f1 then (l,false,0)
     else ((appF (cutF l 0 (r.f0 - 1)).1 r).1,true,(appF (cutF l 0 (r.f0 - 1)).1 r).2.2))
  else ((appF l r).1,false,(appF l r).2.2)
def takeK:List RecS→Bool→Int→List RecS→List RecS×Int×Bool×Int
  | l,cut,last,[]=>(l,last,cut,0)
  | l,cut,last,r::rs=>if (takeStep l r).2.2=0 then takeK (takeStep l r).1 (cut || (takeStep l r).2.1) r.f0 rs else ((takeStep l r).1,0,false,5)
def takeF (l:List RecS) (ep p:Int) (rs:List RecS):List RecS×Int×Bool×Int :=
  if wrongF l ep p rs=0 then takeK l false p rs else (l,0,false,wrongF l ep p rs)
theorem LogOk.takeStep {l:List RecS} (h:LogOk l) (r:RecS):LogOk (takeStep l r).1:=by
  unfold Wal.takeStep
  split
  · split
    · exact h
    · exact (h.cut 0 _).app r
  · exact h.app r
theorem LogOk.takeK:∀ (rs l:List RecS) (cut:Bool) (last:Int),LogOk l→LogOk (takeK l cut last rs).1
  | [],l,cut,last,h=>h
  | r::rs,l,cut,last,h=>by
    unfold Wal.takeK
    split
    · exact LogOk.takeK rs _ _ _ (h.takeStep r)
    · exact h.takeStep r
theorem LogOk.takeF {l:List RecS} (h:LogOk l) (ep p:Int) (rs:List RecS):LogOk (takeF l ep p rs).1:=by
  unfold Wal.takeF
  split
  · exact LogOk.takeK rs l false p h
  · exact h
end Go.Proofs.Ytgjibcfkjaedfaa.Wal
