-- A part of the text LawKit, thinned by a program of this session.
import Derived.Test.YtcocmpblmkdmjaaTNodeHalvesNodePut
import Derived.Test.YtcocmpblmkdmjaaTNodeHalvesNodeSpeak
import Derived.Test.YtcocmpblmkdmjaaTNodeHalvesNodeLeft
import Derived.Test.YtcocmpblmkdmjaaTNodeHalvesPrx18
import Derived.Test.YtcocmpblmkdmjaaTNodeHalvesPrx4
namespace Go.Proofs.Ytcocmpblmkdmjaa.Pr
open Go.RowKit Go.Proofs.YtcocmpblmkdmjaaW.PrintWords Go.Proofs.YtcocmpblmkdmjaaW.PrintLast Go.Proofs.YtcocmpblmkdmjaaW.PrintMore
set_option linter.unusedVariables false
set_option linter.unusedSimpArgs false
instance decE4:DecidableEq (List ByteArray×List ByteArray×List Int×Int):=inferInstance
instance decE8:DecidableEq (Int×Int×Int×ByteArray×List ByteArray×List ByteArray×List Int×Int):=inferInstance
def NdV (w:World) (A4:Option Addr) (c4:Nat) (l4:List ByteArray) (A5:Option Addr) (c5:Nat) (l5:List ByteArray) (A6:Option Addr) (c6:Nat) (l6:List Int):Prop :=
 (Kd.C Kd.string w A4 l4.length l4∧l4.length≤c4)∧(Kd.C Kd.string w A5 l5.length l5∧l5.length≤c5)∧(Kd.C (Kd.int .i64) w A6 l6.length l6∧l6.length≤c6)
def NdA (w:World) (g:Nat) (x0 x1 x2:Int) (x3:ByteArray) (A4:Option Addr) (c4:Nat) (l4:List ByteArray) (A5:Option Addr) (c5:Nat) (l5:List ByteArray) (A6:Option Addr) (c6:Nat) (l6:List Int):Prop :=
 NdAt w g x0 x1 x2 x3 (.slice A4 l4.length c4) (.slice A5 l5.length c5) (.slice A6 l6.length c6)∧NdV w A4 c4 l4 A5 c5 l5 A6 c6 l6
section
variable {w w1 W:World} {g b:Nat} {x0 x1 x2:Int} {x3:ByteArray} {A4 A5 A6:Option Addr} {c4 c5 c6:Nat} {l4 l5:List ByteArray} {l6:List Int} {v4 v5 v6:Value}
theorem NdV.below (h:NdV w A4 c4 l4 A5 c5 l5 A6 c6 l6) (hB:Below w.heap.size w w1):NdV w1 A4 c4 l4 A5 c5 l5 A6 c6 l6 :=
 ⟨⟨Kd.C_below h.1.1 hB,h.1.2⟩,⟨Kd.C_below h.2.1.1 hB,h.2.1.2⟩,⟨Kd.C_below h.2.2.1 hB,h.2.2.2⟩⟩
theorem NdA.below (h:NdA w g x0 x1 x2 x3 A4 c4 l4 A5 c5 l5 A6 c6 l6) (hB:Below w.heap.size w w1):NdA w1 g x0 x1 x2 x3 A4 c4 l4 A5 c5 l5 A6 c6 l6:=⟨h.1.below hB,h.2.below hB⟩
theorem NdA.step (h:NdA w g x0 x1 x2 x3 A4 c4 l4 A5 c5 l5 A6 c6 l6) (hB:Below w.heap.size w w1) (o:Obj):NdA (w1.alloc o) g x0 x1 x2 x3 A4 c4 l4 A5 c5 l5 A6 c6 l6:=(h.below hB).below (below_alloc (Below.refl _ _) o)
theorem NdV.boxed (h:NdV w A4 c4 l4 A5 c5 l5 A6 c6 l6) (x0 x1 x2:Int) (x3:ByteArray):NdA (w.alloc (.cells #[.int .i64 x0,.int .i64 x1,.int .i64 x2,.string x3,.slice A4 l4.length c4,.slice A5 l5.length c5,.slice A6 l6.length c6] 25)) w.heap.size x0 x1 x2 x3 A4 c4 l4 A5 c5 l5 A6 c6 l6 :=
 ⟨blk_newN _ _,h.below (below_alloc (Below.refl _ _) _)⟩
theorem ndv_of_CS (h4:CS Kd.string w v4 l4) (h5:CS Kd.string w v5 l5) (h6:CS (Kd.int .i64) w v6 l6):∃ A4 c4 A5 c5 A6 c6,v4=.slice A4 l4.length c4∧v5=.slice A5 l5.length c5∧v6=.slice A6 l6.length c6∧NdV w A4 c4 l4 A5 c5 l5 A6 c6 l6:=by
 obtain ⟨A4,c4,rfl,e4,g4⟩:=h4
 obtain ⟨A5,c5,rfl,e5,g5⟩:=h5
 obtain ⟨A6,c6,rfl,e6,g6⟩:=h6
 exact ⟨A4,c4,A5,c5,A6,c6,rfl,rfl,rfl,⟨g4,e4⟩,⟨g5,e5⟩,⟨g6,e6⟩⟩
theorem below_next {w0:World} (h:Below w0.heap.size w0 w) (hB:Below w.heap.size w w1) (o:Obj):Below w0.heap.size w0 (w1.alloc o):=below_alloc (below_from2 h (Nat.le_refl _) hB) o
theorem below_same {w0:World} (h:Below w0.heap.size w0 w) (hB:Below w.heap.size w w1):Below w0.heap.size w0 w1:=below_from2 h (Nat.le_refl _) hB
end
theorem check_nd (k:ByteArray) (r:Int) (W:World) (h:latticeref05_Check.f k=some r):Calls Try.prog 25 #[.string k] W fun e w'=>e=.returned (.int .i64 r)∧Below W.heap.size W w' :=
 (latticeref05_Check.calls k r W h).mono fun _ _ h=>⟨h.1,h.2.below⟩
def EntAt (w:World) (g:Nat) (x y:ByteArray):Prop:=w.heap[g]?=some (.cells #[.string x,.string y] 56 (0,0))
section
variable {w w1:World} {g:Nat} {x y:ByteArray}
theorem EntAt.lt (h:EntAt w g x y):g < w.heap.size:=(Array.getElem?_eq_some_iff.1 h).1
theorem EntAt.below (h:EntAt w g x y) (hB:Below w.heap.size w w1):EntAt w1 g x y:=(hB.block g h.lt).trans h
theorem EntAt.step (h:EntAt w g x y) (hB:Below w.heap.size w w1) (o:Obj):EntAt (w1.alloc o) g x y:=(h.below hB).below (below_alloc (Below.refl _ _) o)
theorem EntAt.cells (h:EntAt w g x y):w.cell? ⟨g,0,none⟩=some (.string x)∧w.cell? ⟨g,1,none⟩=some (.string y):=by
 unfold EntAt at h
 simp [World.cell?,h]
end
theorem size_alloc (w:World) (o:Obj):(w.alloc o).heap.size=w.heap.size+1:=by
 show (w.heap.push o).size=_
 simp
end Go.Proofs.Ytcocmpblmkdmjaa.Pr
