-- A part of the text NodePut, thinned by a program of this session.
import Derived.Shelf.Spec.SlicesInsertGrow
import Derived.Shelf.Slices.Cells
import Derived.Ground.Names2Prog
import Derived.Test.YtcocmpblmkdmjaaProg
import Derived.Test.YtcocmpblmkdmjaaTNodeHalvesPrx10
import Derived.Test.YtcocmpblmkdmjaaTNodeHalvesNodeLeft
import Derived.Test.YtcocmpblmkdmjaaTNodeHalvesPrx9
import Derived.Test.YtcocmpblmkdmjaaTNodeHalvesPrx0
import Derived.Test.YtcocmpblmkdmjaaTNodeHalvesPrx2
namespace Go.Proofs.Ytcocmpblmkdmjaa.Pr
open Go.RowKit Go.Proofs.YtcocmpblmkdmjaaW.PrintWords Go.Proofs.YtcocmpblmkdmjaaW.PrintLast Go.Proofs.YtcocmpblmkdmjaaW.PrintMore
set_option linter.unusedVariables false
set_option linter.unusedSimpArgs false
theorem str_ne:∀ q,q ∈ 9::Kd.string.E→q≠25:=by decide
theorem int_ne:∀ q,q ∈ 3::(Kd.int .i64).E→q≠25:=by decide
def Rows3 (w:World) (base:Nat) (v4:Value) (l4:List ByteArray) (v5:Value) (l5:List ByteArray) (v6:Value) (l6:List Int):Prop :=
 Kd.R Kd.string 9 w base (fun k=>some k≠v5.ownBlock) v4 l4∧Kd.R Kd.string 9 w base (fun k=>some k≠v4.ownBlock) v5 l5∧Kd.R (Kd.int .i64) 3 w base (fun _=>True) v6 l6
section
variable {w w1 w0 W:World} {base:Nat} {v4 v5 v6 v1:Value} {l4 l5 ys:List ByteArray} {l6 zs:List Int}
theorem Rows3.move (h:Rows3 w base v4 l4 v5 l5 v6 l6) (hm:∀ k,k < w.heap.size→(∃ q cells,q≠25∧w.heap[k]?=some (.cells cells q (0,0)))→w1.heap[k]?=w.heap[k]?):Rows3 w1 base v4 l4 v5 l5 v6 l6:=by
 obtain ⟨h4,h5,h6⟩:=h
 refine ⟨Kd.R_mono (Kd.R_move (Kd.R_bound h4) (fun k hk=>?_)) (fun _ hk=>hk.1),Kd.R_mono (Kd.R_move (Kd.R_bound h5) (fun k hk=>?_)) (fun _ hk=>hk.1),Kd.R_mono (Kd.R_move (Kd.R_bound h6) (fun k hk=>?_)) (fun _ hk=>hk.1)⟩
 ·obtain ⟨_,_,hl,q,hq,cells,hc⟩:=hk
  exact hm k hl ⟨q,cells,str_ne q hq,hc⟩
 ·obtain ⟨_,_,hl,q,hq,cells,hc⟩:=hk
  exact hm k hl ⟨q,cells,str_ne q hq,hc⟩
 ·obtain ⟨_,_,hl,q,hq,cells,hc⟩:=hk
  exact hm k hl ⟨q,cells,int_ne q hq,hc⟩
theorem Rows3.below (h:Rows3 w base v4 l4 v5 l5 v6 l6) (hb:Below w.heap.size w w1):Rows3 w1 base v4 l4 v5 l5 v6 l6:=h.move (fun k hk _=>hb.block k hk)
theorem nd_set {g:Nat} {x0 x1 x2:Int} {x3:ByteArray} {x4 x5 x6:Value} (hn:NdAt w g x0 x1 x2 x3 x4 x5 x6) {k j:Nat} {u:Value} (h:∃ q cells,q≠25∧w.heap[k]?=some (.cells cells q (0,0))):(w.setCell ⟨g,j,none⟩ u).heap[k]?=w.heap[k]?:=by
 obtain ⟨q,cells,hq,hc⟩:=h
 refine Below.heap_setCell w ⟨g,j,none⟩ u k ?_
 rintro rfl
 unfold NdAt at hn
 rw [hc] at hn
 injection hn with hn
 injection hn with _ hn
 exact hq hn
theorem Rows3.set {g:Nat} {x0 x1 x2:Int} {x3:ByteArray} {x4 x5 x6:Value} (h:Rows3 w base v4 l4 v5 l5 v6 l6) (hn:NdAt w g x0 x1 x2 x3 x4 x5 x6) (j:Nat) (u:Value):Rows3 (w.setCell ⟨g,j,none⟩ u) base v4 l4 v5 l5 v6 l6 :=
 h.move (fun k _ hk=>nd_set hn hk)
end
end Go.Proofs.Ytcocmpblmkdmjaa.Pr
