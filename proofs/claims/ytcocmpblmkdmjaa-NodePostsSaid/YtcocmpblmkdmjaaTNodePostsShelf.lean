-- A part of the text Shelf, thinned by a program of this session.
import Derived.Shelf.Spec.SlicesInsertGrow
import Derived.Shelf.Slices.Cells
import Derived.Ground.Names2Prog
import Derived.Test.YtcocmpblmkdmjaaProg
namespace Go.Proofs
open Go.Shelf
def Try.layInsS_ren:Go.Shelf.Ren:=⟨fun|22=>49|29=>63|30=>64|36=>71|17=>74|n=>n,fun|24=>22|9=>9|3=>3|4=>4|0=>0|n=>n,fun|n=>n⟩
theorem Try.layInsS:Go.Proofs.Lays2.n22 Try.prog Try.layInsS_ren:={
 mixed:=by kernel_rfl
 f17:=Try.func74.trans (congrArg some (by kernel_rfl))
 f22:=Try.func49.trans (congrArg some (by kernel_rfl))
 f29:=Try.func63.trans (congrArg some (by kernel_rfl))
 f30:=Try.func64.trans (congrArg some (by kernel_rfl))
 f36:=Try.func71.trans (congrArg some (by kernel_rfl))
 t0:=Try.underlying0
 a0:=Try.isAgg0
 z0:=Try.sizeOf0
 v0:=Try.zeroValue0
 t3:=Try.underlying3
 a3:=Try.isAgg3
 z3:=Try.sizeOf3
 v3:=Try.zeroValue3
 t4:=Try.underlying4
 a4:=Try.isAgg4
 z4:=Try.sizeOf4
 v4:=Try.zeroValue4
 t9:=Try.underlying9
 a9:=Try.isAgg9
 z9:=Try.sizeOf9
 v9:=Try.zeroValue9
 t24:=Try.underlying22
 a24:=Try.isAgg22
 z24:=Try.sizeOf22
 v24:=Try.zeroValue22
 i9:=by kernel_rfl }
def Try.layInsI_ren:Go.Shelf.Ren:=⟨fun|21=>50|27=>65|28=>66|35=>72|39=>75|n=>n,fun|22=>23|3=>3|4=>4|0=>0|n=>n,fun|n=>n⟩
theorem Try.layInsI:Go.Proofs.Lays2.n21 Try.prog Try.layInsI_ren:={
 mixed:=by kernel_rfl
 f21:=Try.func50.trans (congrArg some (by kernel_rfl))
 f27:=Try.func65.trans (congrArg some (by kernel_rfl))
 f28:=Try.func66.trans (congrArg some (by kernel_rfl))
 f35:=Try.func72.trans (congrArg some (by kernel_rfl))
 f39:=Try.func75.trans (congrArg some (by kernel_rfl))
 t0:=Try.underlying0
 a0:=Try.isAgg0
 z0:=Try.sizeOf0
 v0:=Try.zeroValue0
 t3:=Try.underlying3
 a3:=Try.isAgg3
 z3:=Try.sizeOf3
 v3:=Try.zeroValue3
 t4:=Try.underlying4
 a4:=Try.isAgg4
 z4:=Try.sizeOf4
 v4:=Try.zeroValue4
 t22:=Try.underlying23
 a22:=Try.isAgg23
 z22:=Try.sizeOf23
 v22:=Try.zeroValue23
 i3:=by kernel_rfl }
end Go.Proofs
