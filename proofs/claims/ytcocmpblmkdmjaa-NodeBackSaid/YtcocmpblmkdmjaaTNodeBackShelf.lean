-- A part of the text Shelf, thinned by a program of this session.
import Derived.Shelf.Spec.SlicesInsertGrow
import Derived.Shelf.Slices.Cells
import Derived.Ground.Names2Prog
import Derived.Test.YtcocmpblmkdmjaaProg
namespace Go.Proofs
open Go.Shelf
def Try.layInsS_ren:Go.Shelf.Ren:=⟨fun|22=>49|29=>63|30=>64|36=>71|17=>74|n=>n,fun|24=>22|9=>9|3=>3|4=>4|0=>0|n=>n,fun|n=>n⟩
theorem Try.layInsS:Go.Proofs.Lays2.n22 Try.prog Try.layInsS_ren:={
 mixed:=by kernel_rfl
 f17:=Try.func74.trans (congrArg some (by kernel_rfl))
 f22:=Try.func49.trans (congrArg some (by kernel_rfl))
 f29:=Try.func63.trans (congrArg some (by kernel_rfl))
 f30:=Try.func64.trans (congrArg some (by kernel_rfl))
 f36:=Try.func71.trans (congrArg some (by kernel_rfl))
 t0:=Try.underlying0
 a0:=Try.isAgg0
 z0:=Try.sizeOf0
 v0:=Try.zeroValue0
 t3:=Try.underlying3
 a3:=Try.isAgg3
 z3:=Try.sizeOf3
 v3:=Try.zeroValue3
 t4:=Try.underlying4
 a4:=Try.isAgg4
 z4:=Try.sizeOf4
 v4:=Try.zeroValue4
 t9:=Try.underlying9
 a9:=Try.isAgg9
 z9:=Try.sizeOf9
 v9:=Try.zeroValue9
 t24:=Try.underlying22
 a24:=Try.isAgg22
 z24:=Try.sizeOf22
 v24:=Try.zeroValue22
 i9:=by kernel_rfl }
def Try.layDelS_ren:Go.Shelf.Ren:=⟨fun|24=>52|n=>n,fun|24=>22|9=>9|3=>3|4=>4|0=>0|n=>n,fun|n=>n⟩
theorem Try.layDelS:Go.Proofs.Lays2.n24 Try.prog Try.layDelS_ren:={
 mixed:=by kernel_rfl
 f24:=Try.func52.trans (congrArg some (by kernel_rfl))
 t0:=Try.underlying0
 a0:=Try.isAgg0
 z0:=Try.sizeOf0
 v0:=Try.zeroValue0
 t3:=Try.underlying3
 a3:=Try.isAgg3
 z3:=Try.sizeOf3
 v3:=Try.zeroValue3
 t4:=Try.underlying4
 a4:=Try.isAgg4
 z4:=Try.sizeOf4
 v4:=Try.zeroValue4
 t9:=Try.underlying9
 a9:=Try.isAgg9
 z9:=Try.sizeOf9
 v9:=Try.zeroValue9
 t24:=Try.underlying22
 a24:=Try.isAgg22
 z24:=Try.sizeOf22
 v24:=Try.zeroValue22
 i9:=by kernel_rfl }
end Go.Proofs
