-- A part of the text PurePut, thinned by a program of this session.
import Derived.Test.YtcocmpblmkdmjaaTNodeHalvesPureLeft
import Derived.Test.YtcocmpblmkdmjaaTNodeHalvesPrx0
import Derived.Test.YtcocmpblmkdmjaaTNodeHalvesPrx4
import Derived.Test.YtcocmpblmkdmjaaTNodeHalvesPrx6
import Derived.Test.YtcocmpblmkdmjaaTNodeHalvesPrx10
import Derived.Test.YtcocmpblmkdmjaaTNodeHalvesNodePut
namespace Go.Proofs.Ytcocmpblmkdmjaa.Pure
set_option linter.unusedVariables false
open Go.RowKit Go.Proofs.Ytcocmpblmkdmjaa.Pr Go.Proofs.YtcocmpblmkdmjaaW.PrintWords Go.Proofs.YtcocmpblmkdmjaaW.PrintLast
abbrev Ent:=ByteArray×ByteArray
theorem sz_of {keys:List ByteArray} (hg:∀ y ∈ keys,y.size≤140737488351232):∀ j:Nat,j < keys.length→(rdOf ByteArray.empty keys (j:Int)).size≤140737488351232:=fun j hj=>by
 rw [rd_get hj]
 exact hg _ (List.getElem_mem _)
structure At (keys:List ByteArray) (k:ByteArray) (p:Nat):Prop where
 le:p≤keys.length
 low:∀ j,j < p→cb (K keys j) (L k) < 0
 here:p < keys.length→0≤cb (K keys p) (L k)
 high:∀ j,p < j→j < keys.length→0 < cb (K keys j) (L k)
theorem place_at {high:ByteArray} {keys:List ByteArray} (hs:kAll high keys keys.length 0=true) (k:ByteArray):∃ p,At keys k p∧key_Place.f keys k=some ((p:Int),decide (p < keys.length∧cb (K keys p) (L k)=0)):=by
 obtain ⟨p,h1,h2,h3,h4⟩:=place_ev keys k
 exact ⟨p,⟨h1,h2,h3,fun j j1 j2=>behind hs h3 j j1 j2⟩,h4⟩
end Go.Proofs.Ytcocmpblmkdmjaa.Pure
