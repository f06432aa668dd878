-- A part of the text PurePut, thinned by a program of this session.
import Derived.Test.YtcocmpblmkdmjaaTNodePostsPureLeft
import Derived.Test.YtcocmpblmkdmjaaTNodePostsPrx0
import Derived.Test.YtcocmpblmkdmjaaTNodePostsPrx4
import Derived.Test.YtcocmpblmkdmjaaTNodePostsPrx6
import Derived.Test.YtcocmpblmkdmjaaTNodePostsPrx10
import Derived.Test.YtcocmpblmkdmjaaTNodePostsPrx11
import Derived.Test.YtcocmpblmkdmjaaTNodePostsNodePut
namespace Go.Proofs.Ytcocmpblmkdmjaa.Pure
set_option linter.unusedVariables false
open Go.RowKit Go.Proofs.Ytcocmpblmkdmjaa.Pr Go.Proofs.YtcocmpblmkdmjaaW.PrintWords Go.Proofs.YtcocmpblmkdmjaaW.PrintLast
abbrev E8:=Int×Int×Int×ByteArray×List ByteArray×List ByteArray×List Int×Int
theorem sz_of {keys:List ByteArray} (hg:∀ y ∈ keys,y.size≤140737488351232):∀ j:Nat,j < keys.length→(rdOf ByteArray.empty keys (j:Int)).size≤140737488351232:=fun j hj=>by
 rw [rd_get hj]
 exact hg _ (List.getElem_mem _)
theorem tl_iff {x y:ByteArray}:x.toList=y.toList↔cb (L x) (L y)=0:=by rw [tl,tl,cb_zero]
structure At (keys:List ByteArray) (k:ByteArray) (p:Nat):Prop where
 le:p≤keys.length
 low:∀ j,j < p→cb (K keys j) (L k) < 0
 here:p < keys.length→0≤cb (K keys p) (L k)
 high:∀ j,p < j→j < keys.length→0 < cb (K keys j) (L k)
theorem place_at {high:ByteArray} {keys:List ByteArray} (hs:kAll high keys keys.length 0=true) (k:ByteArray):∃ p,At keys k p∧key_Place.f keys k=some ((p:Int),decide (p < keys.length∧cb (K keys p) (L k)=0)):=by
 obtain ⟨p,h1,h2,h3,h4⟩:=place_ev keys k
 exact ⟨p,⟨h1,h2,h3,fun j j1 j2=>behind hs h3 j j1 j2⟩,h4⟩
def Small (r:E8):Prop:=r.2.2.2.2.1.length≤8796093022208∧r.2.2.2.2.2.1.length≤8796093022208∧r.2.2.2.2.2.2.1.length≤8796093022208
theorem small_err (e:Int):Small (0,0,0,⟨#[]⟩,[],[],[],e):=⟨Nat.zero_le _,Nat.zero_le _,Nat.zero_le _⟩
theorem small_part (b:Bool) (lv lsn rt:Int) (high:ByteArray) (keys vals:List ByteArray) (kids:List Int) (h1:keys.length≤8796093022208) (h2:vals.length≤8796093022208) (h3:kids.length≤8796093022208):Small (partR b lv lsn rt high keys vals kids):=by
 unfold partR
 split
 ·exact ⟨h1,h2,h3⟩
 ·exact small_err 5
end Go.Proofs.Ytcocmpblmkdmjaa.Pure
