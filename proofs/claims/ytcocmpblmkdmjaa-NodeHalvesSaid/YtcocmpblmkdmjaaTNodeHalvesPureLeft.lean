-- A part of the text PureLeft, thinned by a program of this session.
import Derived.Test.YtcocmpblmkdmjaaTNodeHalvesPureParts
import Derived.Test.YtcocmpblmkdmjaaTNodeHalvesPrx0
import Derived.Test.YtcocmpblmkdmjaaTNodeHalvesPrx4
import Derived.Test.YtcocmpblmkdmjaaTNodeHalvesPrx6
import Derived.Test.YtcocmpblmkdmjaaTNodeHalvesPrx10
namespace Go.Proofs.Ytcocmpblmkdmjaa.Pure
set_option linter.unusedVariables false
open Go.RowKit Go.Proofs.Ytcocmpblmkdmjaa.Pr Go.Proofs.YtcocmpblmkdmjaaW.PrintWords Go.Proofs.YtcocmpblmkdmjaaW.PrintLast
theorem take_more {α:Type} {l:List α} {i:Nat} (h:i < l.length):l.take i++[l[i]]=l.take (i+1):=by
 rw [List.take_add_one,List.getElem?_eq_getElem h]
 rfl
def partR (b:Bool) (lv lsn rt:Int) (high:ByteArray) (keys vals:List ByteArray) (kids:List Int):Int×Int×Int×ByteArray×List ByteArray×List ByteArray×List Int×Int :=
 if b=true then (lv,lsn,rt,high,keys,vals,kids,0) else (0,0,0,⟨#[]⟩,[],[],[],5)
theorem check_part (lv lsn rt:Int) (high:ByteArray) (keys vals:List ByteArray) (kids:List Int) (hl:keys.length*16≤140737488351232) (hv:vals.length*16≤140737488351232) :
  Ev (fun k=>(page_Check.f k lv lsn rt high keys vals kids).bind fun c=>if c=0 then some (lv,lsn,rt,high,keys,vals,kids,(0:Int)) else leftZ 5) (partR (nodeB lv lsn rt high keys vals kids) lv lsn rt high keys vals kids):=by
 refine Ev.bind (check_ev lv lsn rt high keys vals kids hl hv) ?_
 unfold partR
 cases nodeB lv lsn rt high keys vals kids
 ·exact Ev.neg (by decide) (Ev.now _)
 ·exact Ev.pos rfl (Ev.now _)
end Go.Proofs.Ytcocmpblmkdmjaa.Pure
