-- A part of the text PureNodeChanges, thinned by a program of this session.
import Derived.Test.YtcocmpblmkdmjaaTNodeChangesPurePut
import Derived.Test.YtcocmpblmkdmjaaTNodeChangesStNodeChanges
namespace Go.Proofs.Ytcocmpblmkdmjaa.Pure
set_option linter.unusedVariables false
open Go.RowKit Go.Proofs.Ytcocmpblmkdmjaa.Pr Go.Proofs.YtcocmpblmkdmjaaW.PrintWords Go.Proofs.YtcocmpblmkdmjaaW.PrintLast
theorem NodeChanges:latticelaw07_NodeChanges.Stated:=by
 intro a k v ha hk hv'
 obtain ⟨_,_,_,hh,⟨_,hl,hg⟩,⟨_,hv,_⟩,⟨_,hi,_⟩⟩:=ha
 refine Ev.rounds (g:=fun n=>latticelaw07_NodeChanges.f n a.f0 a.f1 a.f2 a.f3 a.f4 a.f5 a.f6 k v) ?_
 unfold latticelaw07_NodeChanges.f changesF
 obtain ⟨r,e1,e2,_⟩:=put_ev a.f0 a.f1 a.f2 a.f3 a.f4 a.f5 a.f6 hl hv hi hg k v hh hk
 obtain ⟨s,e3,e4,_⟩:=del_ev a.f0 a.f1 a.f2 a.f3 a.f4 a.f5 a.f6 hl hv hi hg k hh
 exact Ev.bind e1 (Ev.bind e2 (Ev.pos rfl (Ev.bind e3 (Ev.bind e4 (Ev.pos rfl (Ev.now _))))))
end Go.Proofs.Ytcocmpblmkdmjaa.Pure
