-- A part of the text PureNodePosts, thinned by a program of this session.
import Derived.Test.YtcocmpblmkdmjaaTNodePostsPurePost
import Derived.Test.YtcocmpblmkdmjaaTNodePostsStNodePosts
namespace Go.Proofs.Ytcocmpblmkdmjaa.Pure
set_option linter.unusedVariables false
open Go.RowKit Go.Proofs.Ytcocmpblmkdmjaa.Pr Go.Proofs.YtcocmpblmkdmjaaW.PrintWords Go.Proofs.YtcocmpblmkdmjaaW.PrintLast
theorem NodePosts:latticelaw07_NodePosts.Stated:=by
 intro a k kid ha hk hkid
 obtain ⟨_,_,_,hh,⟨_,hl,hg⟩,⟨_,hv,_⟩,⟨_,hi,_⟩⟩:=ha
 refine Ev.rounds (g:=fun n=>latticelaw07_NodePosts.f n a.f0 a.f1 a.f2 a.f3 a.f4 a.f5 a.f6 k kid) ?_
 unfold latticelaw07_NodePosts.f
 obtain ⟨r,e1,e2,s1,s2,s3⟩:=post_ev a.f0 a.f1 a.f2 a.f3 a.f4 a.f5 a.f6 hl hv hi hg k kid hh hk
 refine Ev.bind e1 (Ev.bind e2 (Ev.bind (same_ev _ _ _ _ _ _ _ s1 s2 s3) (Ev.pos rfl (Ev.pos rfl ?_))))
 exact Ev.bindc (a:=true) rfl (Ev.now _)
end Go.Proofs.Ytcocmpblmkdmjaa.Pure
