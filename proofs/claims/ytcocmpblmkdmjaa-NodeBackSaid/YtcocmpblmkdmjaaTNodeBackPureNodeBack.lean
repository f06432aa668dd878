-- A part of the text PureNodeBack, thinned by a program of this session.
import Derived.Test.YtcocmpblmkdmjaaTNodeBackPureEnt
import Derived.Test.YtcocmpblmkdmjaaTNodeBackStNodeBack
namespace Go.Proofs.Ytcocmpblmkdmjaa.Pure
set_option linter.unusedVariables false
open Go.RowKit Go.Proofs.Ytcocmpblmkdmjaa.Pr Go.Proofs.YtcocmpblmkdmjaaW.PrintWords Go.Proofs.YtcocmpblmkdmjaaW.PrintLast
theorem NodeBack:latticelaw07_NodeBack.Stated:=by
 intro a en o ha hen ho
 obtain ⟨_,_,_,hh,⟨_,hl,hg⟩,⟨_,hv,_⟩,⟨_,hi,_⟩⟩:=ha
 obtain ⟨hk,hvv⟩:=hen
 refine Ev.rounds (g:=fun n=>latticelaw07_NodeBack.f n a.f0 a.f1 a.f2 a.f3 a.f4 a.f5 a.f6 en.f0 en.f1 o) ?_
 unfold latticelaw07_NodeBack.f backF
 generalize a.f0=lv at *
 generalize a.f1=lsn at *
 generalize a.f2=rt at *
 generalize a.f3=high at *
 generalize a.f4=keys at *
 generalize a.f5=vals at *
 generalize a.f6=kids at *
 generalize en.f0=k at *
 generalize en.f1=v at *
 rcases put_val lv lsn rt high keys vals kids hl hv hi hg k v hh hk with ⟨e,_,he,e1,_⟩|⟨z1,rfl,rfl,hvl,hn,hb,_⟩
 ·exact Ev.bind e1 (Ev.neg he (Ev.pos rfl (Ev.now _)))
 obtain ⟨es,rfl,rfl⟩:=ents_of hvl
 have hne:es.length≤256:=by simpa using hn
 have pa:=put_ents lsn rt high es k v hh hl hg hk z1
 cases hpa:nodeB 0 lsn rt high ((putE k v es).map Prod.fst) ((putE k v es).map Prod.snd) [] with
 | false =>
  rw [hpa] at pa
  exact Ev.bind pa (Ev.neg (show ¬ ((5:Int)=0) by decide) (Ev.pos rfl (Ev.now _)))
 | true =>
  rw [hpa] at pa
  have l1:=putE_len k v es
  obtain ⟨a1,a2⟩:=leaf_ok hpa (by omega)
  have gx:=get_val lsn rt high (putE k v es) k hh a1 a2
  rw [if_pos ((askV_same hpa hb k ⟨#[]⟩ 1 0).trans (askV_novalue z1))] at gx
  unfold getR at gx
  rw [get_put] at gx
  have gy:=get_val lsn rt high es o hh hl hg
  have gz:=get_val lsn rt high (putE k v es) o hh a1 a2
  rw [askV_same hpa hb o ⟨#[]⟩ 1 0] at gz
  obtain ⟨db,nb⟩:=del_ents lsn rt high (putE k v es) k hh a1 a2 ((askV_same hpa hb k ⟨#[]⟩ 1 0).trans (askV_novalue z1))
  obtain ⟨dc,nc⟩:=del_ents lsn rt high es k hh hl hg (askV_novalue z1)
  rw [del_put] at db nb
  have k1:(delE k es).length≤es.length:=List.length_filter_le _ _
  obtain ⟨c1,c2⟩:=leaf_ok nb (by omega)
  have gt:=get_val lsn rt high (delE k es) k hh c1 c2
  rw [if_pos ((askV_same nb hb k ⟨#[]⟩ 1 0).trans (askV_novalue z1))] at gt
  unfold getR at gt
  rw [get_del] at gt
  have rest:Ev (fun n=>backG n 0 lsn rt high (es.map Prod.fst) (es.map Prod.snd) [] k (leafR true lsn rt high (putE k v es))) true :=
   Ev.bind db (Ev.bind gt (Ev.bind dc (Ev.pos rfl (Ev.pos rfl (Ev.pos rfl (Ev.now _))))))
  refine Ev.bind pa (Ev.pos rfl (Ev.bind gx (Ev.bind gy (Ev.bind gz (Ev.pos rfl ?_)))))
  by_cases ho:o.toList=k.toList
  ·refine Ev.pos ho (Ev.pos ?_ rest)
   split
   ·unfold getR
    cases getE o es <;> cases getE o (putE k v es) <;> rfl
   ·rfl
  ·refine Ev.neg ho (Ev.pos ?_ rest)
   have hko:cb (L k) (L o)≠0:=fun e=>ho (tl_iff.2 e).symm
   unfold getR
   rw [get_put_other k v o hko]
end Go.Proofs.Ytcocmpblmkdmjaa.Pure
