-- A part of the text PureNodeTurns, thinned by a program of this session.
import Derived.Test.YtcocmpblmkdmjaaTNodeTurnsPureEnt
import Derived.Test.YtcocmpblmkdmjaaTNodeTurnsStNodeTurns
namespace Go.Proofs.Ytcocmpblmkdmjaa.Pure
set_option linter.unusedVariables false
open Go.RowKit Go.Proofs.Ytcocmpblmkdmjaa.Pr Go.Proofs.YtcocmpblmkdmjaaW.PrintWords Go.Proofs.YtcocmpblmkdmjaaW.PrintLast
theorem NodeTurns:latticelaw07_NodeTurns.Stated:=by
 intro a ea eb ha hea heb
 obtain ⟨_,_,_,hh,⟨_,hl,hg⟩,⟨_,hv,_⟩,⟨_,hi,_⟩⟩:=ha
 obtain ⟨hka,hva⟩:=hea
 obtain ⟨hkb,hvb⟩:=heb
 refine Ev.rounds (g:=fun n=>latticelaw07_NodeTurns.f n a.f0 a.f1 a.f2 a.f3 a.f4 a.f5 a.f6 ea.f0 ea.f1 eb.f0 eb.f1) ?_
 unfold latticelaw07_NodeTurns.f turnsF
 generalize a.f0=lv at *
 generalize a.f1=lsn at *
 generalize a.f2=rt at *
 generalize a.f3=high at *
 generalize a.f4=keys at *
 generalize a.f5=vals at *
 generalize a.f6=kids at *
 generalize ea.f0=ka at *
 generalize ea.f1=va at *
 generalize eb.f0=kb at *
 generalize eb.f1=vb at *
 by_cases hk:ka.toList=kb.toList
 ·exact Ev.pos hk (Ev.now _)
 refine Ev.neg hk ?_
 have hab:cb (L ka) (L kb)≠0:=fun e=>hk (tl_iff.2 e)
 obtain ⟨q0,eq0,_⟩:=put_ev lv lsn rt high keys vals kids hl hv hi hg kb vb hh hkb
 rcases put_val lv lsn rt high keys vals kids hl hv hi hg ka va hh hka with ⟨e,_,he,e1,_⟩|⟨z1,rfl,rfl,hvl,hn,hb,_⟩
 ·exact Ev.bind e1 (Ev.bind eq0 (Ev.neg he (Ev.now _)))
 obtain ⟨es,rfl,rfl⟩:=ents_of hvl
 have hne:es.length≤256:=by simpa using hn
 have pa:=put_ents lsn rt high es ka va hh hl hg hka z1
 rcases put_val 0 lsn rt high (es.map Prod.fst) (es.map Prod.snd) [] hl hv hi hg kb vb hh hkb with ⟨e,_,he,e2,_⟩|⟨z2,_⟩
 ·cases hpa:nodeB 0 lsn rt high ((putE ka va es).map Prod.fst) ((putE ka va es).map Prod.snd) [] with
  | false =>
   rw [hpa] at pa
   exact Ev.bind pa (Ev.bind e2 (Ev.neg (show ¬ ((5:Int)=0) by decide) (Ev.now _)))
  | true =>
   rw [hpa] at pa
   exact Ev.bind pa (Ev.bind e2 (Ev.pos rfl (Ev.neg he (Ev.now _))))
 have pb:=put_ents lsn rt high es kb vb hh hl hg hkb z2
 cases hpa:nodeB 0 lsn rt high ((putE ka va es).map Prod.fst) ((putE ka va es).map Prod.snd) [] with
 | false =>
  rw [hpa] at pa
  exact Ev.bind pa (Ev.bind pb (Ev.neg (show ¬ ((5:Int)=0) by decide) (Ev.now _)))
 | true =>
  rw [hpa] at pa
  cases hpb:nodeB 0 lsn rt high ((putE kb vb es).map Prod.fst) ((putE kb vb es).map Prod.snd) [] with
  | false =>
   rw [hpb] at pb
   exact Ev.bind pa (Ev.bind pb (Ev.pos rfl (Ev.neg (show ¬ ((5:Int)=0) by decide) (Ev.now _))))
  | true =>
   rw [hpb] at pb
   have l1:=putE_len ka va es
   have l2:=putE_len kb vb es
   obtain ⟨a1,a2⟩:=leaf_ok hpa (by omega)
   obtain ⟨b1,b2⟩:=leaf_ok hpb (by omega)
   have px:=put_ents lsn rt high (putE ka va es) kb vb hh a1 a2 hkb ((askV_same hpa hb kb vb 1 0).trans z2)
   have py:=put_ents lsn rt high (putE kb vb es) ka va hh b1 b2 hka ((askV_same hpb hb ka va 1 0).trans z1)
   rw [putE_comm ka kb va vb hab] at px
   obtain ⟨du,nu⟩:=del_ents lsn rt high es ka hh hl hg (askV_novalue z1)
   obtain ⟨dv,nv⟩:=del_ents lsn rt high es kb hh hl hg (askV_novalue z2)
   have k1:(delE ka es).length≤es.length:=List.length_filter_le _ _
   have k2:(delE kb es).length≤es.length:=List.length_filter_le _ _
   obtain ⟨c1,c2⟩:=leaf_ok nu (by omega)
   obtain ⟨d1,d2⟩:=leaf_ok nv (by omega)
   obtain ⟨ds,_⟩:=del_ents lsn rt high (delE ka es) kb hh c1 c2 ((askV_same nu hb kb ⟨#[]⟩ 1 0).trans (askV_novalue z2))
   obtain ⟨dt,_⟩:=del_ents lsn rt high (delE kb es) ka hh d1 d2 ((askV_same nv hb ka ⟨#[]⟩ 1 0).trans (askV_novalue z1))
   rw [delE_comm ka kb] at ds
   exact Ev.bind pa (Ev.bind pb (Ev.pos rfl (Ev.pos rfl (Ev.bind px (Ev.bind py (Ev.pos rfl (Ev.bind du (Ev.bind dv (Ev.bind ds (Ev.bind dt (Ev.pos rfl (Ev.pos rfl (Ev.now _)))))))))))))
end Go.Proofs.Ytcocmpblmkdmjaa.Pure
