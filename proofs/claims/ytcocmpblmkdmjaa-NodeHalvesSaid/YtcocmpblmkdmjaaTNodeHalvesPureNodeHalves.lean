-- A part of the text PureNodeHalves, thinned by a program of this session.
import Derived.Test.YtcocmpblmkdmjaaTNodeHalvesPureHalf
import Derived.Test.YtcocmpblmkdmjaaTNodeHalvesStNodeHalves
namespace Go.Proofs.Ytcocmpblmkdmjaa.Pure
set_option linter.unusedVariables false
open Go.RowKit Go.Proofs.Ytcocmpblmkdmjaa.Pr Go.Proofs.YtcocmpblmkdmjaaW.PrintWords Go.Proofs.YtcocmpblmkdmjaaW.PrintLast
theorem num_leaf (A1 B1 C D A3 B3 H S:Int) (h1:0≤A1) (h2:0≤B1) (h3:A1+B1≤20000) (h4:0≤C) (h5:C≤16) (h6:0≤D) (h7:D≤32) (h8:0≤A3) (h9:0≤B3) (h10:A3≤20000) (h11:B3≤20000) (h12:0≤H) (h13:H≤16) (h14:0≤S) (h15:S≤16)
  (ha:wrap64 (21+H+(A3+B3))≤256) (hb:A1=0∧B1=0∨wrap64 (2*(A1+B1)) < A3+B3):wrap64 (21+S+((A1+(2+C))+(B1+(2+D))))≤256:=by
 rw [ws _ (by omega) (by omega)] at ha
 rw [ws _ (by omega) (by omega)]
 rcases hb with hb|hb
 ·omega
 ·rw [ws _ (by omega) (by omega)] at hb
  omega
theorem num_inner (A1 C A3 H S p n:Int) (h1:0≤A1) (h3:A1+4*p≤20000) (h4:0≤C) (h5:C≤16) (h8:0≤A3) (h10:A3≤20000) (h12:0≤H) (h13:H≤16) (h14:0≤S) (h15:S≤16) (hp:0≤p) (hn:0≤n) (hn2:n≤256)
  (ha:wrap64 (21+H+(A3+4*(n+1)))≤256) (hb:A1+4*p=0∨wrap64 (2*(A1+4*p)) < A3+4*n):wrap64 (21+S+(A1+(2+C)+4*(p+2)))≤256:=by
 rw [ws _ (by omega) (by omega)] at ha
 rw [ws _ (by omega) (by omega)]
 rcases hb with hb|hb
 ·omega
 ·rw [ws _ (by omega) (by omega)] at hb
  omega
theorem split_half (lv lsn rt:Int) (high:ByteArray) (keys vals:List ByteArray) (kids:List Int) (hl:keys.length*16≤140737488351232) (hv:vals.length*16≤140737488351232) (hg:∀ y ∈ keys,y.size≤140737488351232) (hh:high.size≤140737488351232)
  (hb:nodeB lv lsn rt high keys vals kids=true) (h2:2≤keys.length):∃ p:Nat,1≤p∧p < keys.length∧Ev (fun n=>node_Split.f n lv lsn rt high keys vals kids) (sepK lv keys p,0)∧(p=1∨wrap64 (2*eSum lv keys vals (p - 1)) < eSum lv keys vals keys.length):=by
 have hc:=check_ev lv lsn rt high keys vals kids hl hv
 rw [if_pos hb] at hc
 have h0:=nodeB_lv hb
 obtain ⟨hn,hle,_⟩:=nodeB_small hb hh hl
 obtain ⟨ha,_,_⟩:=nodeB_facts hb
 have hvl:lv=0→vals.length=keys.length:=fun e=>(hle e).2
 obtain ⟨p,p1,p2,p3,p4⟩:=part_loop lv keys vals hn _ 1 (Nat.le_refl _) (by omega) rfl
 have hsz:=sz_of hg
 have hp1:wrap64 ((p:Int) - 1)=((p - 1:Nat):Int):=by rw [w64 (by omega) (by omega)];omega
 have hadj:=adj ha p (by omega) p2
 refine ⟨p,p1,p2,?_,p4⟩
 unfold node_Split.f
 refine Ev.bind hc (Ev.pos rfl (Ev.neg (by omega) (Ev.bind (parting_l0 lv lsn rt high keys vals kids hn h2 hvl _ p3 _ 0 (Nat.zero_le _) rfl) ?_)))
 by_cases e:lv > 0
 ·have q:sepK lv keys p=rdOf ByteArray.empty keys (p:Int):=if_pos e
  rw [q]
  exact Ev.pos e (Ev.pos (by omega) (Ev.pos (by omega) (Ev.now _)))
 ·have q:sepK lv keys p=(rdOf ByteArray.empty keys (p:Int)).extract 0 (com (K keys (p - 1)) (K keys p)+1):=if_neg e
  rw [q,hp1]
  refine Ev.neg e (Ev.pos (by omega) (Ev.pos (by omega) (Ev.pos (by omega) (Ev.pos (by omega) ?_))))
  exact Ev.bindc (keyBetween_lt _ _ (hsz _ (by omega)) (hsz _ p2) hadj) (Ev.now _)
theorem high_small {high:ByteArray} (h:high.toList=[]∨ckey high=0):(high.size:Int)≤16:=by
 rcases h with h|h
 ·have:=(tl_nil high).1 h
  omega
 ·have:=(key_size h).2
  omega
theorem further_true {s k:ByteArray} (h:furtherB s k=true):0≤cb (L k) (L s):=by
 by_cases c:cb (L k) (L s) < 0
 ·have:=further_false.2 (.inr c:s.toList=[]∨cb (L k) (L s) < 0)
  rw [h] at this
  cases this
 ·omega
theorem rd_drop (l:List Int) (n i:Nat) (h:n+i < l.length):rd (l.drop n) (i:Int)=rd l ((n+i:Nat):Int):=by
 rw [rdI_get (by rw [List.length_drop];omega),rdI_get h,List.getElem_drop]
theorem rd_take (l:List Int) (n i:Nat) (h:i < n) (h2:i < l.length):rd (l.take n) (i:Int)=rd l (i:Int):=by
 rw [rdI_get (by rw [List.length_take];omega),rdI_get h2,List.getElem_take]
theorem half_leaf (lsn rt:Int) (high:ByteArray) (es:List Ent) (hh:high.size≤140737488351232) (hg:∀ y ∈ es.map Prod.fst,y.size≤140737488351232) (hb:nodeB 0 lsn rt high (es.map Prod.fst) (es.map Prod.snd) []=true) (hn:es.length≤256) (p:Nat) (p1:1≤p) (p2:p < es.length) (hp:p=1∨wrap64 (2*eSum 0 (es.map Prod.fst) (es.map Prod.snd) (p - 1)) < eSum 0 (es.map Prod.fst) (es.map Prod.snd) (es.map Prod.fst).length) (num:Int) (hnum:1≤num∧num≤4096) (s:ByteArray) (hs:Sep high (es.map Prod.fst) s p) :
  nodeB 0 lsn num s ((es.take p).map Prod.fst) ((es.take p).map Prod.snd) []=true∧nodeB 0 lsn rt high ((es.drop p).map Prod.fst) ((es.drop p).map Prod.snd) []=true ∧
  Ev (fun n=>leftG n 0 lsn rt high (es.map Prod.fst) (es.map Prod.snd) [] s num) (0,lsn,num,s,(es.take p).map Prod.fst,(es.take p).map Prod.snd,[],0) ∧
  Ev (fun n=>restG n 0 lsn rt high (es.map Prod.fst) (es.map Prod.snd) [] s) (0,lsn,rt,high,(es.drop p).map Prod.fst,(es.drop p).map Prod.snd,[],0):=by
 obtain ⟨g1,g2,g3,g4,g5,g6,g7⟩:=(nodeB_iff _ _ _ _ _ _ _).1 hb
 obtain ⟨q1,_,q3⟩:=leaf_parts g5
 have kl:(es.map Prod.fst).length=es.length:=List.length_map _
 have vl:(es.map Prod.snd).length=es.length:=List.length_map _
 have k16:=keys_small ((kAll_iff _ _).2 g7)
 have v32:=vals_small q3
 have hL:nodeB 0 lsn num s ((es.take p).map Prod.fst) ((es.take p).map Prod.snd) []=true:=by
  refine nodeB_mk g1 g2 ⟨by omega,hnum.2⟩ (.inr hs.ok) ?_ ?_ (by rw [List.map_take];exact good_take g7 hs)
  ·unfold partsB
   rw [if_pos rfl]
   simp only [Bool.and_eq_true,decide_eq_true_eq,Bool.not_eq_true',List.any_eq_false] at q3 ⊢
   exact ⟨by simp,rfl,fun x hx=>q3 x (by rw [List.map_take] at hx;exact List.mem_of_mem_take hx)⟩
  ·have hi:p - 1 < (es.map Prod.fst).length:=by omega
   have hi2:p - 1 < (es.map Prod.snd).length:=by omega
   have b1:=k16 _ (List.getElem_mem hi)
   have b2:=v32 _ (List.getElem_mem hi2)
   have t1:=sz_take (es.map Prod.fst) (p - 1) hi
   have t2:=sz_take (es.map Prod.snd) (p - 1) hi2
   rw [show p - 1+1=p by omega] at t1 t2
   have u1:=eSum_leaf k16 v32 (by omega) (by omega) (p - 1) (by omega)
   have u2:=eSum_leaf k16 v32 (by omega) (by omega) (es.map Prod.fst).length (Nat.le_refl _)
   rw [List.take_length,show (es.map Prod.snd).take (es.map Prod.fst).length=es.map Prod.snd from List.take_of_length_le (by omega)] at u2
   have hb0:sz ((es.map Prod.fst).take (p - 1))=0∧sz ((es.map Prod.snd).take (p - 1))=0∨wrap64 (2*(sz ((es.map Prod.fst).take (p - 1))+sz ((es.map Prod.snd).take (p - 1)))) < sz (es.map Prod.fst)+sz (es.map Prod.snd):=by
    rcases hp with rfl|hp
    ·exact .inl ⟨rfl,rfl⟩
    ·rw [u1.1,u2.1] at hp
     exact .inr hp
   have hS:=(key_size hs.ok).2
   have hH:=high_small g4
   unfold szN at g6 ⊢
   rw [if_pos rfl] at g6 ⊢
   rw [List.map_take,List.map_take,t1,t2]
   have z1:=u1.2
   rw [u1.1] at z1
   have w1:=(sz_le 16 (es.map Prod.fst) k16).2
   have w2:=(sz_le 32 (es.map Prod.snd) v32).2
   refine num_leaf _ _ _ _ _ _ _ _ (sz_nonneg _) (sz_nonneg _) ?_ (Int.natCast_nonneg _) ?_ (Int.natCast_nonneg _) ?_ (sz_nonneg _) (sz_nonneg _) ?_ ?_ (Int.natCast_nonneg _) hH (Int.natCast_nonneg _) ?_ g6 hb0
   ·clear g6 hb0 u1 u2 t1 t2 w1 w2
    generalize sz ((es.map Prod.fst).take (p - 1))+sz ((es.map Prod.snd).take (p - 1))=X at *
    omega
   ·clear g6 hb0 u1 u2 t1 t2 w1 w2 z1
    omega
   ·clear g6 hb0 u1 u2 t1 t2 w1 w2 z1
    omega
   ·clear g6 hb0 u1 u2 t1 t2 w2 z1
    generalize sz (es.map Prod.fst)=X at *
    omega
   ·clear g6 hb0 u1 u2 t1 t2 w1 z1
    generalize sz (es.map Prod.snd)=X at *
    omega
   ·clear g6 hb0 u1 u2 t1 t2 w1 w2 z1
    omega
 have hR:nodeB 0 lsn rt high ((es.drop p).map Prod.fst) ((es.drop p).map Prod.snd) []=true :=
  nodeB_sub hb hh (by omega) ((List.drop_sublist p es).map _) ((List.drop_sublist p es).map _) (by simp)
 have e1:=parted_val (by omega) (by omega) (by decide) hg hb hs num hnum (fun e=>absurd rfl e)
 have e2:=parted_val (by omega) (by omega) (by decide) hg hb hs 1 ⟨by decide,by decide⟩ (fun e=>absurd rfl e)
 refine ⟨hL,hR,?_,?_⟩
 ·have q:Ev (fun n=>leftG n 0 lsn rt high (es.map Prod.fst) (es.map Prod.snd) [] s num) (partR (nodeB 0 lsn num s ((es.map Prod.fst).take p) ((es.map Prod.snd).take p) []) 0 lsn num s ((es.map Prod.fst).take p) ((es.map Prod.snd).take p) []) :=
   Ev.bind e1 (Ev.pos rfl (Ev.pos ⟨by omega,by omega,by omega,by omega,by decide⟩ (Ev.neg (by decide) (Ev.pos (by omega) (check_part _ _ _ _ _ _ _ (by rw [List.length_take];omega) (by rw [List.length_take];omega))))))
  rw [← List.map_take,← List.map_take,hL] at q
  exact q
 ·have q:Ev (fun n=>restG n 0 lsn rt high (es.map Prod.fst) (es.map Prod.snd) [] s) (0,lsn,rt,high,(es.map Prod.fst).drop p,(es.map Prod.snd).drop p,[],0) :=
   Ev.bind e2 (Ev.pos rfl (Ev.pos ⟨by omega,by omega,by omega,by decide⟩ (Ev.neg (by decide) (Ev.pos (by dsimp only;omega) (Ev.now _)))))
  rw [← List.map_drop,← List.map_drop] at q
  exact q
theorem half_inner (lv lsn rt:Int) (high:ByteArray) (keys:List ByteArray) (kids:List Int) (hh:high.size≤140737488351232) (hg:∀ y ∈ keys,y.size≤140737488351232) (hb:nodeB lv lsn rt high keys [] kids=true) (hlv:lv≠0) (hn:keys.length≤256) (hkl:kids.length=keys.length+1) (p:Nat) (p1:1≤p) (p2:p < keys.length) (hp:p=1∨wrap64 (2*eSum lv keys [] (p - 1)) < eSum lv keys [] keys.length) (num:Int) (hnum:1≤num∧num≤4096) (s:ByteArray) (hs:Sep high keys s p) (hc:cb (K keys p) (L s)=0) :
  nodeB lv lsn num s (keys.take p) [] (kids.take (p+1))=true∧nodeB lv lsn rt high (keys.drop (p+1)) [] (kids.drop (p+1))=true ∧
  Ev (fun n=>leftG n lv lsn rt high keys [] kids s num) (lv,lsn,num,s,keys.take p,[],kids.take (p+1),0) ∧
  Ev (fun n=>restG n lv lsn rt high keys [] kids s) (lv,lsn,rt,high,keys.drop (p+1),[],kids.drop (p+1),0):=by
 have h0:=nodeB_lv hb
 obtain ⟨g1,g2,g3,g4,g5,g6,g7⟩:=(nodeB_iff _ _ _ _ _ _ _).1 hb
 obtain ⟨_,_,q3⟩:=inner_parts hlv g5
 have k16:=keys_small ((kAll_iff _ _).2 g7)
 have w1:=(sz_le 16 keys k16).2
 have hH:=high_small g4
 have hL:nodeB lv lsn num s (keys.take p) [] (kids.take (p+1))=true:=by
  refine nodeB_mk g1 g2 ⟨by omega,hnum.2⟩ (.inr hs.ok) (inner_mk hlv (by rw [List.length_take,List.length_take];omega) (fun k hk=>q3 k (List.mem_of_mem_take hk))) ?_ (good_take g7 hs)
  have hi:p - 1 < keys.length:=by omega
  have b1:=k16 _ (List.getElem_mem hi)
  have t1:=sz_take keys (p - 1) hi
  rw [show p - 1+1=p by omega] at t1
  have u1:=eSum_inner hlv (vals:=[]) k16 hn (p - 1) (by omega)
  have u2:=eSum_inner hlv (vals:=[]) k16 hn keys.length (Nat.le_refl _)
  rw [List.take_length] at u2
  have hb0:sz (keys.take (p - 1))+4*((p - 1:Nat):Int)=0∨wrap64 (2*(sz (keys.take (p - 1))+4*((p - 1:Nat):Int))) < sz keys+4*(keys.length:Int):=by
   rcases hp with rfl|hp
   ·exact .inl rfl
   ·rw [u1.1,u2.1] at hp
    exact .inr hp
  have hS:=(key_size hs.ok).2
  have z1:=u1.2
  rw [u1.1] at z1
  unfold szN at g6 ⊢
  rw [if_neg hlv] at g6 ⊢
  rw [t1,show ((kids.take (p+1)).length:Int)=((p - 1:Nat):Int)+2 by rw [List.length_take];omega]
  rw [hkl,show ((keys.length+1:Nat):Int)=(keys.length:Int)+1 by omega] at g6
  refine num_inner _ _ _ _ _ _ _ (sz_nonneg _) ?_ (Int.natCast_nonneg _) ?_ (sz_nonneg _) ?_ (Int.natCast_nonneg _) hH (Int.natCast_nonneg _) ?_ (Int.natCast_nonneg _) (Int.natCast_nonneg _) ?_ g6 hb0
  ·clear g6 hb0 u1 u2 t1 w1
   generalize sz (keys.take (p - 1))=X at *
   omega
  ·clear g6 hb0 u1 u2 t1 w1 z1
   omega
  ·clear g6 hb0 u1 u2 t1 z1
   generalize sz keys=X at *
   omega
  ·clear g6 hb0 u1 u2 t1 w1 z1
   omega
  ·clear g6 hb0 u1 u2 t1 w1 z1
   omega
 have hR:nodeB lv lsn rt high (keys.drop (p+1)) [] (kids.drop (p+1))=true:=by
  refine nodeB_mk g1 g2 g3 g4 (inner_mk hlv (by rw [List.length_drop,List.length_drop];omega) (fun k hk=>q3 k (List.mem_of_mem_drop hk))) ?_ ⟨fun x hx=>g7.1 x (List.mem_of_mem_drop hx),g7.2.sublist (List.drop_sublist _ _)⟩
  have t:=sz_sub (List.drop_sublist (p+1) keys)
  have t0:=sz_nonneg (keys.drop (p+1))
  have t2:((kids.drop (p+1)).length:Int)≤(kids.length:Int):=by rw [List.length_drop];omega
  have t3:(0:Int)≤((kids.drop (p+1)).length:Int):=Int.natCast_nonneg _
  have t4:(kids.length:Int)≤257:=by omega
  unfold szN at g6 ⊢
  rw [if_neg hlv] at g6 ⊢
  generalize sz (keys.drop (p+1))=X at *
  have w1':sz keys≤20000:=by
   clear g6 t
   generalize sz keys=Y at *
   omega
  clear w1
  generalize sz keys=Y at *
  rw [ws _ (by omega) (by omega)] at g6 ⊢
  omega
 have e1:=parted_val (by omega) (by decide) (by omega) hg hb hs num hnum (fun _=>⟨p2,hc⟩)
 have e2:=parted_val (by omega) (by decide) (by omega) hg hb hs 1 ⟨by decide,by decide⟩ (fun _=>⟨p2,hc⟩)
 have hp1:(((p:Int)+1).toNat)=p+1:=by omega
 refine ⟨hL,hR,?_,?_⟩
 ·have q:Ev (fun n=>leftG n lv lsn rt high keys [] kids s num) (partR (nodeB lv lsn num s (keys.take p) [] (kids.take (p+1))) lv lsn num s (keys.take p) [] (kids.take (p+1))):=by
   refine Ev.bind e1 (Ev.pos rfl (Ev.pos ⟨by omega,by omega,by omega,by decide,by omega⟩ (Ev.pos (by omega) (Ev.pos (by dsimp only;omega) ?_))))
   dsimp only
   rw [hp1,Int.toNat_natCast]
   exact check_part _ _ _ _ _ _ _ (by rw [List.length_take];omega) (by decide)
  rw [hL] at q
  exact q
 ·refine Ev.bind e2 (Ev.pos rfl (Ev.pos ⟨by omega,by omega,by decide,by omega⟩ (Ev.pos (by omega) (Ev.pos (by dsimp only;omega) ?_))))
  dsimp only
  rw [hp1]
  exact Ev.now _
theorem NodeHalves:latticelaw07_NodeHalves.Stated:=by
 intro a num kk ha hnum hkk
 obtain ⟨_,_,_,hh,⟨_,hl,hg⟩,⟨_,hv,_⟩,⟨_,hi,_⟩⟩:=ha
 refine Ev.rounds (g:=fun n=>latticelaw07_NodeHalves.f n a.f0 a.f1 a.f2 a.f3 a.f4 a.f5 a.f6 num kk) ?_
 unfold latticelaw07_NodeHalves.f halvesF
 generalize a.f0=lv at *
 generalize a.f1=lsn at *
 generalize a.f2=rt at *
 generalize a.f3=high at *
 generalize a.f4=keys at *
 generalize a.f5=vals at *
 generalize a.f6=kids at *
 have hc:=check_ev lv lsn rt high keys vals kids hl hv
 by_cases hb:nodeB lv lsn rt high keys vals kids=true
 case neg =>
  rw [if_neg hb] at hc
  have e1:Ev (fun n=>node_Split.f n lv lsn rt high keys vals kids) (⟨#[]⟩,70):=Ev.bind hc (Ev.neg (by decide) (Ev.now _))
  exact Ev.bind e1 (Ev.neg (by decide) (Ev.now _))
 by_cases h2:2≤keys.length
 case neg =>
  rw [if_pos hb] at hc
  have e1:Ev (fun n=>node_Split.f n lv lsn rt high keys vals kids) (⟨#[]⟩,7):=Ev.bind hc (Ev.pos rfl (Ev.pos (by omega) (Ev.now _)))
  exact Ev.bind e1 (Ev.neg (by decide) (Ev.now _))
 obtain ⟨p,p1,p2,esp,hp⟩:=split_half lv lsn rt high keys vals kids hl hv hg hh hb h2
 refine Ev.bind esp (Ev.pos rfl ?_)
 by_cases n1:num < 1
 ·exact Ev.pos n1 (Ev.now _)
 refine Ev.neg n1 ?_
 by_cases n2:num > 4096
 ·exact Ev.pos n2 (Ev.now _)
 refine Ev.neg n2 ?_
 have hnum':1≤num∧num≤4096:=⟨by omega,by omega⟩
 obtain ⟨hn,hle,hin⟩:=nodeB_small hb hh hl
 obtain ⟨ha,_,_⟩:=nodeB_facts hb
 have hgk:=(kAll_iff _ _).1 ha
 have h0:=nodeB_lv hb
 by_cases e:lv=0
 ·subst e
  obtain ⟨rfl,hvl⟩:=hle rfl
  obtain ⟨es,rfl,rfl⟩:=ents_of hvl
  have hne:es.length≤256:=by simpa using hn
  have hpe:p < es.length:=by simpa using p2
  have hs:Sep high (es.map Prod.fst) (sepK 0 (es.map Prod.fst) p) p:=sep_leaf hgk p p1 p2 _ rfl
  generalize sepK 0 (es.map Prod.fst) p=s at *
  obtain ⟨hL,hR,eL,eR⟩:=half_leaf lsn rt high es hh hg hb hne p p1 hpe hp num hnum' s hs
  have hsz:=(key_size hs.ok)
  have kL:=leaf_ok hL (by rw [List.length_take];omega)
  have kR:=leaf_ok hR (by rw [List.length_drop];omega)
  have rL:=right_ev 0 lsn num s ((es.take p).map Prod.fst) ((es.take p).map Prod.snd) [] kL.1 (by simpa using kL.1) (by decide) kL.2
  have rR:=right_ev 0 lsn rt high ((es.drop p).map Prod.fst) ((es.drop p).map Prod.snd) [] kR.1 (by simpa using kR.1) (by decide) kR.2
  rw [hL] at rL
  rw [hR] at rR
  refine Ev.bind eL (Ev.bind eR (Ev.bind rL (Ev.bind rR (Ev.pos ?_ ?_))))
  ·unfold halvesC
   simp only [Bool.and_eq_true,decide_eq_true_eq]
   refine ⟨trivial,trivial,trivial,trivial,trivial,trivial,trivial,trivial,?_,fun _=>?_⟩
   ·rw [List.length_map,List.length_take];omega
   ·rw [List.length_map,List.length_drop];omega
  refine Ev.bindc (refCheck kk) ?_
  by_cases ck:ckey kk=0
  case neg=>exact Ev.neg ck (Ev.now _)
  refine Ev.pos ck (Ev.bindc (further_ev _ _ _ _ _ _ _ _) ?_)
  cases hf:furtherB high kk with
  | true=>exact Ev.pos rfl (Ev.now _)
  | false =>
   refine Ev.neg (by decide) (Ev.bindc (further_ev _ _ _ _ _ _ _ _) (Ev.pos rfl ?_))
   have gn:=get_val lsn rt high es kk hh hl hg
   rw [if_pos (askV_ok hb ck ⟨by decide,by decide⟩ (fun _=>rfl) (fun e=>absurd e (by decide)) hf)] at gn
   have gr:=get_val lsn rt high (es.drop p) kk hh kR.1 kR.2
   rw [if_pos (askV_ok hR ck ⟨by decide,by decide⟩ (fun _=>rfl) (fun e=>absurd e (by decide)) hf)] at gr
   have hsplit:=getE_append kk (es.take p) (es.drop p)
   rw [List.take_append_drop] at hsplit
   refine Ev.bind gn (Ev.bind gr (Ev.pos ⟨by simp;omega,by simp;omega⟩ ?_))
   have hlow:=at_take hs.at'
   have hhigh:=at_drop hs.at'
   rw [← List.map_take] at hlow
   rw [← List.map_drop] at hhigh
   cases hfl:furtherB s kk with
   | true =>
    have hge:=further_true hfl
    have hno:getE kk (es.take p)=none:=getE_none _ (fun x hx e=>by
     have h1:=hlow x hx
     rw [cb_eq e] at h1
     omega)
    rw [hno] at hsplit
    refine Ev.pos rfl (Ev.pos ?_ (Ev.now _))
    unfold getR
    rw [hsplit]
    cases getE kk (es.drop p) <;> rfl
   | false =>
    have hlt:cb (L kk) (L s) < 0:=by
     rcases further_false.1 hfl with h|h
     ·have:=(tl_nil s).1 h
      omega
     ·exact h
    have hno:getE kk (es.drop p)=none:=getE_none _ (fun x hx e=>by
     have h1:=hhigh x hx
     rw [cb_eq e] at h1
     omega)
    rw [hno] at hsplit
    have gl:=get_val lsn num s (es.take p) kk (by omega) kL.1 kL.2
    rw [if_pos (askV_ok hL ck ⟨by decide,by decide⟩ (fun _=>rfl) (fun e=>absurd e (by decide)) hfl)] at gl
    refine Ev.neg (by decide) (Ev.pos ?_ (Ev.bind gl (Ev.pos ?_ (Ev.now _))))
    ·unfold getR
     rw [hno]
    ·unfold getR
     rw [hsplit]
     cases getE kk (es.take p) <;> rfl
 ·obtain ⟨rfl,hkl⟩:=hin e
  have hsk:sepK lv keys p=keys[p]:=by
   unfold sepK
   rw [if_pos (by omega),rd_get p2]
  have hs:Sep high keys (sepK lv keys p) p:=by
   rw [hsk]
   exact sep_inner hgk p p2
  have hc:cb (K keys p) (L (sepK lv keys p))=0:=by
   rw [hsk,K_get p2]
   exact (cb_zero _ _).2 rfl
  generalize sepK lv keys p=s at *
  obtain ⟨hL,hR,eL,eR⟩:=half_inner lv lsn rt high keys kids hh hg hb e hn hkl p p1 p2 hp num hnum' s hs hc
  have hsz:=(key_size hs.ok)
  have rL:=right_ev lv lsn num s (keys.take p) [] (kids.take (p+1)) (by rw [List.length_take];omega) (by decide) (by rw [List.length_take];omega) (fun y hy=>hg y (List.mem_of_mem_take hy))
  have rR:=right_ev lv lsn rt high (keys.drop (p+1)) [] (kids.drop (p+1)) (by rw [List.length_drop];omega) (by decide) (by rw [List.length_drop];omega) (fun y hy=>hg y (List.mem_of_mem_drop hy))
  rw [hL] at rL
  rw [hR] at rR
  refine Ev.bind eL (Ev.bind eR (Ev.bind rL (Ev.bind rR (Ev.pos ?_ ?_))))
  ·unfold halvesC
   simp only [Bool.and_eq_true,decide_eq_true_eq]
   refine ⟨trivial,trivial,trivial,trivial,trivial,trivial,trivial,trivial,?_,fun h=>absurd h e⟩
   rw [List.length_take];omega
  refine Ev.bindc (refCheck kk) ?_
  by_cases ck:ckey kk=0
  case neg=>exact Ev.neg ck (Ev.now _)
  refine Ev.pos ck (Ev.bindc (further_ev _ _ _ _ _ _ _ _) ?_)
  cases hf:furtherB high kk with
  | true=>exact Ev.pos rfl (Ev.now _)
  | false =>
   refine Ev.neg (by decide) (Ev.bindc (further_ev _ _ _ _ _ _ _ _) (Ev.neg e (Ev.pos (by omega) ?_)))
   have kn:=kid_val hn hkl hg hb e ck hf
   have hlow:=at_take hs.at'
   have hhigh:=at_drop hs.at'
   refine Ev.bind kn ?_
   cases hfl:furtherB s kk with
   | true =>
    have hge:=further_true hfl
    have n1:=cb_neg (L kk) (L s)
    have kr:=kid_val (kids:=kids.drop (p+1)) (by rw [List.length_drop];omega) (by rw [List.length_drop,List.length_drop];omega) (fun y hy=>hg y (List.mem_of_mem_drop hy)) hR e ck hf
    refine Ev.pos rfl (Ev.bind kr (Ev.pos ?_ (Ev.now _)))
    have c1:cnt (keys.take (p+1)) kk=p+1:=by
     rw [cnt_low _ ?_,List.length_take]
     ·omega
     ·intro x hx
      rw [← take_more p2] at hx
      rcases List.mem_append.1 hx with hx|hx
      ·have:=(cb_trans (L x) (L s) (L kk) (by have:=hlow x hx;omega) (by omega)).1
       exact this
      ·rw [List.mem_singleton.1 hx,← K_get p2,cb_eq hc]
       omega
    have c2:=cnt_append (keys.take (p+1)) (keys.drop (p+1)) kk
    rw [List.take_append_drop,c1] at c2
    have c3:=cnt_le (keys.drop (p+1)) kk
    rw [List.length_drop] at c3
    show (rd (kids.drop (p+1)) (cnt (keys.drop (p+1)) kk:Int),(0:Int))=(rd kids (cnt keys kk:Int),0)
    rw [rd_drop _ _ _ (by omega),c2]
   | false =>
    have hlt:cb (L kk) (L s) < 0:=by
     rcases further_false.1 hfl with h|h
     ·have:=(tl_nil s).1 h
      omega
     ·exact h
    have kl:=kid_val (kids:=kids.take (p+1)) (by rw [List.length_take];omega) (by rw [List.length_take,List.length_take];omega) (fun y hy=>hg y (List.mem_of_mem_take hy)) hL e ck hfl
    refine Ev.neg (by decide) (Ev.bind kl (Ev.pos ?_ (Ev.now _)))
    have c1:cnt (keys.drop p) kk=0:=cnt_high _ (fun x hx=>by
     have h1:=hhigh x hx
     have n1:=cb_neg (L x) (L s)
     have n2:=cb_neg (L x) (L kk)
     have:=cb_lt_trans (a:=L kk) (b:=L s) (c:=L x)
     by_cases z:cb (L s) (L x) < 0
     ·have:=this hlt z
      omega
     ·have z0:cb (L s) (L x)=0:=by omega
      rw [← cb_eq z0]
      have n3:=cb_neg (L s) (L kk)
      omega)
    have c2:cnt keys kk=cnt (keys.take p) kk:=by
     have:cnt keys kk=cnt (keys.take p) kk+cnt (keys.drop p) kk:=by rw [← cnt_append,List.take_append_drop]
     omega
    have c3:=cnt_le (keys.take p) kk
    rw [List.length_take] at c3
    show (rd (kids.take (p+1)) (cnt (keys.take p) kk:Int),(0:Int))=(rd kids (cnt keys kk:Int),0)
    rw [rd_take _ _ _ (by omega) (by omega),c2]
end Go.Proofs.Ytcocmpblmkdmjaa.Pure
