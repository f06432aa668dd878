-- A part of the text PurePost, thinned by a program of this session.
import Derived.Test.YtcocmpblmkdmjaaTNodePostsPurePut
import Derived.Test.YtcocmpblmkdmjaaTNodePostsPrx22
import Derived.Test.YtcocmpblmkdmjaaTNodePostsPrx15
import Derived.Test.YtcocmpblmkdmjaaTNodePostsNodePost
namespace Go.Proofs.Ytcocmpblmkdmjaa.Pure
set_option linter.unusedVariables false
open Go.RowKit Go.Proofs.Ytcocmpblmkdmjaa.Pr Go.Proofs.YtcocmpblmkdmjaaW.PrintWords Go.Proofs.YtcocmpblmkdmjaaW.PrintLast
def pfin (n:Nat) (lv lsn rt:Int) (high:ByteArray) (ks:List ByteArray) (kd:List Int):Option E8 :=
 (latticeref06_Right.f n lv lsn rt high ks [] kd).bind fun t=>if t=true then some (lv,lsn,rt,high,ks,[],kd,(0:Int)) else some (0,0,0,(⟨#[]⟩:ByteArray),([]:List ByteArray),([]:List ByteArray),([]:List Int),5)
theorem rpost_done (lv lsn rt:Int) (high k:ByteArray) (kid:Int) (keys:List ByteArray) (kids:List Int) (hl:keys.length≤256) (hkl:kids.length=keys.length+1) (R:E8):∀ (d i:Nat),i≤keys.length→keys.length - i=d→(∀ j,i≤j→j < keys.length→0 < cb (K keys j) (L k))→∀ (ks:List ByteArray) (kd:List Int),ks.length≤i+1→kd.length≤i+2 →
  Ev (fun n=>pfin n lv lsn rt high (ks++keys.drop i) (kd++kids.drop (i+1))) R →
  Ev (fun n=>latticeref07_Post.l0 n k kid true keys (keys.length:Int) (i:Int) lv lsn rt high keys [] kids lv lsn rt high ks [] kd) R:=by
 intro d
 induction d with
 | zero =>
  intro i g1 g2 g3 ks kd l1 l2 hf
  obtain rfl:i=keys.length:=by omega
  rw [List.drop_length,show kids.drop (keys.length+1)=[] by rw [← hkl,List.drop_length],List.append_nil,List.append_nil] at hf
  refine Ev.step (fun _=>latticeref07_Post.l0.eq_2 _ _ _ _ _ _ _ _ _ _ _ _ _ _ _ _ _ _ _ _ _) ?_
  exact Ev.neg (by omega) (Ev.pos rfl hf)
 | succ d ih =>
  intro i g1 g2 g3 ks kd l1 l2 hf
  have hi:i < keys.length:=by omega
  have hi2:i+1 < kids.length:=by omega
  have hc:0 < cb (L (rdOf ByteArray.empty keys (i:Int))) (L k):=g3 i (Nat.le_refl _) hi
  have hne:¬ (rdOf ByteArray.empty keys (i:Int)).toList=k.toList:=fun e=>by
   rw [tl_iff] at e
   omega
  have hw:wrap64 ((i:Int)+1)=((i+1:Nat):Int):=by rw [w64 (by omega) (by omega)];omega
  refine Ev.step (fun _=>latticeref07_Post.l0.eq_2 _ _ _ _ _ _ _ _ _ _ _ _ _ _ _ _ _ _ _ _ _) ?_
  refine Ev.pos (by omega) (Ev.pos (by omega) (Ev.pos (by omega) (Ev.neg hne (Ev.pos rfl (Ev.pos (by omega) (Ev.pos (by omega) (Ev.pos (by omega) (Ev.pos (by omega) ?_))))))))
  rw [rd_get hi,hw,rdI_get hi2]
  refine ih (i+1) (by omega) (by omega) (fun j h1 h2=>g3 j (by omega) h2) (ks++[keys[i]]) (kd++[kids[i+1]]) (by simp;omega) (by simp;omega) ?_
  rw [List.append_assoc,List.append_assoc,List.singleton_append,List.singleton_append,← List.drop_eq_getElem_cons hi,← List.drop_eq_getElem_cons hi2]
  exact hf
def postR (lv lsn rt:Int) (high:ByteArray) (keys:List ByteArray) (kids:List Int) (k:ByteArray) (kid:Int) (p:Nat):E8 :=
 if p < keys.length∧cb (K keys p) (L k)=0 then (if rd kids ((p:Int)+1)=kid then partR (nodeB lv lsn rt high keys [] kids) lv lsn rt high keys [] kids else (0,0,0,⟨#[]⟩,[],[],[],4))
 else partR (nodeB lv lsn rt high (keys.take p++k::keys.drop p) [] (kids.take (p+1)++kid::kids.drop (p+1))) lv lsn rt high (keys.take p++k::keys.drop p) [] (kids.take (p+1)++kid::kids.drop (p+1))
theorem rpost_at (lv lsn rt:Int) (high k:ByteArray) (kid:Int) (keys:List ByteArray) (kids:List Int) (hl:keys.length≤256) (hkl:kids.length=keys.length+1) (hg:∀ y ∈ keys,y.size≤140737488351232) (hks:k.size≤140737488351232) (p:Nat) (hp:At keys k p):∀ (d i:Nat),i≤p→p - i=d →
  Ev (fun n=>latticeref07_Post.l0 n k kid false keys (keys.length:Int) (i:Int) lv lsn rt high keys [] kids lv lsn rt high (keys.take i) [] (kids.take (i+1))) (postR lv lsn rt high keys kids k kid p):=by
 obtain ⟨h1,h2,h3,h4⟩:=hp
 have hsz:=sz_of hg
 intro d
 induction d with
 | zero =>
  intro i g1 g2
  obtain rfl:i=p:=by omega
  refine Ev.step (fun _=>latticeref07_Post.l0.eq_2 _ _ _ _ _ _ _ _ _ _ _ _ _ _ _ _ _ _ _ _ _) ?_
  by_cases c:i < keys.length
  ·have h3:=h3 c
   have c2:i+1 < kids.length:=by omega
   have hw:wrap64 ((i:Int)+1)=((i+1:Nat):Int):=by rw [w64 (by omega) (by omega)];omega
   have hw2:(i:Int)+1=((i+1:Nat):Int):=by omega
   refine Ev.pos (by omega) (Ev.pos (by omega) (Ev.pos (by omega) ?_))
   unfold postR
   by_cases e:cb (K keys i) (L k)=0
   ·rw [if_pos ⟨c,e⟩]
    have e':(rdOf ByteArray.empty keys (i:Int)).toList=k.toList:=tl_iff.2 e
    refine Ev.pos e' (Ev.pos (by omega) (Ev.pos (by omega) ?_))
    rw [hw,hw2]
    by_cases ek:rd kids ((i+1:Nat):Int)=kid
    ·rw [if_pos ek]
     refine Ev.pos ek (Ev.pos (by rw [List.length_take];omega) (Ev.pos (by rw [List.length_take];omega) ?_))
     rw [rd_get c,rdI_get c2,take_more c,take_more c2]
     refine rpost_done lv lsn rt high k kid keys kids hl hkl _ _ (i+1) (by omega) rfl (fun j j1 j2=>h4 j (by omega) j2) _ _ (by rw [List.length_take];omega) (by rw [List.length_take];omega) ?_
     rw [List.take_append_drop,List.take_append_drop]
     exact right_part lv lsn rt high keys [] kids (by omega) (by decide) (by omega) hg
    ·rw [if_neg ek]
     exact Ev.neg ek (Ev.now _)
   ·rw [if_neg (fun h=>e h.2)]
    have e':¬ (rdOf ByteArray.empty keys (i:Int)).toList=k.toList:=fun h=>e (tl_iff.1 h)
    have hgt:cb (L (rdOf ByteArray.empty keys (i:Int))) (L k) > 0:=by
     have e0:cb (L (rdOf ByteArray.empty keys (i:Int))) (L k)≠0:=e
     have h30:0≤cb (L (rdOf ByteArray.empty keys (i:Int))) (L k):=h3
     omega
    refine Ev.neg e' (Ev.neg (by decide) (Ev.bind (cmp_ev _ _ (hsz i c)) (Ev.pos hgt (Ev.pos (by rw [List.length_take];omega) (Ev.bindc rfl (Ev.pos (by rw [List.length_take];omega) (Ev.bindc rfl (Ev.pos (by rw [List.length_append,List.length_take];simp;omega) (Ev.pos (by omega) (Ev.pos (by omega) (Ev.pos (by rw [List.length_append,List.length_take];simp;omega) ?_)))))))))))
    rw [rd_get c,hw,rdI_get c2]
    refine rpost_done lv lsn rt high k kid keys kids hl hkl _ _ (i+1) (by omega) rfl (fun j j1 j2=>h4 j (by omega) j2) (keys.take i++[k]++[keys[i]]) (kids.take (i+1)++[kid]++[kids[i+1]]) (by simp;omega) (by simp;omega) ?_
    rw [List.append_assoc,List.append_assoc,List.append_assoc,List.append_assoc,List.singleton_append,List.singleton_append,List.singleton_append,List.singleton_append,← List.drop_eq_getElem_cons c,← List.drop_eq_getElem_cons c2]
    refine right_part lv lsn rt high _ [] _ (by simp;omega) (by decide) (by simp;omega) ?_
    intro y hy
    rcases List.mem_append.1 hy with hy|hy
    ·exact hg y (List.mem_of_mem_take hy)
    ·rcases List.mem_cons.1 hy with rfl|hy
     ·exact hks
     ·exact hg y (List.mem_of_mem_drop hy)
  ·obtain rfl:i=keys.length:=by omega
   unfold postR
   rw [if_neg (fun h=>c h.1)]
   refine Ev.neg (by omega) (Ev.neg (by decide) (Ev.pos (by rw [List.length_take];omega) (Ev.bindc rfl (Ev.pos (by rw [List.length_take];omega) (Ev.bindc rfl ?_)))))
   rw [List.drop_length,show kids.drop (keys.length+1)=[] by rw [← hkl,List.drop_length]]
   refine right_part lv lsn rt high _ [] _ (by simp;omega) (by decide) (by simp;omega) ?_
   intro y hy
   rcases List.mem_append.1 hy with hy|hy
   ·exact hg y (List.mem_of_mem_take hy)
   ·rw [List.mem_singleton.1 hy]
    exact hks
 | succ d ih =>
  intro i g1 g2
  have ih:=ih (i+1) (by omega) (by omega)
  have hi:i < keys.length:=by omega
  have hi2:i+1 < kids.length:=by omega
  have hc:cb (L (rdOf ByteArray.empty keys (i:Int))) (L k) < 0:=h2 i (by omega)
  have hne:¬ (rdOf ByteArray.empty keys (i:Int)).toList=k.toList:=fun e=>by
   rw [tl_iff] at e
   omega
  have hw:wrap64 ((i:Int)+1)=((i+1:Nat):Int):=by rw [w64 (by omega) (by omega)];omega
  refine Ev.step (fun _=>latticeref07_Post.l0.eq_2 _ _ _ _ _ _ _ _ _ _ _ _ _ _ _ _ _ _ _ _ _) ?_
  refine Ev.pos (by omega) (Ev.pos (by omega) (Ev.pos (by omega) (Ev.neg hne (Ev.neg (by decide) (Ev.bind (cmp_ev _ _ (hsz i hi)) (Ev.neg (by omega) (Ev.pos (by rw [List.length_take];omega) (Ev.pos (by omega) (Ev.pos (by omega) (Ev.pos (by rw [List.length_take];omega) ?_))))))))))
  rw [rd_get hi,hw,rdI_get hi2,take_more hi,take_more hi2]
  exact ih
theorem post_ev (lv lsn rt:Int) (high:ByteArray) (keys vals:List ByteArray) (kids:List Int) (hl:keys.length*16≤140737488351232) (hv:vals.length*16≤140737488351232) (hk:kids.length*8≤140737488351232) (hg:∀ y ∈ keys,y.size≤140737488351232) (k:ByteArray) (kid:Int) (hh:high.size≤140737488351232) (hks:k.size≤140737488351232) :
  ∃ r,Ev (fun n=>postG n lv lsn rt high keys vals kids k kid) r∧Ev (fun n=>latticeref07_Post.f n lv lsn rt high keys vals kids k kid) r∧Small r:=by
 have ha:=asked_ev lv lsn rt high keys vals kids hl hv hk hg k ⟨#[]⟩ kid 1
 have hr:=rasked_ev lv lsn rt high keys vals kids hl hv hk hg k ⟨#[]⟩ kid 1 hh
 by_cases he:askV lv lsn rt high keys vals kids k ⟨#[]⟩ kid 1=0
 ·obtain ⟨hb,_,hlv⟩:=askV_zero he
  have hlv:=hlv rfl
  obtain ⟨hn,_,hin⟩:=nodeB_small hb hh hl
  obtain ⟨rfl,hkl⟩:=hin hlv
  obtain ⟨hs,_,_⟩:=nodeB_facts hb
  obtain ⟨p,hp,hpl⟩:=place_at hs k
  have hple:=hp.le
  rw [he] at ha hr
  refine ⟨postR lv lsn rt high keys kids k kid p,Ev.bind ha (Ev.pos rfl (Ev.pos ⟨by omega,by decide,by omega⟩ (Ev.bindc hpl ?_))),Ev.bind hr (Ev.pos rfl (Ev.bindc rfl (Ev.pos (by omega) (Ev.pos (by show (0:Nat) < 17592186044416;decide) ?_)))),?_⟩
  rotate_right
  ·unfold postR
   split
   ·split
    ·exact small_part _ _ _ _ _ _ _ _ (by omega) (by decide) (by omega)
    ·exact small_err 4
   ·exact small_part _ _ _ _ _ _ _ _ (by simp;omega) (by decide) (by simp;omega)
  ·unfold postR
   by_cases c:p < keys.length∧cb (K keys p) (L k)=0
   ·rw [if_pos c]
    refine Ev.pos (decide_eq_true c) (Ev.pos ⟨by omega,by dsimp only;omega⟩ ?_)
    by_cases e:rd kids ((p:Int)+1)=kid
    ·rw [if_pos e]
     exact Ev.pos e (check_part lv lsn rt high keys [] kids (by omega) (by decide))
    ·rw [if_neg e]
     exact Ev.neg e (Ev.now _)
   ·rw [if_neg c]
    refine Ev.neg (by simpa using c) (Ev.pos ⟨by omega,by dsimp only;omega,by dsimp only;omega⟩ ?_)
    dsimp only
    rw [Int.toNat_natCast]
    exact check_part lv lsn rt high _ [] _ (by simp;omega) (by decide)
  ·have q:=rpost_at lv lsn rt high k kid keys kids hn hkl hg hks p hp _ 0 (Nat.zero_le _) rfl
   have q2:kids.take (0+1)=[]++[rd kids 0]:=by
    have:=take_more (l:=kids) (i:=0) (by omega)
    rw [← this,← rdI_get (by omega)]
    rfl
   rw [q2] at q
   exact q
 ·exact ⟨_,Ev.bind ha (Ev.neg he (Ev.now _)),Ev.bind hr (Ev.neg he (Ev.now _)),small_err _⟩
theorem texts_l0 (l:List ByteArray) (hl:l.length≤8796093022208):∀ (d i:Nat),i≤l.length→l.length - i=d→Ev (fun n=>latticeplain_Texts.l0 n l l (l.length:Int) (i:Int)) true:=by
 intro d
 induction d with
 | zero =>
  intro i g1 g2
  refine Ev.step (fun _=>latticeplain_Texts.l0.eq_2 _ _ _ _ _) ?_
  exact Ev.neg (by omega) (Ev.now _)
 | succ d ih =>
  intro i g1 g2
  refine Ev.step (fun _=>latticeplain_Texts.l0.eq_2 _ _ _ _ _) ?_
  refine Ev.pos (by omega) (Ev.pos (by omega) (Ev.pos (by omega) (Ev.pos (by omega) (Ev.pos rfl ?_))))
  rw [w64 (by omega) (by omega)]
  exact ih (i+1) (by omega) (by omega)
theorem texts_ev (l:List ByteArray) (hl:l.length≤8796093022208):Ev (fun n=>latticeplain_Texts.f n l l) true:=Ev.pos rfl (texts_l0 l hl _ 0 (Nat.zero_le _) rfl)
theorem ints_l0 (l:List Int) (hl:l.length≤8796093022208):∀ (d i:Nat),i≤l.length→l.length - i=d→Ev (fun n=>latticeplain_Ints.l0 n l l (l.length:Int) (i:Int)) true:=by
 intro d
 induction d with
 | zero =>
  intro i g1 g2
  refine Ev.step (fun _=>latticeplain_Ints.l0.eq_2 _ _ _ _ _) ?_
  exact Ev.neg (by omega) (Ev.now _)
 | succ d ih =>
  intro i g1 g2
  refine Ev.step (fun _=>latticeplain_Ints.l0.eq_2 _ _ _ _ _) ?_
  refine Ev.pos (by omega) (Ev.pos (by omega) (Ev.pos (by omega) (Ev.pos (by omega) (Ev.pos rfl ?_))))
  rw [w64 (by omega) (by omega)]
  exact ih (i+1) (by omega) (by omega)
theorem ints_ev (l:List Int) (hl:l.length≤8796093022208):Ev (fun n=>latticeplain_Ints.f n l l) true:=Ev.pos rfl (ints_l0 l hl _ 0 (Nat.zero_le _) rfl)
theorem same_ev (a b c:Int) (h:ByteArray) (l4 l5:List ByteArray) (l6:List Int) (h4:l4.length≤8796093022208) (h5:l5.length≤8796093022208) (h6:l6.length≤8796093022208):Ev (fun n=>latticeplain_Node.f n a b c h l4 l5 l6 a b c h l4 l5 l6) true :=
 Ev.pos rfl (Ev.pos rfl (Ev.pos rfl (Ev.pos rfl (Ev.bind (texts_ev l4 h4) (Ev.pos rfl (Ev.bind (texts_ev l5 h5) (Ev.pos rfl (Ev.bind (ints_ev l6 h6) (Ev.now _)))))))))
end Go.Proofs.Ytcocmpblmkdmjaa.Pure
