-- A part of the text PagePure, thinned by a program of this session.
import Derived.Test.YtgjibcfkjaedfaaTHPageRt
import Derived.Test.YtgjibcfkjaedfaaTHPrx17
namespace Go.Proofs.Ytgjibcfkjaedfaa.Page
open Go.RowKit Go.Proofs.YtgjibcfkjaedfaaW.PrintWords Go.Proofs.YtgjibcfkjaedfaaW.PrintLast Go.Proofs.YtgjibcfkjaedfaaW.PrintMore Go.Proofs.Ytgjibcfkjaedfaa.Wire Go.Proofs.Ytgjibcfkjaedfaa.Crc Go.Proofs.Ytgjibcfkjaedfaa.Pr
open Go.Proofs.Ytgjibcfkjaedfaa.Back (AllB)
open Go.Proofs.Ytgjibcfkjaedfaa.Pure
set_option linter.unusedVariables false
set_option linter.unusedSimpArgs false
theorem num_f {n s:Int} (h0:0≤n) (h1:n < 9223372036854775808) (h2:0≤s) (h3:s≤8):latticeref01_Num.f n s=some (le n s.toNat):=by
 unfold latticeref01_Num.f
 rw [if_pos ⟨h0,h1,h2,h3⟩]
theorem text_f {t:ByteArray} (h:t.size≤65535):latticeref01_Text.f t=some (txB t):=by
 unfold latticeref01_Text.f
 rw [if_pos h]
 rfl
theorem seal_f {xs:List Int} (hb:AllB xs) (hl:xs.length≤1000):latticeref02_Seal.f xs=some (sealB xs):=by
 unfold latticeref02_Seal.f
 rw [if_pos ⟨allB_iff.2 hb,by omega⟩]
 rfl
theorem refenc_l1:∀ (d:Nat) (xs:List Int),xs.length+d=252→AllB xs→Ev (fun k=>latticeref06_Encode.l1 k xs) (sealB (xs++List.replicate d 0),0)
 | 0,xs,h,hb=>by
  refine Ev.step (fun k=>latticeref06_Encode.l1_s k xs) ?_
  refine Ev.neg (by omega) (Ev.bindc (seal_f hb (by omega)) ?_)
  rw [List.replicate_zero,List.append_nil]
  exact Ev.now _
 | d+1,xs,h,hb=>by
  refine Ev.step (fun k=>latticeref06_Encode.l1_s k xs) ?_
  refine Ev.pos (by omega) (Ev.pos (by omega) ?_)
  have ih:=refenc_l1 d (xs++[0]) (by rw [List.length_append,List.length_singleton];omega) (allB_append hb (fun x hx=>by simp at hx;omega))
  rw [List.append_assoc,List.singleton_append,← List.replicate_succ] at ih
  exact ih
theorem refenc_pad {xs:List Int} (h:xs.length≤252) (hb:AllB xs):Ev (fun k=>latticeref06_Encode.l1 k xs) (sealB (padB xs),0) :=
 refenc_l1 (252 - xs.length) xs (by omega) hb
section
variable {lv lsn rt:Int} {high:ByteArray} {keys vals:List ByteArray} {kids:List Int}
def entB (lv:Int) (keys vals:List ByteArray) (kids:List Int) (i:Nat):List Int:=if lv > 0 then kidsB keys kids (i+1) else valsB keys vals i
theorem body_ent (h:nodeB lv lsn rt high keys vals kids=true):bodyB lv lsn rt high keys vals kids=hdrB lv lsn rt high keys++entB lv keys vals kids keys.length:=by
 unfold bodyB entB
 rcases shape_of h with ⟨e,hv,hk⟩|⟨e,hk,hv⟩
 ·rw [if_neg (by omega),hk,hv]
  simp [kidsB]
 ·rw [if_pos e,hv,hk]
  simp [valsB]
theorem ent_allB (i:Nat):AllB (entB lv keys vals kids i):=by
 unfold entB
 split
 ·exact kidsB_allB _ _ _
 ·exact valsB_allB _ _ _
theorem hdr_allB:AllB (hdrB lv lsn rt high keys):=allB_append (allB_append (allB_append (allB_append (le_allB _ _) (le_allB _ _)) (le_allB _ _)) (le_allB _ _)) (txB_allB _)
theorem ent_short (hf:Fit lv lsn rt high keys vals kids) (h:nodeB lv lsn rt high keys vals kids=true) (i:Nat) (hi:i≤keys.length):(entB lv keys vals kids i).length≤10000:=by
 have hn:=keys_few h hf
 unfold entB
 split
 ·have:=kidsB_length (keys:=keys) kids hf.fkeys (i+1)
  omega
 ·have:=valsB_length (keys:=keys) (vals:=vals) hf.fkeys hf.fvals i
  omega
theorem add_cap {A B C:Nat} (h1:A≤33) (h2:B≤10000) (h3:C≤100):A+B+C < 140737488355328:=by omega
theorem add_cap2 {A B C D:Nat} (h1:A≤33) (h2:B≤10000) (h3:C≤100) (h4:D≤100):A+B+C+D < 140737488355328:=by omega
theorem hdr_short (hf:Fit lv lsn rt high keys vals kids):(hdrB lv lsn rt high keys).length≤33:=by
 have hh:=hdrB_length lv lsn rt high keys
 have hhs:=hf.fhigh
 omega
theorem tx_short {t:ByteArray} (h:t.size≤32):(txB t).length≤100:=by rw [txB_length];omega
theorem next_cast {i n:Nat} (h:i < n) (hn:n≤117):wrap64 ((i:Int)+1)=((i+1:Nat):Int):=by rw [w64 (by omega) (by omega)];omega
theorem ent_kid (e:lv > 0) {i:Nat} (hi:i < keys.length) (hk:i+1 < kids.length):hdrB lv lsn rt high keys++entB lv keys vals kids i++txB keys[i]++le kids[i+1] 4=hdrB lv lsn rt high keys++entB lv keys vals kids (i+1):=by
 unfold entB
 rw [if_pos e,if_pos e]
 have e3:kidsB keys kids (i+1+1)=kidsB keys kids (i+1)++txB keys[i]++le kids[i+1] 4:=by
  rw [kidsB,if_neg (by omega),rdI_get hk,show ((i+1:Nat):Int) - 1=(i:Int) by omega,rd_get hi]
 rw [e3]
 simp only [List.append_assoc]
theorem ent_val (e:¬ lv > 0) {i:Nat} (hi:i < keys.length) (hk:i < vals.length):hdrB lv lsn rt high keys++entB lv keys vals kids i++txB keys[i]++txB vals[i]=hdrB lv lsn rt high keys++entB lv keys vals kids (i+1):=by
 unfold entB
 rw [if_neg e,if_neg e,valsB,rd_get hi,rd_get hk]
 simp only [List.append_assoc]
theorem refenc_l0 (hf:Fit lv lsn rt high keys vals kids) (h:nodeB lv lsn rt high keys vals kids=true) (hn:keys.length≤117):∀ (d i:Nat),i≤keys.length→keys.length - i=d →
  Ev (fun k=>latticeref06_Encode.l0 k (hdrB lv lsn rt high keys++entB lv keys vals kids i) keys (keys.length:Int) (i:Int) lv lsn rt high keys vals kids) (sealB (padB (bodyB lv lsn rt high keys vals kids)),0):=by
 intro d
 induction d with
 | zero =>
  intro i h1 h2
  obtain rfl:i=keys.length:=by omega
  refine Ev.step (fun _=>latticeref06_Encode.l0.eq_2 _ _ _ _ _ _ _ _ _ _ _ _) ?_
  refine Ev.neg (by omega) ?_
  rw [body_ent h]
  exact refenc_pad (by rw [← body_ent h];exact hf.fbody) (allB_append hdr_allB (ent_allB _))
 | succ d ih =>
  intro i h1 h2
  have hi:i < keys.length:=by omega
  have c1:(i:Int) < (keys.length:Int):=by omega
  have c2:(0:Int)≤(i:Int):=by omega
  have c3:(0:Int)≤((i+1:Nat):Int):=by omega
  have hks:=hf.fkeys _ (List.getElem_mem hi)
  have hks32:keys[i].size≤32:=by omega
  have hks65:keys[i].size≤65535:=by omega
  refine Ev.step (fun _=>latticeref06_Encode.l0.eq_2 _ _ _ _ _ _ _ _ _ _ _ _) ?_
  have ht:latticeref01_Text.f (rdOf ByteArray.empty keys (i:Int))=some (txB keys[i]):=by rw [rd_get hi];exact text_f hks65
  refine Ev.pos c1 (Ev.pos c2 (Ev.pos c1 (Ev.bindc ht ?_)))
  refine Ev.pos (by rw [List.length_append];exact add_cap (hdr_short hf) (ent_short hf h i h1) (tx_short hks32)) (Ev.bindc rfl ?_)
  rw [next_cast hi hn]
  rcases shape_of h with ⟨e,hv,hk⟩|⟨e,hk,hv⟩
  ·have e0:¬ lv > 0:=by omega
   have hiv:i < vals.length:=by omega
   have c4:(i:Int) < (vals.length:Int):=by omega
   have hvs:=hf.fvals _ (List.getElem_mem hiv)
   have hvs65:vals[i].size≤65535:=by omega
   have ht2:latticeref01_Text.f (rdOf ByteArray.empty vals (i:Int))=some (txB vals[i]):=by rw [rd_get hiv];exact text_f hvs65
   refine Ev.neg e0 (Ev.pos c4 (Ev.bindc ht2 ?_))
   refine Ev.pos (by rw [List.length_append,List.length_append];exact add_cap2 (hdr_short hf) (ent_short hf h i h1) (tx_short hks32) (tx_short hvs)) ?_
   rw [ent_val e0 hi hiv]
   exact ih (i+1) hi (by omega)
  ·have hik:i+1 < kids.length:=by omega
   have c4:((i+1:Nat):Int) < (kids.length:Int):=by omega
   have hks2:=hf.fkids _ (List.getElem_mem hik)
   have ht2:latticeref01_Num.f (rd kids ((i+1:Nat):Int)) 4=some (le kids[i+1] 4):=by rw [rdI_get hik];exact num_f (by omega) (by omega) (by omega) (by omega)
   refine Ev.pos e (Ev.pos c3 (Ev.pos c4 (Ev.bindc ht2 ?_)))
   refine Ev.pos (by rw [List.length_append,List.length_append];exact add_cap2 (hdr_short hf) (ent_short hf h i h1) (tx_short hks32) (by rw [le_length];decide)) ?_
   rw [ent_kid e hi hik]
   exact ih (i+1) hi (by omega)
theorem refenc_ev (lv lsn rt:Int) (high:ByteArray) (keys vals:List ByteArray) (kids:List Int) (hl:keys.length*16≤140737488351232) (hv:vals.length*16≤140737488351232) (hk:kids.length*8≤140737488351232) (hg:∀ y ∈ keys,y.size≤140737488351232) :
  Ev (fun k=>latticeref06_Encode.f k lv lsn rt high keys vals kids) (pageF lv lsn rt high keys vals kids):=by
 unfold latticeref06_Encode.f pageF
 refine Ev.bind (right_ev lv lsn rt high keys vals kids hl hv hk hg) ?_
 by_cases c:nodeB lv lsn rt high keys vals kids=true
 ·rw [if_pos c]
  refine Ev.pos c ?_
  have hf:=fit_of c hl
  have hn:=keys_few c hf
  obtain ⟨a1,a2⟩:=hf.flv
  obtain ⟨b1,b2⟩:=hf.flsn
  obtain ⟨c1,c2⟩:=hf.frt
  have hh:=hf.fhigh
  refine Ev.bindc (num_f a1 (by omega) (by omega) (by omega)) (Ev.pos (by rw [le_length];decide) (Ev.bindc rfl ?_))
  refine Ev.bindc (num_f b1 (by omega) (by omega) (by omega)) (Ev.pos (by rw [le_length,List.length_append,le_length];decide) (Ev.bindc rfl ?_))
  refine Ev.bindc (num_f c1 (by omega) (by omega) (by omega)) (Ev.pos (by rw [le_length,List.length_append,List.length_append,le_length,le_length];decide) (Ev.bindc rfl ?_))
  refine Ev.bindc (num_f (show 0≤(keys.length:Int) by omega) (by omega) (by omega) (by omega)) (Ev.pos (by rw [le_length,List.length_append,List.length_append,List.length_append,le_length,le_length,le_length];decide) (Ev.bindc rfl ?_))
  refine Ev.bindc (text_f (by omega)) (Ev.pos (by rw [txB_length,List.length_append,List.length_append,List.length_append,List.length_append,le_length,le_length,le_length,le_length];simp;omega) (Ev.bindc rfl ?_))
  have e0:([]:List Int)++le lv (1:Int).toNat++le lsn (8:Int).toNat++le rt (4:Int).toNat++le (keys.length:Int) (2:Int).toNat++txB high=hdrB lv lsn rt high keys:=by
   unfold hdrB
   rw [List.nil_append]
   rfl
  rw [e0]
  rcases shape_of c with ⟨e,hv2,hk2⟩|⟨e,hk2,hv2⟩
  ·refine Ev.neg (by omega) (Ev.step (fun _=>latticeref06_Encode.j0.eq_2 _ _ _ _ _ _ _ _ _) ?_)
   have key:=refenc_l0 hf c hn _ 0 (Nat.zero_le _) rfl
   have e1:entB lv keys vals kids 0=[]:=by
    unfold entB
    rw [if_neg (by omega),valsB]
   rw [e1,List.append_nil] at key
   exact key
  ·have hd0:=hf.fkids _ (List.getElem_mem (show 0 < kids.length by omega))
   have e3:rd kids 0=kids[0]:=rdI_get (l:=kids) (i:=0) (by omega)
   refine Ev.pos e (Ev.pos (by omega) (Ev.bindc (by rw [e3];exact num_f (by omega) (by omega) (by omega) (by omega)) (Ev.pos (by rw [le_length,hdrB_length];simp;omega) (Ev.step (fun _=>latticeref06_Encode.j0.eq_2 _ _ _ _ _ _ _ _ _) ?_))))
   have key:=refenc_l0 hf c hn _ 0 (Nat.zero_le _) rfl
   have e1:entB lv keys vals kids 0=le kids[0] 4:=by
    unfold entB
    rw [if_pos e,kidsB,kidsB,if_pos rfl]
    have:rd kids ((0:Nat):Int)=kids[0]:=e3
    rw [this]
    rfl
   rw [e1] at key
   exact key
 ·rw [if_neg c]
  exact Ev.neg c (Ev.now _)
end
theorem refenc_ok (a0_0:Int) (a0_1:Int) (a0_2:Int) (a0_3:ByteArray) (A0_4:Option Addr) (c0_4:Nat) (l0_4:List ByteArray) (A0_5:Option Addr) (c0_5:Nat) (l0_5:List ByteArray) (A0_6:Option Addr) (c0_6:Nat) (l0_6:List Int) (w:World) (hr0_4:Kd.C Kd.string w A0_4 l0_4.length l0_4) (hc0_4:l0_4.length≤c0_4) (hr0_5:Kd.C Kd.string w A0_5 l0_5.length l0_5) (hc0_5:l0_5.length≤c0_5) (hr0_6:Kd.C (Kd.int .i64) w A0_6 l0_6.length l0_6) (hc0_6:l0_6.length≤c0_6) (hl:l0_4.length*16≤140737488351232) (hv:l0_5.length*16≤140737488351232) (hk:l0_6.length*8≤140737488351232) (hg:∀ y ∈ l0_4,y.size≤140737488351232) :
  Calls Try.prog 87 #[.agg #[.int .i64 a0_0,.int .i64 a0_1,.int .i64 a0_2,.string a0_3,.slice A0_4 l0_4.length c0_4,.slice A0_5 l0_5.length c0_5,.slice A0_6 l0_6.length c0_6]] w fun e w'=>∃ v0_:Value,e=.returned (.tuple #[v0_,.int .i64 (pageF a0_0 a0_1 a0_2 a0_3 l0_4 l0_5 l0_6).2])∧Kd.R (Kd.int .u8) 5 w' w.heap.size (fun _=>True) v0_ (pageF a0_0 a0_1 a0_2 a0_3 l0_4 l0_5 l0_6).1∧Below w.heap.size w w':=by
 obtain ⟨k,hk⟩:=(refenc_ev a0_0 a0_1 a0_2 a0_3 l0_4 l0_5 l0_6 hl hv hk hg).rounds
 exact latticeref06_Encode.calls k a0_0 a0_1 a0_2 a0_3 A0_4 c0_4 l0_4 A0_5 c0_5 l0_5 A0_6 c0_6 l0_6 _ _ w hr0_4 hc0_4 hr0_5 hc0_5 hr0_6 hc0_6 hk
end Go.Proofs.Ytgjibcfkjaedfaa.Page
