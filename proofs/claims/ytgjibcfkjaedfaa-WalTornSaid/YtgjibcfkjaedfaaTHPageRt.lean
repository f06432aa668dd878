-- A part of the text PageRt, thinned by a program of this session.
import Derived.Test.YtgjibcfkjaedfaaTHPageDec
import Derived.Test.YtgjibcfkjaedfaaTHCrcR
namespace Go.Proofs.Ytgjibcfkjaedfaa.Page
open Go.RowKit Go.Proofs.YtgjibcfkjaedfaaW.PrintWords Go.Proofs.YtgjibcfkjaedfaaW.PrintLast Go.Proofs.YtgjibcfkjaedfaaW.PrintMore Go.Proofs.Ytgjibcfkjaedfaa.Wire Go.Proofs.Ytgjibcfkjaedfaa.Crc Go.Proofs.Ytgjibcfkjaedfaa.Pr
open Go.Proofs.Ytgjibcfkjaedfaa.Back (AllB numB numB_small numB_eight hor hor_lt hor_last pow_le7)
open Go.Proofs.Ytgjibcfkjaedfaa.Pure
set_option linter.unusedVariables false
set_option linter.unusedSimpArgs false
theorem hor_le:∀ (k:Nat) (n:Int),0≤n→n < 256 ^ k→(hor (le n k):Int)=n
 | 0,n,h0,h1=>by simp at h1;simp [le,hor];omega
 | k+1,n,h0,h1=>by
  rw [le,hor]
  have h2:n / 256 < 256 ^ k:=by
   rw [Int.pow_succ] at h1
   omega
  have ih:=hor_le k (n / 256) (by omega) h2
  have:(n % 256).toNat=n % 256:=by omega
  rw [Int.natCast_add,Int.natCast_mul,ih,this]
  omega
theorem numB_le {n:Int} {s:Nat} (h:numOk n (s:Int)=true):numB (le n s)=n:=by
 obtain ⟨h0,hc⟩:=top_cases h
 have hb:=le_allB n s
 have hl:=le_length n s
 rcases hc with ⟨hs,h1⟩|⟨hs,h1⟩|⟨hs,h1⟩|⟨hs,h1⟩
 ·obtain rfl:s=1:=by omega
  rw [numB_small hb (by omega),hor_le 1 n h0 (by simpa using h1)]
 ·obtain rfl:s=2:=by omega
  rw [numB_small hb (by omega),hor_le 2 n h0 (by simpa using h1)]
 ·obtain rfl:s=4:=by omega
  rw [numB_small hb (by omega),hor_le 4 n h0 (by simpa using h1)]
 ·obtain rfl:s=8:=by omega
  have hh:=hor_le 8 n h0 (Int.lt_of_lt_of_le h1 (by decide))
  have h7:=(hor_last hl hb).1 (by omega)
  rw [(numB_eight hb hl).1 h7,hh]
theorem numOk_sized {n size:Int} (h:numOk n size=true):sizedB size=true:=sizedB_yes (by obtain ⟨_,hc⟩:=top_cases h;omega)
theorem rdNum_le {n:Int} {s:Nat} (h:numOk n (s:Int)=true) (rest:List Int):rdNum (le n s++rest) 0 (s:Int)=((n,0),(rest,0)):=by
 unfold rdNum
 have hl:=le_length n s
 rw [if_neg (by rw [numOk_sized h];decide),if_neg (by simp),if_neg (by rw [List.length_append,hl];omega),Int.toNat_natCast]
 have ht:(le n s++rest).take s=le n s:=by rw [List.take_append_of_le_length (by omega),List.take_of_length_le (by omega)]
 have hd:(le n s++rest).drop s=rest:=by rw [List.drop_append_of_le_length (by omega),List.drop_of_length_le (by omega)];rfl
 have h0:=(top_cases h).1
 rw [ht,hd,numB_le h,if_neg (by omega)]
theorem size_numOk {n:Nat} (h:n≤65535):numOk (n:Int) ((2:Nat):Int)=true:=numOk2 (by omega) (by omega)
theorem take2_le {n:Nat} (h:n≤65535) (rest:List Int):numB ((le (n:Int) 2++rest).take 2)=n:=by
 have hl:=le_length (n:Int) 2
 rw [List.take_append_of_le_length (by omega),List.take_of_length_le (by omega),numB_le (size_numOk h)]
theorem rdText_le {t:ByteArray} {most:Int} (h:t.size≤65535) (hm:(t.size:Int)≤most) (rest:List Int):rdText (txB t++rest) 0 most=((bytesOf t,0),(rest,0)):=by
 unfold rdText txB
 have hl:=le_length (t.size:Int) 2
 have hb:(bytesOf t).length=t.size:=bytesOf_length t
 rw [List.append_assoc,take2_le h]
 rw [if_neg (by omega),if_neg (by simp),if_neg (by rw [List.length_append,hl];omega),if_neg (by rw [List.length_append,List.length_append,hl,hb];omega),if_neg (by omega),Int.toNat_natCast]
 have hd:(le (t.size:Int) 2++(bytesOf t++rest)).drop 2=bytesOf t++rest:=by rw [List.drop_append_of_le_length (by omega),List.drop_of_length_le (by omega)];rfl
 have hd2:(le (t.size:Int) 2++(bytesOf t++rest)).drop (2+t.size)=rest:=by
  rw [← List.drop_drop,hd,List.drop_append_of_le_length (by omega),List.drop_of_length_le (by omega)];rfl
 rw [hd,hd2,List.take_append_of_le_length (by omega),List.take_of_length_le (by omega)]
theorem str_bytesOf (t:ByteArray):strOfNums (bytesOf t)=t:=by
 apply ByteArray.ext
 apply Array.toList_inj.1
 rw [Go.strOfNums_data]
 simp only [bytesOf,List.map_map]
 conv=>rhs;rw [← List.map_id t.data.toList]
 apply List.map_congr_left
 intro x _
 simp
theorem opOf_sealed {xs:List Int} (hb:AllB xs):opOf (sealB xs)=(xs,0):=by
 unfold sealB
 have hl:(xs++le (sumOf xs:Int) 4).length - 4=xs.length:=by rw [List.length_append,le_length];omega
 unfold opOf
 rw [if_neg (by rw [List.length_append,le_length];omega),hl,List.drop_left,List.take_left,if_neg]
 exact fun h=>h ((four_eq (le_length _ _) (le_allB _ _) (sum_lt hb)).2 rfl)
def stepKM (M:Int) (s:NS):NS:=⟨s.ks++[strOfNums (rdText s.xs s.wg M).1.1],s.vs,s.ds,(rdText s.xs s.wg M).2.1,(rdText s.xs s.wg M).2.2⟩
def stepVM (M:Int) (s:NS):NS:=⟨s.ks,s.vs++[strOfNums (rdText s.xs s.wg M).1.1],s.ds,(rdText s.xs s.wg M).2.1,(rdText s.xs s.wg M).2.2⟩
def stepM (M lv:Int) (s:NS):NS:=if 0 < lv then stepD (stepKM M s) else stepVM M (stepKM M s)
def iterM (M lv:Int) (s:NS):Nat→NS
 | 0=>s
 | n+1=>stepM M lv (iterM M lv s n)
def highM (M:Int) (xs:List Int):(List Int×Int)×(List Int×Int):=rdText (manyR xs).2.1 (manyR xs).2.2 M
def startM (M:Int) (xs:List Int):NS:=if 0 < (lvR xs).1.1 then stepD ⟨[],[],[],(highM M xs).2.1,(highM M xs).2.2⟩ else ⟨[],[],[],(highM M xs).2.1,(highM M xs).2.2⟩
theorem iter_252 (lv:Int) (s:NS):∀ n,iterN lv s n=iterM 252 lv s n
 | 0=>rfl
 | n+1=>by rw [iterN,iterM,iter_252 lv s n];rfl
theorem kidsB_pre (keys:List ByteArray) (kids:List Int) (i:Nat):∀ d,∃ t,kidsB keys kids (i+d)=kidsB keys kids i++t
 | 0=>⟨[],by simp⟩
 | d+1=>by
  obtain ⟨t,ht⟩:=kidsB_pre keys kids i d
  rw [← Nat.add_assoc,kidsB,ht]
  exact ⟨t++(if i+d=0 then [] else txB (rdOf ByteArray.empty keys (((i+d:Nat):Int) - 1)))++le (rd kids ((i+d:Nat):Int)) 4,by simp [List.append_assoc]⟩
theorem valsB_pre (keys vals:List ByteArray) (i:Nat):∀ d,∃ t,valsB keys vals (i+d)=valsB keys vals i++t
 | 0=>⟨[],by simp⟩
 | d+1=>by
  obtain ⟨t,ht⟩:=valsB_pre keys vals i d
  rw [← Nat.add_assoc,valsB,ht]
  exact ⟨t++txB (rdOf ByteArray.empty keys ((i+d:Nat):Int))++txB (rdOf ByteArray.empty vals ((i+d:Nat):Int)),by simp [List.append_assoc]⟩
theorem stepK_rt {M:Int} (hM:252≤M) {k:ByteArray} (hk:k.size≤32) (ks vs:List ByteArray) (ds rest:List Int):stepKM M ⟨ks,vs,ds,txB k++rest,0⟩=⟨ks++[k],vs,ds,rest,0⟩:=by
 unfold stepKM
 simp only
 rw [rdText_le (by omega) (by omega),str_bytesOf]
theorem stepV_rt {M:Int} (hM:252≤M) {k:ByteArray} (hk:k.size≤32) (ks vs:List ByteArray) (ds rest:List Int):stepVM M ⟨ks,vs,ds,txB k++rest,0⟩=⟨ks,vs++[k],ds,rest,0⟩:=by
 unfold stepVM
 simp only
 rw [rdText_le (by omega) (by omega),str_bytesOf]
theorem stepD_rt {d:Int} (hd:1≤d∧d≤4096) (ks vs:List ByteArray) (ds rest:List Int):stepD ⟨ks,vs,ds,le d 4++rest,0⟩=⟨ks,vs,ds++[d],rest,0⟩:=by
 unfold stepD
 simp only
 rw [show (4:Int)=((4:Nat):Int) from rfl,rdNum_le (numOk4 (by omega) (by omega))]
theorem iter_kids {M lv:Int} (hM:252≤M) (hlv:0 < lv) {keys:List ByteArray} {kids:List Int} (hk:∀ y ∈ keys,y.size≤16) (hd:∀ x ∈ kids,1≤x∧x≤4096) (hn:kids.length=keys.length+1) (tail y0:List Int) (h0:kidsB keys kids kids.length++tail=kidsB keys kids 1++y0) :
  ∀ i,i≤keys.length→∃ ys,kidsB keys kids kids.length++tail=kidsB keys kids (i+1)++ys∧iterM M lv ⟨[],[],[rd kids 0],y0,0⟩ i=⟨keys.take i,[],kids.take (i+1),ys,0⟩
 | 0,_=>by
  refine ⟨y0,h0,?_⟩
  rw [iterM,List.take_zero,List.take_succ_eq_append_getElem (by omega),List.take_zero]
  have e:rd kids 0=kids[0]:=rdI_get (l:=kids) (i:=0) (by omega)
  rw [e]
  rfl
 | i+1,h=>by
  obtain ⟨ys,h1,h2⟩:=iter_kids hM hlv hk hd hn tail y0 h0 i (by omega)
  obtain ⟨t,ht⟩:=kidsB_pre keys kids (i+2) (kids.length - (i+2))
  rw [show i+2+(kids.length - (i+2))=kids.length by omega] at ht
  have e1:((i+1:Nat):Int) - 1=(i:Int):=by omega
  have h3:ys=txB keys[i]++(le kids[i+1] 4++(t++tail)):=by
   rw [ht,kidsB,if_neg (by omega),e1,rd_get (by omega),rdI_get (by omega)] at h1
   simp only [List.append_assoc] at h1
   exact (List.append_cancel_left h1).symm
  refine ⟨t++tail,by rw [ht,List.append_assoc],?_⟩
  rw [iterM,h2,stepM,if_pos hlv,h3,stepK_rt hM (by have:=hk _ (List.getElem_mem (show i < keys.length by omega));omega),stepD_rt (hd _ (List.getElem_mem _)),← List.take_succ_eq_append_getElem (by omega),← List.take_succ_eq_append_getElem (by omega)]
theorem iter_vals {M lv:Int} (hM:252≤M) (hlv:¬ 0 < lv) {keys vals:List ByteArray} (hk:∀ y ∈ keys,y.size≤16) (hv:∀ y ∈ vals,y.size≤32) (hn:vals.length=keys.length) (tail:List Int) :
  ∀ i,i≤keys.length→∃ ys,valsB keys vals vals.length++tail=valsB keys vals i++ys∧iterM M lv ⟨[],[],[],valsB keys vals vals.length++tail,0⟩ i=⟨keys.take i,vals.take i,[],ys,0⟩
 | 0,_=>⟨_,by rw [valsB,List.nil_append],by rw [iterM,List.take_zero,List.take_zero]⟩
 | i+1,h=>by
  obtain ⟨ys,h1,h2⟩:=iter_vals hM hlv hk hv hn tail i (by omega)
  obtain ⟨t,ht⟩:=valsB_pre keys vals (i+1) (vals.length - (i+1))
  rw [show i+1+(vals.length - (i+1))=vals.length by omega] at ht
  have h3:ys=txB keys[i]++(txB vals[i]++(t++tail)):=by
   rw [ht,valsB,rd_get (by omega),rd_get (by omega)] at h1
   simp only [List.append_assoc] at h1
   exact (List.append_cancel_left h1).symm
  refine ⟨t++tail,by rw [ht,List.append_assoc],?_⟩
  rw [iterM,h2,stepM,if_neg hlv,h3,stepK_rt hM (by have:=hk _ (List.getElem_mem (show i < keys.length by omega));omega),stepV_rt hM (hv _ (List.getElem_mem (show i < vals.length by omega))),← List.take_succ_eq_append_getElem (by omega),← List.take_succ_eq_append_getElem (by omega)]
theorem shape_of {lv lsn rt:Int} {high:ByteArray} {keys vals:List ByteArray} {kids:List Int} (h:nodeB lv lsn rt high keys vals kids=true):(lv=0∧vals.length=keys.length∧kids=[])∨(0 < lv∧kids.length=keys.length+1∧vals=[]):=by
 unfold nodeB at h
 simp only [Bool.and_eq_true,Bool.or_eq_true,decide_eq_true_eq] at h
 obtain ⟨q1,q2,q3,q4,hp,hs,ha⟩:=h
 unfold partsB at hp
 by_cases e:lv=0
 ·rw [if_pos e] at hp
  simp only [Bool.and_eq_true,decide_eq_true_eq] at hp
  exact .inl ⟨e,hp.1,List.length_eq_zero_iff.1 hp.2.1⟩
 ·rw [if_neg e] at hp
  simp only [Bool.and_eq_true,decide_eq_true_eq] at hp
  exact .inr ⟨by omega,hp.1,List.length_eq_zero_iff.1 hp.2.1⟩
theorem sz_ge:∀ l:List ByteArray,2*(l.length:Int)≤sz l
 | []=>by simp [sz]
 | x::l=>by
  have:=sz_ge l
  simp only [sz,List.length_cons]
  omega
theorem keys_few {lv lsn rt:Int} {high:ByteArray} {keys vals:List ByteArray} {kids:List Int} (h:nodeB lv lsn rt high keys vals kids=true) (hf:Fit lv lsn rt high keys vals kids):keys.length≤117:=by
 have hb:=hf.fbody
 unfold bodyB at hb
 rw [List.length_append,List.length_append,hdrB_length] at hb
 have hz:=sz_ge keys
 rcases shape_of h with ⟨e,hv,hk⟩|⟨e,hk,hv⟩
 ·have:=valsB_len (keys:=keys) (vals:=vals) vals.length (by omega) (Nat.le_refl _)
  rw [List.take_length,hv,List.take_length] at this
  rw [hv] at hb
  have hz2:=sz_ge vals
  omega
 ·have:=kidsB_len (keys:=keys) kids keys.length (Nat.le_refl _)
  rw [List.take_length] at this
  rw [hk] at hb
  omega
theorem hdr_rt {lv lsn rt:Int} {high:ByteArray} {keys:List ByteArray} (h1:0≤lv∧lv≤20) (h2:0≤lsn∧lsn≤1099511627776) (h3:0≤rt∧rt≤4096) (h4:high.size≤16) (h5:keys.length≤117) {M:Int} (hM:252≤M) (rest:List Int) :
  (lvR (hdrB lv lsn rt high keys++rest)).1.1=lv∧(lsnR (hdrB lv lsn rt high keys++rest)).1.1=lsn∧(rtR (hdrB lv lsn rt high keys++rest)).1.1=rt∧(manyR (hdrB lv lsn rt high keys++rest)).1.1=(keys.length:Int)∧highM M (hdrB lv lsn rt high keys++rest)=((bytesOf high,0),(rest,0)):=by
 have e1:lvR (hdrB lv lsn rt high keys++rest)=((lv,0),(le lsn 8++(le rt 4++(le (keys.length:Int) 2++(txB high++rest))),0)):=by
  unfold lvR hdrB
  simp only [List.append_assoc]
  exact rdNum_le (s:=1) (numOk1 h1.1 h1.2) _
 have e2:lsnR (hdrB lv lsn rt high keys++rest)=((lsn,0),(le rt 4++(le (keys.length:Int) 2++(txB high++rest)),0)):=by
  unfold lsnR
  rw [e1]
  exact rdNum_le (s:=8) (numOk8 h2.1 h2.2) _
 have e3:rtR (hdrB lv lsn rt high keys++rest)=((rt,0),(le (keys.length:Int) 2++(txB high++rest),0)):=by
  unfold rtR
  rw [e2]
  exact rdNum_le (s:=4) (numOk4 h3.1 h3.2) _
 have e4:manyR (hdrB lv lsn rt high keys++rest)=(((keys.length:Int),0),(txB high++rest,0)):=by
  unfold manyR
  rw [e3]
  exact rdNum_le (s:=2) (numOk2 (by omega) (by omega)) _
 have e5:highM M (hdrB lv lsn rt high keys++rest)=((bytesOf high,0),(rest,0)):=by
  unfold highM
  rw [e4]
  exact rdText_le (by omega) (by omega) _
 rw [e1,e2,e3,e4]
 exact ⟨rfl,rfl,rfl,rfl,e5⟩
theorem rt_all {lv lsn rt:Int} {high:ByteArray} {keys vals:List ByteArray} {kids:List Int} (h:nodeB lv lsn rt high keys vals kids=true) (hf:Fit lv lsn rt high keys vals kids) {M:Int} (hM:252≤M) (tail xs:List Int) (hx:xs=bodyB lv lsn rt high keys vals kids++tail) :
  (lvR xs).1.1=lv∧(lsnR xs).1.1=lsn∧(rtR xs).1.1=rt∧(manyR xs).1.1=(keys.length:Int)∧strOfNums (highM M xs).1.1=high∧(∀ i,i≤keys.length→(iterM M lv (startM M xs) i).wg=0)∧iterM M lv (startM M xs) keys.length=⟨keys,vals,kids,tail,0⟩:=by
 have hfew:=keys_few h hf
 have hxs:xs=hdrB lv lsn rt high keys++(kidsB keys kids kids.length++valsB keys vals vals.length++tail):=by
  rw [hx]
  unfold bodyB
  simp only [List.append_assoc]
 obtain ⟨e1,e2,e3,e4,e5⟩:=hdr_rt (keys:=keys) hf.flv hf.flsn hf.frt hf.fhigh hfew hM (kidsB keys kids kids.length++valsB keys vals vals.length++tail)
 rw [← hxs] at e1 e2 e3 e4 e5
 refine ⟨e1,e2,e3,e4,by rw [e5];exact str_bytesOf high,?_⟩
 unfold startM
 rw [e1,e5]
 rcases shape_of h with ⟨e,hv,hk⟩|⟨e,hk,hv⟩
 ·rw [if_neg (by omega)]
  subst hk
  have key:=iter_vals (M:=M) (lv:=lv) hM (by omega) hf.fkeys hf.fvals hv tail
  simp only [kidsB,List.length_nil,List.nil_append]
  refine ⟨fun i hi=>?_,?_⟩
  ·obtain ⟨ys,_,h2⟩:=key i hi
   rw [h2]
  ·obtain ⟨ys,h1,h2⟩:=key keys.length (Nat.le_refl _)
   rw [h2,List.take_length]
   rw [hv] at h1
   have h3:ys=tail:=(List.append_cancel_left h1).symm
   rw [h3,← hv,List.take_length]
 ·rw [if_pos e]
  subst hv
  have hkl:0 < kids.length:=by omega
  obtain ⟨t,ht⟩:=kidsB_pre keys kids 1 (kids.length - 1)
  rw [show 1+(kids.length - 1)=kids.length by omega] at ht
  have h1:kidsB keys kids 1=le kids[0] 4:=by
   rw [kidsB,kidsB,if_pos rfl,rdI_get (by omega)]
   rfl
  simp only [valsB,List.length_nil,List.append_nil]
  have hs:stepD ⟨[],[],[],kidsB keys kids kids.length++tail,0⟩=⟨[],[],[rd kids 0],t++tail,0⟩:=by
   rw [ht,h1,List.append_assoc,stepD_rt (hf.fkids _ (List.getElem_mem hkl))]
   have e0:rd kids 0=kids[0]:=rdI_get (l:=kids) (i:=0) (by omega)
   rw [e0]
   rfl
  rw [hs]
  have key:=iter_kids (M:=M) (lv:=lv) hM e hf.fkeys hf.fkids hk tail (t++tail) (by rw [ht,List.append_assoc])
  refine ⟨fun i hi=>?_,?_⟩
  ·obtain ⟨ys,_,h2⟩:=key i hi
   rw [h2]
  ·obtain ⟨ys,h1,h2⟩:=key keys.length (Nat.le_refl _)
   rw [h2,List.take_length,← hk,List.take_length]
   rw [← hk] at h1
   have h3:ys=tail:=(List.append_cancel_left h1).symm
   rw [h3]
theorem node_rt {lv lsn rt:Int} {high:ByteArray} {keys vals:List ByteArray} {kids:List Int} (h:nodeB lv lsn rt high keys vals kids=true) (hf:Fit lv lsn rt high keys vals kids):nodeOf (padB (bodyB lv lsn rt high keys vals kids))=(lv,lsn,rt,high,keys,vals,kids):=by
 obtain ⟨e1,e2,e3,e4,e5,_,e6⟩:=rt_all h hf (M:=252) (by omega) _ _ rfl
 have hfew:=keys_few h hf
 have hh:highM 252 (padB (bodyB lv lsn rt high keys vals kids))=highR (padB (bodyB lv lsn rt high keys vals kids)):=rfl
 have hs:startM 252 (padB (bodyB lv lsn rt high keys vals kids))=startN (padB (bodyB lv lsn rt high keys vals kids)):=rfl
 have he:endN (padB (bodyB lv lsn rt high keys vals kids))=⟨keys,vals,kids,List.replicate (252 - (bodyB lv lsn rt high keys vals kids).length) 0,0⟩:=by
  unfold endN
  have e4':(manyR (padB (bodyB lv lsn rt high keys vals kids))).1.1=(keys.length:Int):=e4
  have e1':(lvR (padB (bodyB lv lsn rt high keys vals kids))).1.1=lv:=e1
  rw [e4',e1',show (min (keys.length:Int) 252).toNat=keys.length by omega,iter_252,← hs]
  exact e6
 unfold nodeOf
 rw [he]
 have e1':(lvR (padB (bodyB lv lsn rt high keys vals kids))).1.1=lv:=e1
 have e2':(lsnR (padB (bodyB lv lsn rt high keys vals kids))).1.1=lsn:=e2
 have e3':(rtR (padB (bodyB lv lsn rt high keys vals kids))).1.1=rt:=e3
 have e5':strOfNums (highR (padB (bodyB lv lsn rt high keys vals kids))).1.1=high:=e5
 rw [e1',e2',e3',e5']
theorem pageV_eq {v:NdV} {xs:List Int} (h:pageV v=(xs,0)):nodeB v.1 v.2.1 v.2.2.1 v.2.2.2.1 v.2.2.2.2.1 v.2.2.2.2.2.1 v.2.2.2.2.2.2=true∧xs=sealB (padB (bodyB v.1 v.2.1 v.2.2.1 v.2.2.2.1 v.2.2.2.2.1 v.2.2.2.2.2.1 v.2.2.2.2.2.2)):=by
 unfold pageV pageF at h
 by_cases c:nodeB v.1 v.2.1 v.2.2.1 v.2.2.2.1 v.2.2.2.2.1 v.2.2.2.2.2.1 v.2.2.2.2.2.2=true
 ·rw [if_pos c] at h
  exact ⟨c,(congrArg Prod.fst h).symm⟩
 ·rw [if_neg c] at h
  have:=congrArg Prod.snd h
  cases this
theorem dec_enc {v:NdV} {xs:List Int} (h:pageV v=(xs,0)) (hl:v.2.2.2.2.1.length*16≤140737488351232):decF xs=(v,0):=by
 obtain ⟨c,e⟩:=pageV_eq h
 have hf:=fit_of c hl
 have hpl:=padB_length hf.fbody
 have hpb:=padB_allB (bodyB_allB v.1 v.2.1 v.2.2.1 v.2.2.2.1 v.2.2.2.2.1 v.2.2.2.2.2.1 v.2.2.2.2.2.2)
 have hrt:=node_rt c hf
 have hop:opOf xs=(padB (bodyB v.1 v.2.1 v.2.2.1 v.2.2.2.1 v.2.2.2.2.1 v.2.2.2.2.2.1 v.2.2.2.2.2.2),0):=by
  rw [e]
  exact opOf_sealed hpb
 have hlen:xs.length=256:=by
  rw [e]
  unfold sealB
  rw [List.length_append,hpl,le_length]
 unfold decF
 rw [if_neg (by omega),hop,if_neg (by simp)]
 simp only
 rw [hrt,if_pos h]
theorem enc_dec {xs:List Int} (h:(decF xs).2=0):pageV (decF xs).1=(xs,0):=by
 unfold decF at h ⊢
 split at h
 ·cases h
 ·rename_i h1
  rw [if_neg h1]
  split at h
  ·cases h
  ·rename_i h2
   rw [if_neg h2]
   split at h
   ·rename_i h3
    rw [if_pos h3]
    exact h3
   ·cases h
theorem dec_not {xs:List Int} (h:(decF xs).2≠0):decF xs=(zeroV,60):=by
 unfold decF at h ⊢
 split
 ·rfl
 ·split
  ·rfl
  ·split
   ·rename_i h1 h2 h3
    rw [if_neg h1,if_neg h2,if_pos h3] at h
    exact absurd rfl h
   ·rfl
theorem dec_few {xs:List Int}:(decF xs).1.2.2.2.2.1.length≤252:=by
 unfold decF
 split
 ·exact Nat.zero_le _
 ·split
  ·exact Nat.zero_le _
  ·split
   ·exact (lens_end _).1
   ·exact Nat.zero_le _
def loopR (lv:Int) (s:NS):Nat→NS
 | 0=>s
 | n+1=>if s.wg=0 then loopR lv (stepM 256 lv s) n else s
theorem iterM_out (M lv:Int):∀ (n:Nat) (s:NS),iterM M lv (stepM M lv s) n=iterM M lv s (n+1)
 | 0,s=>rfl
 | n+1,s=>by rw [iterM,iterM_out M lv n s];rfl
theorem loop_iter (lv:Int):∀ (n:Nat) (s:NS),(∀ i,i < n→(iterM 256 lv s i).wg=0)→loopR lv s n=iterM 256 lv s n
 | 0,s,_=>rfl
 | n+1,s,h=>by
  have h0:s.wg=0:=h 0 (by omega)
  rw [loopR,if_pos h0,loop_iter lv n _ (fun i hi=>by rw [iterM_out];exact h (i+1) (by omega)),iterM_out]
def endR (xs:List Int):NS:=loopR (lvR xs).1.1 (startM 256 xs) (manyR xs).1.1.toNat
def nodeR (ys:List Int):NdV:=((lvR ys).1.1,(lsnR ys).1.1,(rtR ys).1.1,strOfNums (highM 256 ys).1.1,(endR ys).ks,(endR ys).vs,(endR ys).ds)
def decR (xs:List Int):NdV×Int :=
 if xs.length≠256 then (zeroV,60) else if (endR (xs.take 252)).wg=0∧pageV (nodeR (xs.take 252))=(xs,0) then (nodeR (xs.take 252),0) else (zeroV,60)
theorem nodeR_rt {lv lsn rt:Int} {high:ByteArray} {keys vals:List ByteArray} {kids:List Int} (h:nodeB lv lsn rt high keys vals kids=true) (hf:Fit lv lsn rt high keys vals kids):(endR (padB (bodyB lv lsn rt high keys vals kids))).wg=0∧nodeR (padB (bodyB lv lsn rt high keys vals kids))=(lv,lsn,rt,high,keys,vals,kids):=by
 obtain ⟨e1,e2,e3,e4,e5,ez,e6⟩:=rt_all h hf (M:=256) (by omega) _ (padB (bodyB lv lsn rt high keys vals kids)) rfl
 have he:endR (padB (bodyB lv lsn rt high keys vals kids))=⟨keys,vals,kids,List.replicate (252 - (bodyB lv lsn rt high keys vals kids).length) 0,0⟩:=by
  unfold endR
  rw [e4,e1,Int.toNat_natCast,loop_iter _ _ _ (fun i hi=>ez i (by omega))]
  exact e6
 refine ⟨by rw [he],?_⟩
 unfold nodeR
 rw [he,e1,e2,e3,e5]
theorem loopR_few (lv:Int):∀ (n:Nat) (s:NS),(loopR lv s n).ks.length≤s.ks.length+n
 | 0,s=>by rw [loopR];omega
 | n+1,s=>by
  rw [loopR]
  split
  ·have h:=loopR_few lv n (stepM 256 lv s)
   have e:(stepM 256 lv s).ks.length=s.ks.length+1:=by
    unfold stepM
    split <;> simp [stepD,stepKM,stepVM]
   omega
  ·omega
theorem many_few (xs:List Int) (hb:AllB xs):0≤(manyR xs).1.1∧(manyR xs).1.1≤65535:=by
 have key:∀ (ys:List Int) (wr:Int),AllB ys→0≤(rdNum ys wr 2).1.1∧(rdNum ys wr 2).1.1≤65535:=by
  intro ys wr hy
  unfold rdNum
  split
  ·simp
  ·split
   ·simp
   ·split
    ·simp
    ·split
     ·simp
     ·rename_i h1 h2 h3 h4
      have hl:(ys.take 2).length=2:=by rw [List.length_take];omega
      have hyt:AllB (ys.take 2):=fun x hx=>hy x (List.mem_of_mem_take hx)
      have h5:=numB_small hyt (by omega)
      have h6:=hor_lt hyt
      rw [hl] at h6
      simp only [show Int.toNat 2=2 from rfl] at h4 ⊢
      rw [h5]
      omega
 have h1:∃ m,(lvR xs).2.1=xs.drop m:=num_sub xs 0 1
 obtain ⟨m1,h1⟩:=h1
 obtain ⟨m2,h2⟩:=num_sub (lvR xs).2.1 (lvR xs).2.2 8
 obtain ⟨m3,h3⟩:=num_sub (lsnR xs).2.1 (lsnR xs).2.2 4
 have a1:AllB (lvR xs).2.1:=by rw [h1];exact fun x hx=>hb x (List.mem_of_mem_drop hx)
 have a2:AllB (lsnR xs).2.1:=by
  show AllB (rdNum (lvR xs).2.1 (lvR xs).2.2 8).2.1
  rw [h2];exact fun x hx=>a1 x (List.mem_of_mem_drop hx)
 have a3:AllB (rtR xs).2.1:=by
  show AllB (rdNum (lsnR xs).2.1 (lsnR xs).2.2 4).2.1
  rw [h3];exact fun x hx=>a2 x (List.mem_of_mem_drop hx)
 exact key _ _ a3
theorem decR_eq {xs:List Int} (hb:AllB xs):decR xs=decF xs:=by
 by_cases h:(decF xs).2=0
 ·have h1:=enc_dec h
  have h2:=dec_enc h1 (by have:=dec_few (xs:=xs);omega)
  obtain ⟨c,e⟩:=pageV_eq h1
  have hf:=fit_of c (by have:=dec_few (xs:=xs);omega)
  generalize hv:(decF xs).1=v at h1 h2 c e hf
  have hpl:=padB_length hf.fbody
  have hlen:xs.length=256:=by
   rw [e]
   unfold sealB
   rw [List.length_append,hpl,le_length]
  have ht:xs.take 252=padB (bodyB v.1 v.2.1 v.2.2.1 v.2.2.2.1 v.2.2.2.2.1 v.2.2.2.2.2.1 v.2.2.2.2.2.2):=by
   rw [e]
   unfold sealB
   rw [List.take_append_of_le_length (by omega),List.take_of_length_le (by omega)]
  obtain ⟨r1,r2⟩:=nodeR_rt c hf
  unfold decR
  rw [if_neg (by omega),ht,r1,r2,if_pos ⟨rfl,h1⟩,h2]
 ·rw [dec_not h]
  unfold decR
  split
  ·rfl
  ·split
   ·rename_i h1 h2
    exfalso
    apply h
    have hfew:(nodeR (xs.take 252)).2.2.2.2.1.length≤65535:=by
     show (endR (xs.take 252)).ks.length≤65535
     have q:=loopR_few (lvR (xs.take 252)).1.1 (manyR (xs.take 252)).1.1.toNat (startM 256 (xs.take 252))
     have m:=many_few (xs.take 252) (fun x hx=>hb x (List.mem_of_mem_take hx))
     have z:(startM 256 (xs.take 252)).ks.length=0:=by
      unfold startM
      split <;> simp [stepD]
     unfold endR
     omega
    rw [dec_enc h2.2 (by omega)]
   ·rfl
end Go.Proofs.Ytgjibcfkjaedfaa.Page
