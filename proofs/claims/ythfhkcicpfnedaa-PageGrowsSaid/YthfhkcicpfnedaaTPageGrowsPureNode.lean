-- A part of the text PureNode, thinned by a program of this session.
import Derived.Test.YthfhkcicpfnedaaTPageGrowsPrx2
import Derived.Test.YthfhkcicpfnedaaTPageGrowsPrx0
namespace Go.Proofs.Ythfhkcicpfnedaa.Pure
open Go.RowKit Go.Proofs.Ythfhkcicpfnedaa.Pr Go.Proofs.YthfhkcicpfnedaaW.PrintWords Go.Proofs.YthfhkcicpfnedaaW.PrintLast
section
variable {α β:Type} {r:α}
theorem Ev.pos {c:Prop} [Decidable c] {A B:Nat→Option α} (h:c) (k:Ev A r):Ev (fun n=>if c then A n else B n) r:=Ev.congr (fun _=>if_pos h) k
theorem Ev.neg {c:Prop} [Decidable c] {A B:Nat→Option α} (h:¬ c) (k:Ev B r):Ev (fun n=>if c then A n else B n) r:=Ev.congr (fun _=>if_neg h) k
theorem Ev.bindc {g:Option β} {f:Nat→β→Option α} {a:β} (h:g=some a) (k:Ev (fun n=>f n a) r):Ev (fun n=>g.bind (f n)) r:=Ev.congr (fun n=>by rw [h];rfl) k
end
abbrev L (s:ByteArray):List UInt8:=s.data.toList
theorem L_len (s:ByteArray):(L s).length=s.size:=by simp [L]
theorem tl (s:ByteArray):s.toList=L s:=Go.ByteArray.toList_eq s
theorem w64 {x:Int} (h0 : -9223372036854775808≤x) (h1:x≤9223372036854775807):wrap64 x=x:=by unfold wrap64;omega
theorem wrap_add (x y:Int):wrap64 (x+wrap64 y)=wrap64 (x+y):=by unfold wrap64;omega
theorem wrap_idem (x:Int):wrap64 (wrap64 x)=wrap64 x:=by unfold wrap64;omega
theorem wrap3 (x s b:Int):wrap64 (wrap64 (x+wrap64 (2+s))+b)=wrap64 (x+(2+s+b)):=by unfold wrap64;omega
def sz:List ByteArray→Int
 | []=>0
 | x::l=>2+(x.size:Int)+sz l
theorem sz_nil:sz []=0:=rfl
theorem rd_get {l:List ByteArray} {i:Nat} (h:i < l.length):rdOf ByteArray.empty l (i:Int)=l[i]:=by
 simp only [rdOf,Int.toNat_natCast,List.getD_eq_getElem?_getD,List.getElem?_eq_getElem h,Option.getD_some]
theorem sz_drop {l:List ByteArray} {i:Nat} (h:i < l.length):sz (l.drop i)=2+((rdOf ByteArray.empty l (i:Int)).size:Int)+sz (l.drop (i+1)):=by
 rw [List.drop_eq_getElem_cons h,sz,rd_get h]
def szN (lv:Int) (high:ByteArray) (keys vals:List ByteArray) (kids:List Int):Int:=wrap64 (21+(high.size:Int)+(sz keys+(if lv=0 then sz vals else 4*(kids.length:Int))))
theorem page_Size_l1 (l:List ByteArray) (hl:l.length*16≤140737488351232):∀ (d i:Nat) (x:Int),i≤l.length→l.length - i=d→wrap64 x=x →
  Ev (fun k=>page_Size.l1 k x l (l.length:Int) (i:Int)) (wrap64 (x+sz (l.drop i))):=by
 intro d
 induction d with
 | zero =>
  intro i x h1 h2 hx
  refine Ev.step (fun _=>page_Size.l1.eq_2 _ _ _ _ _) ?_
  refine Ev.neg (by omega) ?_
  rw [List.drop_eq_nil_of_le (by omega),sz_nil,Int.add_zero,hx]
  exact Ev.now _
 | succ d ih =>
  intro i x h1 h2 hx
  have hi:i < l.length:=by omega
  refine Ev.step (fun _=>page_Size.l1.eq_2 _ _ _ _ _) ?_
  refine Ev.pos (by omega) (Ev.pos (by omega) (Ev.pos (by omega) ?_))
  rw [sz_drop hi,← wrap3,w64 (x:=(i:Int)+1) (by omega) (by omega)]
  exact ih (i+1) _ (by omega) (by omega) (wrap_idem _)
theorem page_Size_l0 (lv lsn rt:Int) (high:ByteArray) (keys vals:List ByteArray) (kids:List Int) (hl:keys.length*16≤140737488351232) (hv:vals.length*16≤140737488351232):∀ (d i:Nat) (x:Int),i≤keys.length→keys.length - i=d→wrap64 x=x →
  Ev (fun k=>page_Size.l0 k x keys (keys.length:Int) (i:Int) lv lsn rt high keys vals kids) (wrap64 (x+(sz (keys.drop i)+(if lv=0 then sz vals else 4*(kids.length:Int))))):=by
 intro d
 induction d with
 | zero =>
  intro i x h1 h2 hx
  refine Ev.step (fun _=>page_Size.l0.eq_2 _ _ _ _ _ _ _ _ _ _ _ _) ?_
  refine Ev.neg (by omega) ?_
  rw [List.drop_eq_nil_of_le (by omega),sz_nil,Int.zero_add]
  by_cases h:lv=0
  ·rw [if_pos h]
   exact Ev.pos h (page_Size_l1 vals hv _ 0 x (Nat.zero_le _) rfl hx)
  ·rw [if_neg h]
   refine Ev.neg h ?_
   rw [wrap_add]
   exact Ev.now _
 | succ d ih =>
  intro i x h1 h2 hx
  have hi:i < keys.length:=by omega
  refine Ev.step (fun _=>page_Size.l0.eq_2 _ _ _ _ _ _ _ _ _ _ _ _) ?_
  refine Ev.pos (by omega) (Ev.pos (by omega) (Ev.pos (by omega) ?_))
  rw [sz_drop hi,Int.add_assoc _ (sz _),← wrap3,w64 (x:=(i:Int)+1) (by omega) (by omega)]
  exact ih (i+1) _ (by omega) (by omega) (wrap_idem _)
theorem page_Size_ev (lv lsn rt:Int) (high:ByteArray) (keys vals:List ByteArray) (kids:List Int) (hl:keys.length*16≤140737488351232) (hv:vals.length*16≤140737488351232) :
  Ev (fun k=>page_Size.f k lv lsn rt high keys vals kids) (szN lv high keys vals kids):=by
 have h:=page_Size_l0 lv lsn rt high keys vals kids hl hv _ 0 (wrap64 ((wrap64 (17+(high.size:Int)))+4)) (Nat.zero_le _) rfl (wrap_idem _)
 have e:wrap64 (wrap64 ((wrap64 (17+(high.size:Int)))+4)+(sz (keys.drop 0)+(if lv=0 then sz vals else 4*(kids.length:Int))))=szN lv high keys vals kids:=by
  unfold szN
  rw [List.drop_zero]
  generalize sz keys+(if lv=0 then sz vals else 4*(kids.length:Int))=t
  unfold wrap64
  omega
 rw [e] at h
 exact h
theorem tl_nil (x:ByteArray):x.toList=([]:List UInt8)↔x.size=0:=by
 rw [tl,← L_len,List.length_eq_zero_iff]
def ckey (x:ByteArray):Int:=if x.size=0∨16 < x.size then 50 else 0
theorem keyCheck (x:ByteArray):key_Check.f x=some (ckey x):=by
 unfold key_Check.f ckey
 by_cases h:x.size=0
 ·rw [if_pos ((tl_nil x).2 h),if_pos (.inl h)]
 ·rw [if_neg (fun e=>h ((tl_nil x).1 e))]
  by_cases k:16 < x.size
  ·rw [if_pos (by omega),if_pos (.inr k)]
  ·rw [if_neg (by omega),if_neg (by omega)]
def kB (high:ByteArray) (keys:List ByteArray) (i:Nat):Bool :=
 decide (ckey (rdOf ByteArray.empty keys (i:Int))=0)&&((decide (i=0) || Op.bytesLess (rdOf ByteArray.empty keys ((i:Int) - 1)).toList (rdOf ByteArray.empty keys (i:Int)).toList)&&(decide (high.toList=([]:List UInt8)) || Op.bytesLess (rdOf ByteArray.empty keys (i:Int)).toList high.toList))
def kAll (high:ByteArray) (keys:List ByteArray):Nat→Nat→Bool
 | 0,_=>true
 | d+1,i=>kB high keys i&&kAll high keys d (i+1)
theorem kAll_yes {high:ByteArray} {keys:List ByteArray} {d i:Nat} (h:kB high keys i=true):kAll high keys (d+1) i=kAll high keys d (i+1):=by rw [kAll,h,Bool.true_and]
theorem kAll_no {high:ByteArray} {keys:List ByteArray} {d i:Nat} (h:kB high keys i=false):kAll high keys (d+1) i=false:=by rw [kAll,h,Bool.false_and]
theorem check_l0 (lv lsn rt:Int) (high:ByteArray) (keys vals:List ByteArray) (kids:List Int) (hl:keys.length*16≤140737488351232):∀ (d i:Nat),i≤keys.length→keys.length - i=d →
  Ev (fun k=>page_Check.l0 k keys (keys.length:Int) (i:Int) lv lsn rt high keys vals kids) (if kAll high keys d i=true then 0 else 60):=by
 intro d
 induction d with
 | zero =>
  intro i h1 h2
  refine Ev.step (fun _=>page_Check.l0.eq_2 _ _ _ _ _ _ _ _ _ _ _) ?_
  exact Ev.neg (by omega) (Ev.now _)
 | succ d ih =>
  intro i h1 h2
  have ih:=ih (i+1) (by omega) (by omega)
  refine Ev.step (fun _=>page_Check.l0.eq_2 _ _ _ _ _ _ _ _ _ _ _) ?_
  refine Ev.pos (by omega) (Ev.pos (by omega) (Ev.pos (by omega) ?_))
  rw [w64 (x:=(i:Int)+1) (by omega) (by omega)]
  refine Ev.bindc (keyCheck _) ?_
  by_cases c1:ckey (rdOf ByteArray.empty keys (i:Int))=0
  ·refine Ev.pos c1 ?_
   by_cases c2:i=0
   ·refine Ev.neg (by omega) ?_
    by_cases ch:high.toList=([]:List UInt8)
    ·rw [kAll_yes (by unfold kB;rw [decide_eq_true c1,decide_eq_true c2,decide_eq_true ch];simp)]
     exact Ev.pos ch ih
    ·refine Ev.neg ch ?_
     by_cases cl:Op.bytesLess (rdOf ByteArray.empty keys (i:Int)).toList high.toList=true
     ·rw [kAll_yes (by unfold kB;rw [decide_eq_true c1,decide_eq_true c2,cl];simp)]
      exact Ev.pos cl ih
     ·rw [kAll_no (by unfold kB;rw [decide_eq_false ch,Bool.eq_false_iff.2 cl];simp)]
      exact Ev.neg cl (Ev.now _)
   ·refine Ev.pos (by omega) ?_
    rw [w64 (x:=(i:Int) - 1) (by omega) (by omega)]
    refine Ev.pos (by omega) (Ev.pos (by omega) ?_)
    by_cases cp:Op.bytesLess (rdOf ByteArray.empty keys ((i:Int) - 1)).toList (rdOf ByteArray.empty keys (i:Int)).toList=true
    ·refine Ev.pos cp ?_
     by_cases ch:high.toList=([]:List UInt8)
     ·rw [kAll_yes (by unfold kB;rw [decide_eq_true c1,decide_eq_true ch,cp];simp)]
      exact Ev.pos ch ih
     ·refine Ev.neg ch ?_
      by_cases cl:Op.bytesLess (rdOf ByteArray.empty keys (i:Int)).toList high.toList=true
      ·rw [kAll_yes (by unfold kB;rw [decide_eq_true c1,cp,cl];simp)]
       exact Ev.pos cl ih
      ·rw [kAll_no (by unfold kB;rw [decide_eq_false ch,Bool.eq_false_iff.2 cl];simp)]
       exact Ev.neg cl (Ev.now _)
    ·rw [kAll_no (by unfold kB;rw [decide_eq_false c2,Bool.eq_false_iff.2 cp];simp)]
     exact Ev.neg cp (Ev.now _)
  ·rw [kAll_no (by unfold kB;rw [decide_eq_false c1];simp)]
   exact Ev.neg c1 (Ev.now _)
def nodeB (lv lsn rt:Int) (high:ByteArray) (keys vals:List ByteArray) (kids:List Int):Bool :=
 (decide (0≤lv)&&decide (lv≤20))&&((decide (0≤lsn)&&decide (lsn≤1099511627776))&&((decide (0≤rt)&&decide (rt≤4096))&&((decide (high.toList=([]:List UInt8)) || decide (ckey high=0))&&(partsB lv keys vals kids&&(decide (szN lv high keys vals kids≤256)&&kAll high keys keys.length 0)))))
theorem page_in_ev (a b:Int):page_in.f a b=some (decide (0≤a)&&decide (a≤b)):=by
 unfold page_in.f
 by_cases h:a≥0
 ·rw [if_pos h,decide_eq_true (show 0≤a from h)];rfl
 ·rw [if_neg h,decide_eq_false (show ¬ 0≤a from h)];rfl
theorem parts_ev (lv lsn rt:Int) (high:ByteArray) (keys vals:List ByteArray) (kids:List Int) (hl:keys.length*16≤140737488351232):page_parts.f lv lsn rt high keys vals kids=some (partsB lv keys vals kids):=by
 unfold page_parts.f
 rw [if_pos (by omega)]
theorem check_j0 (lv lsn rt:Int) (high:ByteArray) (keys vals:List ByteArray) (kids:List Int) (hl:keys.length*16≤140737488351232) (b:Bool):Ev (fun k=>page_Check.j0 k b lv lsn rt high keys vals kids) (if (!b&&kAll high keys keys.length 0)=true then 0 else 60):=by
 refine Ev.step (fun _=>page_Check.j0.eq_2 _ _ _ _ _ _ _ _ _) ?_
 cases b
 ·refine Ev.neg (by decide) ?_
  rw [Bool.not_false,Bool.true_and]
  exact check_l0 lv lsn rt high keys vals kids hl _ 0 (Nat.zero_le _) rfl
 ·exact Ev.pos rfl (Ev.now _)
theorem check_ev (lv lsn rt:Int) (high:ByteArray) (keys vals:List ByteArray) (kids:List Int) (hl:keys.length*16≤140737488351232) (hv:vals.length*16≤140737488351232) :
  Ev (fun k=>page_Check.f k lv lsn rt high keys vals kids) (if nodeB lv lsn rt high keys vals kids=true then 0 else 60):=by
 unfold page_Check.f nodeB
 have bad:=check_j0 lv lsn rt high keys vals kids hl true
 rw [Bool.not_true,Bool.false_and] at bad
 refine Ev.bindc (page_in_ev _ _) ?_
 cases h1:(decide (0≤lv)&&decide (lv≤20))
 ·exact Ev.neg (by decide) bad
 refine Ev.pos rfl (Ev.bindc (page_in_ev _ _) ?_)
 cases h2:(decide (0≤lsn)&&decide (lsn≤1099511627776))
 ·exact Ev.neg (by decide) bad
 refine Ev.pos rfl (Ev.bindc (page_in_ev _ _) ?_)
 cases h3:(decide (0≤rt)&&decide (rt≤4096))
 ·exact Ev.neg (by decide) bad
 refine Ev.pos rfl ?_
 have tail:Ev (fun k=>(page_parts.f lv lsn rt high keys vals kids).bind fun t=>if t=true then ((page_Size.f k lv lsn rt high keys vals kids).bind fun t=>(page_Check.j0 k (decide (t > 256)) lv lsn rt high keys vals kids)) else (page_Check.j0 k true lv lsn rt high keys vals kids)) (if (partsB lv keys vals kids&&(decide (szN lv high keys vals kids≤256)&&kAll high keys keys.length 0))=true then 0 else 60):=by
  refine Ev.bindc (parts_ev lv lsn rt high keys vals kids hl) ?_
  cases h4:partsB lv keys vals kids
  ·exact Ev.neg (by decide) bad
  ·refine Ev.pos rfl (Ev.bind (page_Size_ev lv lsn rt high keys vals kids hl hv) ?_)
   have hj:=check_j0 lv lsn rt high keys vals kids hl (decide (szN lv high keys vals kids > 256))
   have e:(!(decide (szN lv high keys vals kids > 256)))=decide (szN lv high keys vals kids≤256):=by
    by_cases q:szN lv high keys vals kids≤256
    ·rw [decide_eq_true q,decide_eq_false (by omega)];rfl
    ·rw [decide_eq_false q,decide_eq_true (by omega)];rfl
   rw [e] at hj
   rw [Bool.true_and]
   exact hj
 by_cases ch:high.toList=([]:List UInt8)
 ·rw [decide_eq_true ch]
  refine Ev.pos ch ?_
  simpa using tail
 ·rw [decide_eq_false ch]
  refine Ev.neg ch (Ev.bindc (keyCheck _) ?_)
  by_cases ck:ckey high=0
  ·rw [decide_eq_true ck]
   refine Ev.pos ck ?_
   simpa using tail
  ·rw [decide_eq_false ck]
   exact Ev.neg ck bad
theorem rdI_get {l:List Int} {i:Nat} (h:i < l.length):rd l (i:Int)=l[i]:=by
 simp only [rd,Int.toNat_natCast,List.getD_eq_getElem?_getD,List.getElem?_eq_getElem h,Option.getD_some]
end Go.Proofs.Ythfhkcicpfnedaa.Pure
