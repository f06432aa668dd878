-- A part of the text PureNode, thinned by a program of this session.
import Derived.Test.YtgjibcfkjaedfaaTHPrx5
import Derived.Test.YtgjibcfkjaedfaaTHPrxS
import Derived.Test.YtgjibcfkjaedfaaTHPrx16
namespace Go.Proofs.Ytgjibcfkjaedfaa.Pure
open Go.RowKit Go.Proofs.Ytgjibcfkjaedfaa.Pr Go.Proofs.YtgjibcfkjaedfaaW.PrintWords Go.Proofs.YtgjibcfkjaedfaaW.PrintLast
section
variable {α β:Type} {r:α}
theorem Ev.pos {c:Prop} [Decidable c] {A B:Nat→Option α} (h:c) (k:Ev A r):Ev (fun n=>if c then A n else B n) r:=Ev.congr (fun _=>if_pos h) k
theorem Ev.neg {c:Prop} [Decidable c] {A B:Nat→Option α} (h:¬ c) (k:Ev B r):Ev (fun n=>if c then A n else B n) r:=Ev.congr (fun _=>if_neg h) k
theorem Ev.bindc {g:Option β} {f:Nat→β→Option α} {a:β} (h:g=some a) (k:Ev (fun n=>f n a) r):Ev (fun n=>g.bind (f n)) r:=Ev.congr (fun n=>by rw [h];rfl) k
end
abbrev L (s:ByteArray):List UInt8:=s.data.toList
theorem L_len (s:ByteArray):(L s).length=s.size:=by simp [L]
theorem tl (s:ByteArray):s.toList=L s:=Go.ByteArray.toList_eq s
theorem bt_L (s:ByteArray) (i:Nat):bt s (i:Int)=(((L s).getD i 0).toNat:Int):=by
 unfold bt
 by_cases h:i < s.size
 ·simp [h,L]
  rfl
 ·simp [h,L]
theorem bt_get (s:ByteArray) (i:Nat) (h:i < (L s).length):bt s (i:Int)=(((L s)[i]'h).toNat:Int):=by
 rw [bt_L,List.getD_eq_getElem?_getD,List.getElem?_eq_getElem h];rfl
theorem w64 {x:Int} (h0 : -9223372036854775808≤x) (h1:x≤9223372036854775807):wrap64 x=x:=by unfold wrap64;omega
def cb:List UInt8→List UInt8→Int
 | [],[]=>0
 | [],_::_ => -1
 | _::_,[]=>1
 | x::a,y::b=>if x.toNat < y.toNat then -1 else if y.toNat < x.toNat then 1 else cb a b
theorem cb_cons (x y:UInt8) (a b:List UInt8):cb (x::a) (y::b)=if x.toNat < y.toNat then -1 else if y.toNat < x.toNat then 1 else cb a b:=rfl
theorem cb_nil_cons (y:UInt8) (b:List UInt8):cb [] (y::b) = -1:=rfl
theorem cb_cons_nil (y:UInt8) (b:List UInt8):cb (y::b) []=1:=rfl
theorem cb_nil:cb [] []=0:=rfl
theorem bl_cb:∀ a b,Op.bytesLess a b=decide (cb a b < 0)
 | [],[]=>by simp [Op.bytesLess,cb_nil]
 | [],_::_=>by simp [Op.bytesLess,cb_nil_cons]
 | _::_,[]=>by simp [Op.bytesLess,cb_cons_nil]
 | a::u,b::v=>by
  have ih:=bl_cb u v
  rw [cb_cons]
  simp only [Op.bytesLess,ih]
  by_cases h:a=b
  ·subst h;simp
  ·have:a.toNat≠b.toNat:=fun e=>h (UInt8.toNat_inj.1 e)
   by_cases h2:a.toNat < b.toNat
   ·have h3:a < b:=UInt8.lt_iff_toNat_lt.2 h2
    simp [h2,h3]
   ·have h3:¬ a < b:=fun e=>h2 (UInt8.lt_iff_toNat_lt.1 e)
    have h4:b.toNat < a.toNat:=by omega
    simp [h2,h3,h4,h]
theorem cmp_at (a b:ByteArray) (ha:a.size≤9223372036854775806):∀ (d i:Nat),i≤a.size→i≤b.size→a.size - i=d →
  Ev (fun k=>latticeref05_Compare.l0 k a b (i:Int)) (cb ((L a).drop i) ((L b).drop i)):=by
 intro d
 induction d with
 | zero =>
  intro i h1 h2 hd
  have hi:i=a.size:=by omega
  refine Ev.step (fun _=>latticeref05_Compare.l0.eq_2 _ _ _ _) ?_
  refine Ev.neg (by omega) ?_
  refine Ev.step (fun _=>latticeref05_Compare.j1.eq_2 _ _ _ _ _) ?_
  refine Ev.neg (by decide) ?_
  have e1:(L a).drop i=[]:=by rw [List.drop_eq_nil_iff,L_len];omega
  rw [e1]
  by_cases h:a.size < b.size
  ·refine Ev.pos (by omega) ?_
   obtain ⟨y,ys,e2⟩:∃ y ys,(L b).drop i=y::ys:=List.exists_cons_of_ne_nil (by rw [Ne,List.drop_eq_nil_iff,L_len];omega)
   rw [e2]
   exact Ev.now _
  ·have e2:(L b).drop i=[]:=by rw [List.drop_eq_nil_iff,L_len];omega
   rw [e2]
   exact Ev.neg (by omega) (Ev.neg (by omega) (Ev.now _))
 | succ d ih =>
  intro i h1 h2 hd
  have hi:i < a.size:=by omega
  have hla:i < (L a).length:=by rw [L_len];exact hi
  refine Ev.step (fun _=>latticeref05_Compare.l0.eq_2 _ _ _ _) ?_
  refine Ev.pos (by omega) ?_
  refine Ev.step (fun _=>latticeref05_Compare.j1.eq_2 _ _ _ _ _) ?_
  rw [List.drop_eq_getElem_cons hla]
  by_cases hb:i < b.size
  ·have hlb:i < (L b).length:=by rw [L_len];exact hb
   rw [List.drop_eq_getElem_cons hlb]
   rw [cb_cons]
   refine Ev.pos (by simpa using hb) ?_
   refine Ev.pos (by omega) (Ev.pos (by omega) (Ev.pos (by omega) ?_))
   rw [bt_get a i hla,bt_get b i hlb]
   by_cases c1:(L a)[i].toNat < (L b)[i].toNat
   ·rw [if_pos c1]
    exact Ev.pos (by omega) (Ev.now _)
   ·rw [if_neg c1]
    refine Ev.neg (by omega) ?_
    by_cases c2:(L b)[i].toNat < (L a)[i].toNat
    ·rw [if_pos c2]
     exact Ev.pos (by omega) (Ev.now _)
    ·rw [if_neg c2]
     refine Ev.neg (by omega) ?_
     rw [w64 (by omega) (by omega)]
     exact ih (i+1) (by omega) (by omega) (by omega)
  ·have e2:(L b).drop i=[]:=by rw [List.drop_eq_nil_iff,L_len];omega
   rw [e2]
   refine Ev.neg (by simpa using hb) ?_
   exact Ev.neg (by omega) (Ev.pos (by omega) (Ev.now _))
theorem cmp_ev (a b:ByteArray) (ha:a.size≤140737488351232):Ev (fun k=>latticeref05_Compare.f k a b) (cb (L a) (L b)) :=
 cmp_at a b (by omega) _ 0 (Nat.zero_le _) (Nat.zero_le _) rfl
theorem wrap_add (x y:Int):wrap64 (x+wrap64 y)=wrap64 (x+y):=by unfold wrap64;omega
theorem wrap_idem (x:Int):wrap64 (wrap64 x)=wrap64 x:=by unfold wrap64;omega
theorem wrap3 (x s b:Int):wrap64 (wrap64 (x+wrap64 (2+s))+b)=wrap64 (x+(2+s+b)):=by unfold wrap64;omega
theorem wrap3r (x s b:Int):wrap64 (wrap64 (wrap64 (x+2)+s)+b)=wrap64 (x+(2+s+b)):=by unfold wrap64;omega
def sz:List ByteArray→Int
 | []=>0
 | x::l=>2+(x.size:Int)+sz l
theorem sz_nil:sz []=0:=rfl
theorem rd_get {l:List ByteArray} {i:Nat} (h:i < l.length):rdOf ByteArray.empty l (i:Int)=l[i]:=by
 simp only [rdOf,Int.toNat_natCast,List.getD_eq_getElem?_getD,List.getElem?_eq_getElem h,Option.getD_some]
theorem sz_drop {l:List ByteArray} {i:Nat} (h:i < l.length):sz (l.drop i)=2+((rdOf ByteArray.empty l (i:Int)).size:Int)+sz (l.drop (i+1)):=by
 rw [List.drop_eq_getElem_cons h,sz,rd_get h]
def szN (lv:Int) (high:ByteArray) (keys vals:List ByteArray) (kids:List Int):Int:=wrap64 (21+(high.size:Int)+(sz keys+(if lv=0 then sz vals else 4*(kids.length:Int))))
theorem page_Size_l1 (l:List ByteArray) (hl:l.length*16≤140737488351232):∀ (d i:Nat) (x:Int),i≤l.length→l.length - i=d→wrap64 x=x →
  Ev (fun k=>page_Size.l1 k x l (l.length:Int) (i:Int)) (wrap64 (x+sz (l.drop i))):=by
 intro d
 induction d with
 | zero =>
  intro i x h1 h2 hx
  refine Ev.step (fun _=>page_Size.l1.eq_2 _ _ _ _ _) ?_
  refine Ev.neg (by omega) ?_
  rw [List.drop_eq_nil_of_le (by omega),sz_nil,Int.add_zero,hx]
  exact Ev.now _
 | succ d ih =>
  intro i x h1 h2 hx
  have hi:i < l.length:=by omega
  refine Ev.step (fun _=>page_Size.l1.eq_2 _ _ _ _ _) ?_
  refine Ev.pos (by omega) (Ev.pos (by omega) (Ev.pos (by omega) ?_))
  rw [sz_drop hi,← wrap3,w64 (x:=(i:Int)+1) (by omega) (by omega)]
  exact ih (i+1) _ (by omega) (by omega) (wrap_idem _)
theorem page_Size_l0 (lv lsn rt:Int) (high:ByteArray) (keys vals:List ByteArray) (kids:List Int) (hl:keys.length*16≤140737488351232) (hv:vals.length*16≤140737488351232):∀ (d i:Nat) (x:Int),i≤keys.length→keys.length - i=d→wrap64 x=x →
  Ev (fun k=>page_Size.l0 k x keys (keys.length:Int) (i:Int) lv lsn rt high keys vals kids) (wrap64 (x+(sz (keys.drop i)+(if lv=0 then sz vals else 4*(kids.length:Int))))):=by
 intro d
 induction d with
 | zero =>
  intro i x h1 h2 hx
  refine Ev.step (fun _=>page_Size.l0.eq_2 _ _ _ _ _ _ _ _ _ _ _ _) ?_
  refine Ev.neg (by omega) ?_
  rw [List.drop_eq_nil_of_le (by omega),sz_nil,Int.zero_add]
  by_cases h:lv=0
  ·rw [if_pos h]
   exact Ev.pos h (page_Size_l1 vals hv _ 0 x (Nat.zero_le _) rfl hx)
  ·rw [if_neg h]
   refine Ev.neg h ?_
   rw [wrap_add]
   exact Ev.now _
 | succ d ih =>
  intro i x h1 h2 hx
  have hi:i < keys.length:=by omega
  refine Ev.step (fun _=>page_Size.l0.eq_2 _ _ _ _ _ _ _ _ _ _ _ _) ?_
  refine Ev.pos (by omega) (Ev.pos (by omega) (Ev.pos (by omega) ?_))
  rw [sz_drop hi,Int.add_assoc _ (sz _),← wrap3,w64 (x:=(i:Int)+1) (by omega) (by omega)]
  exact ih (i+1) _ (by omega) (by omega) (wrap_idem _)
theorem page_Size_ev (lv lsn rt:Int) (high:ByteArray) (keys vals:List ByteArray) (kids:List Int) (hl:keys.length*16≤140737488351232) (hv:vals.length*16≤140737488351232) :
  Ev (fun k=>page_Size.f k lv lsn rt high keys vals kids) (szN lv high keys vals kids):=by
 have h:=page_Size_l0 lv lsn rt high keys vals kids hl hv _ 0 (wrap64 ((wrap64 (17+(high.size:Int)))+4)) (Nat.zero_le _) rfl (wrap_idem _)
 have e:wrap64 (wrap64 ((wrap64 (17+(high.size:Int)))+4)+(sz (keys.drop 0)+(if lv=0 then sz vals else 4*(kids.length:Int))))=szN lv high keys vals kids:=by
  unfold szN
  rw [List.drop_zero]
  generalize sz keys+(if lv=0 then sz vals else 4*(kids.length:Int))=t
  unfold wrap64
  omega
 rw [e] at h
 exact h
theorem latticeref06_Size_l1 (l:List ByteArray) (hl:l.length*16≤140737488351232):∀ (d i:Nat) (x:Int),i≤l.length→l.length - i=d→wrap64 x=x →
  Ev (fun k=>latticeref06_Size.l1 k x l (l.length:Int) (i:Int)) (wrap64 (x+sz (l.drop i))):=by
 intro d
 induction d with
 | zero =>
  intro i x h1 h2 hx
  refine Ev.step (fun _=>latticeref06_Size.l1.eq_2 _ _ _ _ _) ?_
  refine Ev.neg (by omega) ?_
  rw [List.drop_eq_nil_of_le (by omega),sz_nil,Int.add_zero,hx]
  exact Ev.now _
 | succ d ih =>
  intro i x h1 h2 hx
  have hi:i < l.length:=by omega
  refine Ev.step (fun _=>latticeref06_Size.l1.eq_2 _ _ _ _ _) ?_
  refine Ev.pos (by omega) (Ev.pos (by omega) (Ev.pos (by omega) ?_))
  rw [sz_drop hi,← wrap3r,w64 (x:=(i:Int)+1) (by omega) (by omega)]
  exact ih (i+1) _ (by omega) (by omega) (wrap_idem _)
theorem latticeref06_Size_l0 (lv lsn rt:Int) (high:ByteArray) (keys vals:List ByteArray) (kids:List Int) (hl:keys.length*16≤140737488351232) (hv:vals.length*16≤140737488351232):∀ (d i:Nat) (x:Int),i≤keys.length→keys.length - i=d→wrap64 x=x →
  Ev (fun k=>latticeref06_Size.l0 k x keys (keys.length:Int) (i:Int) lv lsn rt high keys vals kids) (wrap64 (x+(sz (keys.drop i)+(if lv=0 then sz vals else 4*(kids.length:Int))))):=by
 intro d
 induction d with
 | zero =>
  intro i x h1 h2 hx
  refine Ev.step (fun _=>latticeref06_Size.l0.eq_2 _ _ _ _ _ _ _ _ _ _ _ _) ?_
  refine Ev.neg (by omega) ?_
  rw [List.drop_eq_nil_of_le (by omega),sz_nil,Int.zero_add]
  by_cases h:lv=0
  ·rw [if_pos h]
   exact Ev.pos h (latticeref06_Size_l1 vals hv _ 0 x (Nat.zero_le _) rfl hx)
  ·rw [if_neg h]
   refine Ev.neg h ?_
   rw [wrap_add]
   exact Ev.now _
 | succ d ih =>
  intro i x h1 h2 hx
  have hi:i < keys.length:=by omega
  refine Ev.step (fun _=>latticeref06_Size.l0.eq_2 _ _ _ _ _ _ _ _ _ _ _ _) ?_
  refine Ev.pos (by omega) (Ev.pos (by omega) (Ev.pos (by omega) ?_))
  rw [sz_drop hi,Int.add_assoc _ (sz _),← wrap3r,w64 (x:=(i:Int)+1) (by omega) (by omega)]
  exact ih (i+1) _ (by omega) (by omega) (wrap_idem _)
theorem latticeref06_Size_ev (lv lsn rt:Int) (high:ByteArray) (keys vals:List ByteArray) (kids:List Int) (hl:keys.length*16≤140737488351232) (hv:vals.length*16≤140737488351232) :
  Ev (fun k=>latticeref06_Size.f k lv lsn rt high keys vals kids) (szN lv high keys vals kids):=by
 have h:=latticeref06_Size_l0 lv lsn rt high keys vals kids hl hv _ 0 (wrap64 (21+(high.size:Int))) (Nat.zero_le _) rfl (wrap_idem _)
 have e:wrap64 (wrap64 (21+(high.size:Int))+(sz (keys.drop 0)+(if lv=0 then sz vals else 4*(kids.length:Int))))=szN lv high keys vals kids:=by
  unfold szN
  rw [List.drop_zero]
  generalize sz keys+(if lv=0 then sz vals else 4*(kids.length:Int))=t
  unfold wrap64
  omega
 rw [e] at h
 exact h
theorem tl_nil (x:ByteArray):x.toList=([]:List UInt8)↔x.size=0:=by
 rw [tl,← L_len,List.length_eq_zero_iff]
def ckey (x:ByteArray):Int:=if x.size=0∨16 < x.size then 50 else 0
theorem keyCheck (x:ByteArray):key_Check.f x=some (ckey x):=by
 unfold key_Check.f ckey
 by_cases h:x.size=0
 ·rw [if_pos ((tl_nil x).2 h),if_pos (.inl h)]
 ·rw [if_neg (fun e=>h ((tl_nil x).1 e))]
  by_cases k:16 < x.size
  ·rw [if_pos (by omega),if_pos (.inr k)]
  ·rw [if_neg (by omega),if_neg (by omega)]
theorem refCheck (x:ByteArray):latticeref05_Check.f x=some (ckey x):=by
 unfold latticeref05_Check.f ckey
 by_cases h:x.size=0
 ·rw [if_pos (by omega),if_pos (.inl h)]
 ·rw [if_neg (by omega)]
  by_cases k:16 < x.size
  ·rw [if_pos (by omega),if_pos (.inr k)]
  ·rw [if_neg (by omega),if_neg (by omega)]
def kB (high:ByteArray) (keys:List ByteArray) (i:Nat):Bool :=
 decide (ckey (rdOf ByteArray.empty keys (i:Int))=0)&&((decide (i=0) || Op.bytesLess (rdOf ByteArray.empty keys ((i:Int) - 1)).toList (rdOf ByteArray.empty keys (i:Int)).toList)&&(decide (high.toList=([]:List UInt8)) || Op.bytesLess (rdOf ByteArray.empty keys (i:Int)).toList high.toList))
def kAll (high:ByteArray) (keys:List ByteArray):Nat→Nat→Bool
 | 0,_=>true
 | d+1,i=>kB high keys i&&kAll high keys d (i+1)
theorem kAll_yes {high:ByteArray} {keys:List ByteArray} {d i:Nat} (h:kB high keys i=true):kAll high keys (d+1) i=kAll high keys d (i+1):=by rw [kAll,h,Bool.true_and]
theorem kAll_no {high:ByteArray} {keys:List ByteArray} {d i:Nat} (h:kB high keys i=false):kAll high keys (d+1) i=false:=by rw [kAll,h,Bool.false_and]
theorem check_l0 (lv lsn rt:Int) (high:ByteArray) (keys vals:List ByteArray) (kids:List Int) (hl:keys.length*16≤140737488351232):∀ (d i:Nat),i≤keys.length→keys.length - i=d →
  Ev (fun k=>page_Check.l0 k keys (keys.length:Int) (i:Int) lv lsn rt high keys vals kids) (if kAll high keys d i=true then 0 else 60):=by
 intro d
 induction d with
 | zero =>
  intro i h1 h2
  refine Ev.step (fun _=>page_Check.l0.eq_2 _ _ _ _ _ _ _ _ _ _ _) ?_
  exact Ev.neg (by omega) (Ev.now _)
 | succ d ih =>
  intro i h1 h2
  have ih:=ih (i+1) (by omega) (by omega)
  refine Ev.step (fun _=>page_Check.l0.eq_2 _ _ _ _ _ _ _ _ _ _ _) ?_
  refine Ev.pos (by omega) (Ev.pos (by omega) (Ev.pos (by omega) ?_))
  rw [w64 (x:=(i:Int)+1) (by omega) (by omega)]
  refine Ev.bindc (keyCheck _) ?_
  by_cases c1:ckey (rdOf ByteArray.empty keys (i:Int))=0
  ·refine Ev.pos c1 ?_
   by_cases c2:i=0
   ·refine Ev.neg (by omega) ?_
    by_cases ch:high.toList=([]:List UInt8)
    ·rw [kAll_yes (by unfold kB;rw [decide_eq_true c1,decide_eq_true c2,decide_eq_true ch];simp)]
     exact Ev.pos ch ih
    ·refine Ev.neg ch ?_
     by_cases cl:Op.bytesLess (rdOf ByteArray.empty keys (i:Int)).toList high.toList=true
     ·rw [kAll_yes (by unfold kB;rw [decide_eq_true c1,decide_eq_true c2,cl];simp)]
      exact Ev.pos cl ih
     ·rw [kAll_no (by unfold kB;rw [decide_eq_false ch,Bool.eq_false_iff.2 cl];simp)]
      exact Ev.neg cl (Ev.now _)
   ·refine Ev.pos (by omega) ?_
    rw [w64 (x:=(i:Int) - 1) (by omega) (by omega)]
    refine Ev.pos (by omega) (Ev.pos (by omega) ?_)
    by_cases cp:Op.bytesLess (rdOf ByteArray.empty keys ((i:Int) - 1)).toList (rdOf ByteArray.empty keys (i:Int)).toList=true
    ·refine Ev.pos cp ?_
     by_cases ch:high.toList=([]:List UInt8)
     ·rw [kAll_yes (by unfold kB;rw [decide_eq_true c1,decide_eq_true ch,cp];simp)]
      exact Ev.pos ch ih
     ·refine Ev.neg ch ?_
      by_cases cl:Op.bytesLess (rdOf ByteArray.empty keys (i:Int)).toList high.toList=true
      ·rw [kAll_yes (by unfold kB;rw [decide_eq_true c1,cp,cl];simp)]
       exact Ev.pos cl ih
      ·rw [kAll_no (by unfold kB;rw [decide_eq_false ch,Bool.eq_false_iff.2 cl];simp)]
       exact Ev.neg cl (Ev.now _)
    ·rw [kAll_no (by unfold kB;rw [decide_eq_false c2,Bool.eq_false_iff.2 cp];simp)]
     exact Ev.neg cp (Ev.now _)
  ·rw [kAll_no (by unfold kB;rw [decide_eq_false c1];simp)]
   exact Ev.neg c1 (Ev.now _)
def nodeB (lv lsn rt:Int) (high:ByteArray) (keys vals:List ByteArray) (kids:List Int):Bool :=
 (decide (0≤lv)&&decide (lv≤20))&&((decide (0≤lsn)&&decide (lsn≤1099511627776))&&((decide (0≤rt)&&decide (rt≤4096))&&((decide (high.toList=([]:List UInt8)) || decide (ckey high=0))&&(partsB lv keys vals kids&&(decide (szN lv high keys vals kids≤256)&&kAll high keys keys.length 0)))))
theorem page_in_ev (a b:Int):page_in.f a b=some (decide (0≤a)&&decide (a≤b)):=by
 unfold page_in.f
 by_cases h:a≥0
 ·rw [if_pos h,decide_eq_true (show 0≤a from h)];rfl
 ·rw [if_neg h,decide_eq_false (show ¬ 0≤a from h)];rfl
theorem parts_ev (lv lsn rt:Int) (high:ByteArray) (keys vals:List ByteArray) (kids:List Int) (hl:keys.length*16≤140737488351232):page_parts.f lv lsn rt high keys vals kids=some (partsB lv keys vals kids):=by
 unfold page_parts.f
 rw [if_pos (by omega)]
theorem check_j0 (lv lsn rt:Int) (high:ByteArray) (keys vals:List ByteArray) (kids:List Int) (hl:keys.length*16≤140737488351232) (b:Bool):Ev (fun k=>page_Check.j0 k b lv lsn rt high keys vals kids) (if (!b&&kAll high keys keys.length 0)=true then 0 else 60):=by
 refine Ev.step (fun _=>page_Check.j0.eq_2 _ _ _ _ _ _ _ _ _) ?_
 cases b
 ·refine Ev.neg (by decide) ?_
  rw [Bool.not_false,Bool.true_and]
  exact check_l0 lv lsn rt high keys vals kids hl _ 0 (Nat.zero_le _) rfl
 ·exact Ev.pos rfl (Ev.now _)
theorem check_ev (lv lsn rt:Int) (high:ByteArray) (keys vals:List ByteArray) (kids:List Int) (hl:keys.length*16≤140737488351232) (hv:vals.length*16≤140737488351232) :
  Ev (fun k=>page_Check.f k lv lsn rt high keys vals kids) (if nodeB lv lsn rt high keys vals kids=true then 0 else 60):=by
 unfold page_Check.f nodeB
 have bad:=check_j0 lv lsn rt high keys vals kids hl true
 rw [Bool.not_true,Bool.false_and] at bad
 refine Ev.bindc (page_in_ev _ _) ?_
 cases h1:(decide (0≤lv)&&decide (lv≤20))
 ·exact Ev.neg (by decide) bad
 refine Ev.pos rfl (Ev.bindc (page_in_ev _ _) ?_)
 cases h2:(decide (0≤lsn)&&decide (lsn≤1099511627776))
 ·exact Ev.neg (by decide) bad
 refine Ev.pos rfl (Ev.bindc (page_in_ev _ _) ?_)
 cases h3:(decide (0≤rt)&&decide (rt≤4096))
 ·exact Ev.neg (by decide) bad
 refine Ev.pos rfl ?_
 have tail:Ev (fun k=>(page_parts.f lv lsn rt high keys vals kids).bind fun t=>if t=true then ((page_Size.f k lv lsn rt high keys vals kids).bind fun t=>(page_Check.j0 k (decide (t > 256)) lv lsn rt high keys vals kids)) else (page_Check.j0 k true lv lsn rt high keys vals kids)) (if (partsB lv keys vals kids&&(decide (szN lv high keys vals kids≤256)&&kAll high keys keys.length 0))=true then 0 else 60):=by
  refine Ev.bindc (parts_ev lv lsn rt high keys vals kids hl) ?_
  cases h4:partsB lv keys vals kids
  ·exact Ev.neg (by decide) bad
  ·refine Ev.pos rfl (Ev.bind (page_Size_ev lv lsn rt high keys vals kids hl hv) ?_)
   have hj:=check_j0 lv lsn rt high keys vals kids hl (decide (szN lv high keys vals kids > 256))
   have e:(!(decide (szN lv high keys vals kids > 256)))=decide (szN lv high keys vals kids≤256):=by
    by_cases q:szN lv high keys vals kids≤256
    ·rw [decide_eq_true q,decide_eq_false (by omega)];rfl
    ·rw [decide_eq_false q,decide_eq_true (by omega)];rfl
   rw [e] at hj
   rw [Bool.true_and]
   exact hj
 by_cases ch:high.toList=([]:List UInt8)
 ·rw [decide_eq_true ch]
  refine Ev.pos ch ?_
  simpa using tail
 ·rw [decide_eq_false ch]
  refine Ev.neg ch (Ev.bindc (keyCheck _) ?_)
  by_cases ck:ckey high=0
  ·rw [decide_eq_true ck]
   refine Ev.pos ck ?_
   simpa using tail
  ·rw [decide_eq_false ck]
   exact Ev.neg ck bad
theorem bl_neg (a b:ByteArray):Op.bytesLess a.toList b.toList=decide (cb (L a) (L b) < 0):=by rw [tl,tl,bl_cb]
theorem refValue (x:ByteArray):latticeref05_Value.f x=some (if badV x=true then 51 else 0):=by
 unfold latticeref05_Value.f badV
 by_cases h:(x.size:Int) > 32
 ·rw [if_pos h,decide_eq_true h];rfl
 ·rw [if_neg h,decide_eq_false h];rfl
theorem any_drop {α:Type} (p:α→Bool) (l:List α) (i:Nat) (h:i < l.length):(l.drop i).any p=(p l[i] || (l.drop (i+1)).any p):=by
 rw [List.drop_eq_getElem_cons h,List.any_cons]
theorem right_l1 (lv lsn rt:Int) (high:ByteArray) (keys vals:List ByteArray) (kids:List Int) (hl:keys.length*16≤140737488351232) (hv:vals.length*16≤140737488351232):∀ (d i:Nat),i≤vals.length→vals.length - i=d →
  Ev (fun k=>latticeref06_Right.l1 k vals (vals.length:Int) (i:Int) lv lsn rt high keys vals kids) (!((vals.drop i).any badV)&&decide (szN lv high keys vals kids≤256)):=by
 intro d
 induction d with
 | zero =>
  intro i h1 h2
  refine Ev.step (fun _=>latticeref06_Right.l1.eq_2 _ _ _ _ _ _ _ _ _ _ _) ?_
  refine Ev.neg (by omega) ?_
  rw [List.drop_eq_nil_of_le (by omega)]
  exact Ev.bind (latticeref06_Size_ev lv lsn rt high keys vals kids hl hv) (Ev.now _)
 | succ d ih =>
  intro i h1 h2
  have hi:i < vals.length:=by omega
  have ih:=ih (i+1) (by omega) (by omega)
  refine Ev.step (fun _=>latticeref06_Right.l1.eq_2 _ _ _ _ _ _ _ _ _ _ _) ?_
  refine Ev.pos (by omega) (Ev.pos (by omega) (Ev.pos (by omega) (Ev.bindc (refValue _) ?_)))
  rw [w64 (x:=(i:Int)+1) (by omega) (by omega),rd_get hi,any_drop badV vals i hi]
  cases h:badV vals[i]
  ·exact Ev.pos rfl ih
  ·exact Ev.neg (by decide) (Ev.now _)
theorem rdI_get {l:List Int} {i:Nat} (h:i < l.length):rd l (i:Int)=l[i]:=by
 simp only [rd,Int.toNat_natCast,List.getD_eq_getElem?_getD,List.getElem?_eq_getElem h,Option.getD_some]
theorem right_l2 (lv lsn rt:Int) (high:ByteArray) (keys vals:List ByteArray) (kids:List Int) (hl:keys.length*16≤140737488351232) (hv:vals.length*16≤140737488351232) (hk:kids.length*8≤140737488351232):∀ (d i:Nat),i≤kids.length→kids.length - i=d →
  Ev (fun k=>latticeref06_Right.l2 k kids (kids.length:Int) (i:Int) lv lsn rt high keys vals kids) (!((kids.drop i).any badK)&&decide (szN lv high keys vals kids≤256)):=by
 intro d
 induction d with
 | zero =>
  intro i h1 h2
  refine Ev.step (fun _=>latticeref06_Right.l2.eq_2 _ _ _ _ _ _ _ _ _ _ _) ?_
  refine Ev.neg (by omega) ?_
  rw [List.drop_eq_nil_of_le (by omega)]
  exact Ev.bind (latticeref06_Size_ev lv lsn rt high keys vals kids hl hv) (Ev.now _)
 | succ d ih =>
  intro i h1 h2
  have hi:i < kids.length:=by omega
  have ih:=ih (i+1) (by omega) (by omega)
  refine Ev.step (fun _=>latticeref06_Right.l2.eq_2 _ _ _ _ _ _ _ _ _ _ _) ?_
  refine Ev.pos (by omega) (Ev.pos (by omega) (Ev.pos (by omega) ?_))
  rw [w64 (x:=(i:Int)+1) (by omega) (by omega),rdI_get hi,any_drop badK kids i hi]
  by_cases h1:kids[i] < 1
  ·rw [show badK kids[i]=true by unfold badK;rw [decide_eq_true h1];rfl]
   exact Ev.pos h1 (Ev.now _)
  ·refine Ev.neg h1 ?_
   by_cases h2:kids[i] > 4096
   ·rw [show badK kids[i]=true by unfold badK;rw [decide_eq_true h2];simp]
    exact Ev.pos h2 (Ev.now _)
   ·rw [show badK kids[i]=false by unfold badK;rw [decide_eq_false h1,decide_eq_false h2];rfl]
    exact Ev.neg h2 ih
theorem right_tail (lv lsn rt:Int) (high:ByteArray) (keys vals:List ByteArray) (kids:List Int) (hl:keys.length*16≤140737488351232) (hv:vals.length*16≤140737488351232) (hk:kids.length*8≤140737488351232) :
  Ev (fun k=>if lv=0 then (if (vals.length:Int)=(keys.length:Int) then (latticeref06_Right.j3 k (decide ((kids.length:Int) > 0)) lv lsn rt high keys vals kids) else (latticeref06_Right.j3 k true lv lsn rt high keys vals kids)) else (if (kids.length:Int)=(wrap64 ((keys.length:Int)+1)) then (latticeref06_Right.j5 k (decide ((vals.length:Int) > 0)) lv lsn rt high keys vals kids) else (latticeref06_Right.j5 k true lv lsn rt high keys vals kids)))
   (partsB lv keys vals kids&&decide (szN lv high keys vals kids≤256)):=by
 unfold partsB
 have b3:Ev (fun k=>latticeref06_Right.j3 k true lv lsn rt high keys vals kids) false:=Ev.step (fun _=>latticeref06_Right.j3.eq_2 _ _ _ _ _ _ _ _ _) (Ev.pos rfl (Ev.now _))
 have b5:Ev (fun k=>latticeref06_Right.j5 k true lv lsn rt high keys vals kids) false:=Ev.step (fun _=>latticeref06_Right.j5.eq_2 _ _ _ _ _ _ _ _ _) (Ev.pos rfl (Ev.now _))
 by_cases h0:lv=0
 ·rw [if_pos h0]
  refine Ev.pos h0 ?_
  by_cases h1:vals.length=keys.length
  ·rw [decide_eq_true h1,Bool.true_and]
   refine Ev.pos (by omega) ?_
   by_cases h2:kids.length=0
   ·rw [decide_eq_true h2,Bool.true_and,decide_eq_false (by omega)]
    exact Ev.step (fun _=>latticeref06_Right.j3.eq_2 _ _ _ _ _ _ _ _ _) (Ev.neg (by decide) (right_l1 lv lsn rt high keys vals kids hl hv _ 0 (Nat.zero_le _) rfl))
   ·rw [decide_eq_false h2,Bool.false_and,Bool.false_and,decide_eq_true (by omega)]
    exact b3
  ·rw [decide_eq_false h1,Bool.false_and,Bool.false_and]
   exact Ev.neg (by omega) b3
 ·rw [if_neg h0]
  refine Ev.neg h0 ?_
  rw [w64 (x:=(keys.length:Int)+1) (by omega) (by omega)]
  by_cases h1:kids.length=keys.length+1
  ·rw [decide_eq_true h1,Bool.true_and]
   refine Ev.pos (by omega) ?_
   by_cases h2:vals.length=0
   ·rw [decide_eq_true h2,Bool.true_and,decide_eq_false (by omega)]
    exact Ev.step (fun _=>latticeref06_Right.j5.eq_2 _ _ _ _ _ _ _ _ _) (Ev.neg (by decide) (right_l2 lv lsn rt high keys vals kids hl hv hk _ 0 (Nat.zero_le _) rfl))
   ·rw [decide_eq_false h2,Bool.false_and,Bool.false_and,decide_eq_true (by omega)]
    exact b5
  ·rw [decide_eq_false h1,Bool.false_and,Bool.false_and]
   exact Ev.neg (by omega) b5
theorem right_l0 (lv lsn rt:Int) (high:ByteArray) (keys vals:List ByteArray) (kids:List Int) (hl:keys.length*16≤140737488351232) (hv:vals.length*16≤140737488351232) (hk:kids.length*8≤140737488351232) (hg:∀ y ∈ keys,y.size≤140737488351232):∀ (d i:Nat),i≤keys.length→keys.length - i=d →
  Ev (fun k=>latticeref06_Right.l0 k keys (keys.length:Int) (i:Int) lv lsn rt high keys vals kids) (kAll high keys d i&&(partsB lv keys vals kids&&decide (szN lv high keys vals kids≤256))):=by
 intro d
 induction d with
 | zero =>
  intro i h1 h2
  refine Ev.step (fun _=>latticeref06_Right.l0.eq_2 _ _ _ _ _ _ _ _ _ _ _) ?_
  exact Ev.neg (by omega) (right_tail lv lsn rt high keys vals kids hl hv hk)
 | succ d ih =>
  intro i h1 h2
  have hi:i < keys.length:=by omega
  have ih:=ih (i+1) (by omega) (by omega)
  have hs:∀ j:Nat,j < keys.length→(rdOf ByteArray.empty keys (j:Int)).size≤140737488351232:=fun j hj=>by
   rw [rd_get hj]
   exact hg _ (List.getElem_mem _)
  generalize (partsB lv keys vals kids&&decide (szN lv high keys vals kids≤256))=rst at ih ⊢
  have j2t:Ev (fun k=>latticeref06_Right.j2 k (i:Int) (rdOf ByteArray.empty keys (i:Int)) keys (keys.length:Int) (i:Int) true lv lsn rt high keys vals kids) false:=Ev.step (fun _=>latticeref06_Right.j2.eq_2 _ _ _ _ _ _ _ _ _ _ _ _ _ _) (Ev.pos rfl (Ev.now _))
  have j2f:Ev (fun k=>latticeref06_Right.j2 k (i:Int) (rdOf ByteArray.empty keys (i:Int)) keys (keys.length:Int) (i:Int) false lv lsn rt high keys vals kids) ((decide (i=0) || Op.bytesLess (rdOf ByteArray.empty keys ((i:Int) - 1)).toList (rdOf ByteArray.empty keys (i:Int)).toList)&&(kAll high keys d (i+1)&&rst)):=by
   refine Ev.step (fun _=>latticeref06_Right.j2.eq_2 _ _ _ _ _ _ _ _ _ _ _ _ _ _) (Ev.neg (by decide) ?_)
   rw [w64 (x:=(i:Int)+1) (by omega) (by omega)]
   by_cases c2:i=0
   ·rw [decide_eq_true c2,Bool.true_or,Bool.true_and]
    exact Ev.neg (by omega) ih
   ·rw [decide_eq_false c2,Bool.false_or]
    refine Ev.pos (by omega) ?_
    rw [w64 (x:=(i:Int) - 1) (by omega) (by omega)]
    have e1:(i:Int) - 1=((i - 1:Nat):Int):=by omega
    refine Ev.pos (by omega) (Ev.pos (by omega) (Ev.bind (cmp_ev _ _ (by rw [e1];exact hs (i - 1) (by omega))) ?_))
    rw [bl_neg]
    by_cases c:cb (L (rdOf ByteArray.empty keys ((i:Int) - 1))) (L (rdOf ByteArray.empty keys (i:Int))) < 0
    ·rw [decide_eq_true c,Bool.true_and]
     exact Ev.neg (by omega) ih
    ·rw [decide_eq_false c,Bool.false_and]
     exact Ev.pos (by omega) (Ev.now _)
  refine Ev.step (fun _=>latticeref06_Right.l0.eq_2 _ _ _ _ _ _ _ _ _ _ _) ?_
  refine Ev.pos (by omega) (Ev.pos (by omega) (Ev.pos (by omega) (Ev.bindc (refCheck _) ?_)))
  rw [kAll]
  unfold kB
  by_cases c1:ckey (rdOf ByteArray.empty keys (i:Int))=0
  ·rw [decide_eq_true c1,Bool.true_and]
   refine Ev.pos c1 ?_
   by_cases ch:high.toList=([]:List UInt8)
   ·rw [decide_eq_true ch,Bool.true_or,Bool.and_true,Bool.and_assoc]
    exact Ev.pos ch j2f
   ·rw [decide_eq_false ch,Bool.false_or]
    refine Ev.neg ch (Ev.bind (cmp_ev _ _ (hs i hi)) ?_)
    rw [bl_neg (rdOf ByteArray.empty keys (i:Int)) high]
    by_cases c:cb (L (rdOf ByteArray.empty keys (i:Int))) (L high) < 0
    ·rw [decide_eq_true c,Bool.and_true,Bool.and_assoc,decide_eq_false (by omega)]
     exact j2f
    ·rw [decide_eq_false c,Bool.and_false,Bool.false_and,Bool.false_and,decide_eq_true (by omega)]
     exact j2t
  ·rw [decide_eq_false c1,Bool.false_and,Bool.false_and,Bool.false_and]
   exact Ev.neg c1 j2t
theorem right_j0 (lv lsn rt:Int) (high:ByteArray) (keys vals:List ByteArray) (kids:List Int) (hl:keys.length*16≤140737488351232) (hv:vals.length*16≤140737488351232) (hk:kids.length*8≤140737488351232) (hg:∀ y ∈ keys,y.size≤140737488351232) (b:Bool) :
  Ev (fun k=>latticeref06_Right.j0 k b lv lsn rt high keys vals kids) (!b&&(partsB lv keys vals kids&&(decide (szN lv high keys vals kids≤256)&&kAll high keys keys.length 0))):=by
 refine Ev.step (fun _=>latticeref06_Right.j0.eq_2 _ _ _ _ _ _ _ _ _) ?_
 cases b
 ·refine Ev.neg (by decide) ?_
  have h:=right_l0 lv lsn rt high keys vals kids hl hv hk hg _ 0 (Nat.zero_le _) rfl
  rw [Nat.sub_zero] at h
  have e:(kAll high keys keys.length 0&&(partsB lv keys vals kids&&decide (szN lv high keys vals kids≤256)))=(!false&&(partsB lv keys vals kids&&(decide (szN lv high keys vals kids≤256)&&kAll high keys keys.length 0))):=by
   cases kAll high keys keys.length 0 <;> cases partsB lv keys vals kids <;> simp
  rw [← e]
  exact h
 ·exact Ev.pos rfl (Ev.now _)
theorem right_ev (lv lsn rt:Int) (high:ByteArray) (keys vals:List ByteArray) (kids:List Int) (hl:keys.length*16≤140737488351232) (hv:vals.length*16≤140737488351232) (hk:kids.length*8≤140737488351232) (hg:∀ y ∈ keys,y.size≤140737488351232) :
  Ev (fun k=>latticeref06_Right.f k lv lsn rt high keys vals kids) (nodeB lv lsn rt high keys vals kids):=by
 have bad:=right_j0 lv lsn rt high keys vals kids hl hv hk hg true
 rw [Bool.not_true,Bool.false_and] at bad
 unfold latticeref06_Right.f nodeB
 by_cases h1:lv < 0
 ·rw [decide_eq_false (show ¬ 0≤lv by omega),Bool.false_and,Bool.false_and]
  exact Ev.pos h1 bad
 rw [decide_eq_true (show 0≤lv by omega),Bool.true_and]
 refine Ev.neg h1 ?_
 by_cases h2:lv > 20
 ·rw [decide_eq_false (show ¬ lv≤20 by omega),Bool.false_and]
  exact Ev.pos h2 bad
 rw [decide_eq_true (show lv≤20 by omega),Bool.true_and]
 refine Ev.neg h2 ?_
 by_cases h3:lsn < 0
 ·rw [decide_eq_false (show ¬ 0≤lsn by omega),Bool.false_and,Bool.false_and]
  exact Ev.pos h3 bad
 rw [decide_eq_true (show 0≤lsn by omega),Bool.true_and]
 refine Ev.neg h3 ?_
 by_cases h4:lsn > 1099511627776
 ·rw [decide_eq_false (show ¬ lsn≤1099511627776 by omega),Bool.false_and]
  exact Ev.pos h4 bad
 rw [decide_eq_true (show lsn≤1099511627776 by omega),Bool.true_and]
 refine Ev.neg h4 ?_
 by_cases h5:rt < 0
 ·rw [decide_eq_false (show ¬ 0≤rt by omega),Bool.false_and,Bool.false_and]
  exact Ev.pos h5 bad
 rw [decide_eq_true (show 0≤rt by omega),Bool.true_and]
 refine Ev.neg h5 ?_
 by_cases h6:rt > 4096
 ·rw [decide_eq_false (show ¬ rt≤4096 by omega),Bool.false_and]
  exact Ev.pos h6 bad
 rw [decide_eq_true (show rt≤4096 by omega),Bool.true_and]
 refine Ev.neg h6 ?_
 by_cases ch:high.toList=([]:List UInt8)
 ·rw [decide_eq_true ch,Bool.true_or]
  exact Ev.pos ch (right_j0 lv lsn rt high keys vals kids hl hv hk hg false)
 ·rw [decide_eq_false ch,Bool.false_or]
  refine Ev.neg ch (Ev.bindc (refCheck _) ?_)
  by_cases ck:ckey high=0
  ·rw [decide_eq_true ck,show (ckey high != 0)=false by simp [ck]]
   exact right_j0 lv lsn rt high keys vals kids hl hv hk hg false
  ·rw [decide_eq_false ck,show (ckey high != 0)=true by simp [ck],Bool.false_and]
   exact bad
end Go.Proofs.Ytgjibcfkjaedfaa.Pure
