-- A part of the text PureBtw, thinned by a program of this session.
import Derived.Test.YtcocmpblmkdmjaaTNodeHalvesPureNode
import Derived.Test.YtcocmpblmkdmjaaTNodeHalvesPrx3
import Derived.Test.YtcocmpblmkdmjaaTNodeHalvesPrx0
import Derived.Test.YtcocmpblmkdmjaaTNodeHalvesPrx4
namespace Go.Proofs.Ytcocmpblmkdmjaa.Pure
set_option linter.unusedVariables false
open Go.RowKit Go.Proofs.Ytcocmpblmkdmjaa.Pr Go.Proofs.YtcocmpblmkdmjaaW.PrintWords Go.Proofs.YtcocmpblmkdmjaaW.PrintLast
def com:List UInt8→List UInt8→Nat
 | x::a,y::b=>if x=y then com a b+1 else 0
 | _,_=>0
theorem comG_com (a b:ByteArray):∀ n i,i+n=min a.size b.size→comG a b n i=i+com ((L a).drop i) ((L b).drop i)
 | 0,i,h=>by
  have:(L a).drop i=[]∨(L b).drop i=[]:=by
   simp only [List.drop_eq_nil_iff,L_len];omega
  rcases this with e|e <;> rw [e]
  ·simp [comG,com]
  ·cases (L a).drop i <;> simp [comG,com]
 | n+1,i,h=>by
  have h1:i < (L a).length:=by rw [L_len];omega
  have h2:i < (L b).length:=by rw [L_len];omega
  unfold comG
  rw [List.drop_eq_getElem_cons h1,List.drop_eq_getElem_cons h2,bt_get a i h1,bt_get b i h2]
  simp only [com]
  by_cases e:(L a)[i]=(L b)[i]
  ·rw [if_pos e,if_pos (by rw [e]),comG_com a b n (i+1) (by omega)]
   omega
  ·rw [if_neg e,if_neg (fun e2=>e (UInt8.toNat_inj.1 (by omega)))]
   rfl
theorem keyCommon (a b:ByteArray) (ha:a.size≤140737488351232) (hb:b.size≤140737488351232):key_Common.f a b=some (com (L a) (L b):Int):=by
 unfold key_Common.f comN
 rw [if_pos (by omega),comG_com a b _ 0 (by omega)]
 simp
theorem com_lt:∀ a b,cb a b < 0→com a b < b.length
 | [],[],h=>by simp [cb_nil] at h
 | [],y::b,_=>by simp [com]
 | x::a,[],h=>by simp [cb_cons_nil] at h
 | x::a,y::b,h=>by
  simp only [com]
  split
  ·rename_i e
   subst e
   rw [cb_cons,if_neg (by omega),if_neg (by omega)] at h
   have:=com_lt a b h
   simp;omega
  ·simp
theorem com_between:∀ a b i,cb a b < 0→i≤b.length→(0 < cb (b.take i) a↔com a b < i)
 | [],[],i,h,_=>by simp [cb_nil] at h
 | [],y::b,i,_,_=>by
  cases i with
  | zero=>simp [com,cb_nil]
  | succ i=>simp [com,cb_cons_nil]
 | x::a,[],i,h,_=>by simp [cb_cons_nil] at h
 | x::a,y::b,i,h,hi=>by
  rw [cb_cons] at h
  cases i with
  | zero=>simp [com,cb_nil_cons]
  | succ i =>
   simp only [com,List.take_succ_cons]
   rw [cb_cons]
   by_cases e:x=y
   ·subst e
    rw [if_neg (by omega),if_neg (by omega)] at h ⊢
    have:=com_between a b i h (by simpa using hi)
    simp only [if_true]
    omega
   ·have e2:x.toNat≠y.toNat:=fun e3=>e (UInt8.toNat_inj.1 e3)
    have e3:x.toNat < y.toNat:=by
     by_cases e4:x.toNat < y.toNat
     ·exact e4
     ·rw [if_neg e4,if_pos (by omega)] at h;omega
    rw [if_neg (by omega),if_pos e3,if_neg e]
    omega
theorem cb_take:∀ b i,cb (b.take i) b≤0
 | [],i=>by simp [cb_nil]
 | y::b,0=>by simp [cb_nil_cons]
 | y::b,i+1=>by
  rw [List.take_succ_cons,cb_cons,if_neg (by omega),if_neg (by omega)]
  exact cb_take b i
theorem keyBetween_lt (a b:ByteArray) (ha:a.size≤140737488351232) (hb:b.size≤140737488351232) (h:cb (L a) (L b) < 0) :
  key_Between.f a b=some (b.extract 0 (com (L a) (L b)+1),0):=by
 have hc:=com_lt _ _ h
 rw [L_len] at hc
 have hk:=keyCommon a b ha hb
 have hl:Op.bytesLess a.toList b.toList=true:=by rw [tl,tl,bl_cb];simpa using h
 generalize com (L a) (L b)=c at hc hk ⊢
 have e:wrap64 ((c:Int)+1)=((c+1:Nat):Int):=by rw [w64 (by omega) (by omega)];omega
 have e1:(0:Int)≤((c+1:Nat):Int):=by omega
 have e2:((c+1:Nat):Int)≤(b.size:Int):=by omega
 unfold key_Between.f
 rw [if_pos hl,hk,Option.bind_some,e,if_pos e1,if_pos e2,show (((c+1:Nat):Int).toNat)=c+1 from Int.toNat_natCast _]
theorem L_take (b:ByteArray) (i:Nat):L (b.extract 0 i)=(L b).take i:=by rw [L_extract];rfl
end Go.Proofs.Ytcocmpblmkdmjaa.Pure
