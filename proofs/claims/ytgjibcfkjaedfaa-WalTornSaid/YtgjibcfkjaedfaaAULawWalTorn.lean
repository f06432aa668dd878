-- Parts melded by a program of this session.
import Derived.Deep.DeepAppendWide
import Derived.Below
import Derived.Deep.Draws
import Derived.Deep.AppendLies
import Derived.Maps.AppendAt
import Derived.OwnWalk
import Derived.Laws.BytesArg
import Derived.Laws.MakeOwn
import Derived.Laws.OwnMore
import Derived.Deep.OwnRows
import Derived.Tactics
import Derived.Lib.ConvBytes
import Derived.Laws.Slices
import Derived.WalkKit
import Derived.KernelRfl
import Derived.RowKit3
import Derived.Deep.LoopGhost
import Derived.Deep.QuietTactic
import Derived.BigQuiet
import Derived.WideLaws
import Derived.Deep.DeepCutAuto
import Derived.Deep.CutBlock
import Derived.Deep.RegionHeld3
import Derived.Laws.Rows
import Derived.Lib.AppendStr
import Derived.ArgAppend
import Derived.Laws.IdiomCopy
import Derived.RowKit
import Derived.Test.YtgjibcfkjaedfaaTHWWords
import Derived.OrdersHeld
import Derived.Laws.BitsLemmas
import Derived.Test.YtgjibcfkjaedfaaTHWRest
import Derived.Laws.StructEq
import Derived.Test.YtgjibcfkjaedfaaProg
import Derived.Shelf.Abstract
import Derived.Test.YtgjibcfkjaedfaaTHPrx0
import Derived.OneCell
import Derived.Lib.SliceRun
import Derived.Test.YtgjibcfkjaedfaaTHWire
import Derived.RangeFuncBox
import Derived.RangeFuncLeaves
import Derived.OwnWalkIn
import Derived.TacticsInMore
import Derived.LoopNIn
import Derived.LoopIn
import Derived.Lib.Hide
import Derived.Test.YtgjibcfkjaedfaaTHBack
import Derived.Outline
import Derived.Test.YtgjibcfkjaedfaaTHRead
import Derived.Test.YtgjibcfkjaedfaaTHNdFrom
import Derived.Laws.BitsAllLaws
import Derived.Test.YtgjibcfkjaedfaaTHCrc
import Derived.Test.YtgjibcfkjaedfaaTHPrx3
import Derived.Test.YtgjibcfkjaedfaaTHPrx4
import Derived.Test.YtgjibcfkjaedfaaTHPrx5
import Derived.Test.YtgjibcfkjaedfaaTHPrx1
import Derived.Test.YtgjibcfkjaedfaaTHRefW
import Derived.Test.YtgjibcfkjaedfaaTHPrxS
import Derived.Test.YtgjibcfkjaedfaaTHPrx15
import Derived.Test.YtgjibcfkjaedfaaTHPrx16
import Derived.Test.YtgjibcfkjaedfaaTHPureNode
import Derived.Deep.RegionLaw
import Derived.Laws.CopyOwn
import Derived.Test.YtgjibcfkjaedfaaTHPageEnc
import Derived.Test.YtgjibcfkjaedfaaTHPageFit
import Derived.Test.YtgjibcfkjaedfaaTHPageRd
import Derived.Test.YtgjibcfkjaedfaaTHPageNode
import Derived.Test.YtgjibcfkjaedfaaTHPageDec
import Derived.Test.YtgjibcfkjaedfaaTHCrcR
import Derived.Test.YtgjibcfkjaedfaaTHPageRt
import Derived.Test.YtgjibcfkjaedfaaTHPrx17
import Derived.Test.YtgjibcfkjaedfaaTHPagePure
import Derived.Test.YtgjibcfkjaedfaaTHRefRd
import Derived.Test.YtgjibcfkjaedfaaTHPageRef
import Derived.Test.YtgjibcfkjaedfaaTHRecIR
import Derived.Lib.SlBytesConst
import Derived.StillTailTactics
import Derived.Test.YtgjibcfkjaedfaaTHRecV
import Derived.Test.YtgjibcfkjaedfaaTHRecChkP
import Derived.Test.YtgjibcfkjaedfaaTHRecChkA
import Derived.Test.YtgjibcfkjaedfaaTHRecChkB
import Derived.Test.YtgjibcfkjaedfaaTHRecChkE
import Derived.Test.YtgjibcfkjaedfaaTHRecChk
import Derived.Test.YtgjibcfkjaedfaaTHRecEnc
import Derived.Test.YtgjibcfkjaedfaaTHRecRead
import Derived.Test.YtgjibcfkjaedfaaTHRecDec
import Derived.Test.YtgjibcfkjaedfaaTHRecRight
import Derived.Test.YtgjibcfkjaedfaaTHRecRefDec
import Derived.Test.YtgjibcfkjaedfaaTHRecLaw
import Derived.Test.YtgjibcfkjaedfaaTHRecK
import Derived.Test.YtgjibcfkjaedfaaTHPrx19
import Derived.Test.YtgjibcfkjaedfaaTHPrx26
import Derived.Test.YtgjibcfkjaedfaaTHRecEncs
import Derived.Test.YtgjibcfkjaedfaaKWA
import Derived.Test.YtgjibcfkjaedfaaKWB
import Derived.WalkMore
import Derived.Test.YtgjibcfkjaedfaaKRA
import Derived.Test.YtgjibcfkjaedfaaKWS
import Derived.Test.YtgjibcfkjaedfaaRows
import Derived.OpenShut
import Derived.SizedLaws
import Derived.ChangeArms
import Derived.ChangeOld
import Derived.DataReads
import Derived.ProofKit
import Derived.ShutString
import Derived.Carry
import Derived.Deep.CondSized
set_option linter.unusedVariables false
set_option linter.unusedSimpArgs false
namespace Go.Proofs.YtgjibcfkjaedfaaW.PrintWords
open Go.RowKit
theorem ReadsInt.take_ {w:World} {k:IntKind} {A:Option Addr} {n:Nat} {xs:List Int} (h:ReadsInt w k A n xs) (i:Nat) (hi:i≤n):ReadsInt w k A i (xs.take i):=by
  refine ⟨by rw [List.length_take,h.1];omega,by have:=h.2.1;omega,fun hp=>?_⟩
  obtain ⟨ad,e,hc⟩:=h.2.2 (by omega)
  refine ⟨ad,e,fun j hj=>?_⟩
  rw [hc j (by omega)]
  simp [List.getD_eq_getElem?_getD,hj]
theorem LeO.ite {α:Type} {c:Prop} [Decidable c] {a a' b b':Option α} (h:LeO a a') (k:LeO b b'):LeO (if c then a else b) (if c then a' else b'):=by
  split
  · exact h
  · exact k
section
variable {P:Program} {ops:Array Oper} {rest:List Oper} {o:Oper} {a:Act} {Q:Exit→Act→World→Prop}
end
section
variable {P:Program} {ops:Array Oper} {o:Oper} {a:Act} {Q:Exit→Act→World→Prop} {K:Act→World→Prop}
end
section
variable {α:Type} {enc:α→Value} {d:α}
theorem ReadsOf.take_ {w:World} {A:Option Addr} {n:Nat} {xs:List α} (h:ReadsOf enc d w A n xs) (i:Nat) (hi:i≤n):ReadsOf enc d w A i (xs.take i):=by
  refine ⟨by rw [List.length_take,h.1];omega,by have:=h.2.1;omega,fun hp=>?_⟩
  obtain ⟨ad,e,hc⟩:=h.2.2 (by omega)
  refine ⟨ad,e,fun j hj=>?_⟩
  rw [hc j (by omega)]
  simp [List.getD_eq_getElem?_getD,hj]
end
section
variable {α:Type} {P:Program} {ops:Array Oper} {rest:List Oper} {o:Oper} {a:Act} {Q:Exit→Act→World→Prop}
end
section
variable {P:Program}
end
section
variable {α:Type} {R R':α→List Value→Prop} {e:TypeId} {size:Nat} {w w1:World} {base:Nat} {v:Value} {ps:List α}
theorem OwnRow.lit (W:World) (base:Nat) {inner:List Value} (hr:Reps R size ps inner) (hb:base≤W.heap.size) (hm:ps.length≤9223372036854775807) :
    OwnRow R e size (W.alloc (.cells inner.toArray e)) base (.slice (some ⟨W.heap.size,0,none⟩) ps.length ps.length) ps:=by
  have h:=World.ownsRow_lit (base:=base) (e:=e) (size:=size) W inner.toArray ps.length hb (by simpa [maxLen] using hm) (by simpa using hr.1)
  exact ⟨inner,by simpa using h,hr⟩
end
section
variable {P:Program} {ops:Array Oper} {rest:List Oper} {o:Oper} {a:Act} {Q:Exit→Act→World→Prop} {α:Type} {R:α→List Value→Prop}
end
namespace Kd
section
variable {α:Type} {d:Kd α} {e:Nat} {w w1:World} {base:Nat} {ok ok':Nat→Prop} {v:Value} {xs:List α}
end
section
variable {P:Program} {ops:Array Oper} {rest:List Oper} {o:Oper} {a:Act} {Q:Exit→Act→World→Prop} {α:Type}
end
section
variable {P:Program} {ops:Array Oper} {o:Oper} {a:Act} {Q:Exit→Act→World→Prop} {Kc:Act→World→Prop} {α:Type}
end
end Kd
namespace Kd
end Kd
namespace Kd
section
variable {α β:Type} {d:Kd α} {d':Kd β} {e e':Nat} {w w1 W:World} {base b b':Nat} {ok ok' okv oku:Nat→Prop} {v u:Value} {xs:List α} {ys:List β}
end
section
variable {w W:World} {A:Option Addr} {n:Nat}
end
section
variable {P:Program} {ops:Array Oper} {rest:List Oper} {o:Oper} {a:Act} {Q:Exit→Act→World→Prop}
end
end Kd
section
variable {P:Program}
end
section
variable {w w1:World} {base n size:Nat} {e:TypeId} {v:Value} {xs:List Value}
end
namespace Kd
section
variable {α:Type} {d:Kd α} {e:Nat} {w w1 W:World} {base:Nat} {ok ok':Nat→Prop} {v:Value} {xs:List α}
end
end Kd
namespace Kd
section
variable {α:Type} {d:Kd α} {e e':Nat} {w w1 W:World} {base:Nat} {ok:Nat→Prop} {u v:Value} {xs:List α}
end
end Kd
namespace Kd
section
variable {P:Program} {ops:Array Oper} {rest:List Oper} {o:Oper} {a:Act} {Q:Exit→Act→World→Prop} {α:Type}
end
end Kd
namespace Kd
section
variable {α:Type} {k:Kd α} {w:World} {A:Option Addr} {xs:List α} {m c:Nat}
end
end Kd
section
variable {P:Program}
end
theorem reads_take {w:World} {k:IntKind} {A:Option Addr} {xs:List Int} (h:ReadsInt w k A xs.length xs) (i:Nat) (hi:i≤xs.length):ReadsInt w k A (xs.take i).length (xs.take i):=by
  have:=h.take_ i hi
  rwa [show (xs.take i).length=i by rw [List.length_take];omega]
section
variable {P:Program} {ops:Array Oper} {rest:List Oper} {o:Oper} {a:Act} {Q:Exit→Act→World→Prop}
end
section
variable {P:Program} {ops:Array Oper} {rest:List Oper} {o:Oper} {a:Act} {Q:Exit→Act→World→Prop} {W:World}
end
end Go.Proofs.YtgjibcfkjaedfaaW.PrintWords

namespace Go.Proofs.YtgjibcfkjaedfaaW.PrintLast
section
variable {P:Program} {ops:Array Oper} {Q:Exit→Act→World→Prop} {md:Region.Mode} {S:World→Prop} {ds:List Nat}
def Region.reachB (md:Region.Mode) (ops:Array Oper) (i:Nat):Nat→Nat→Bool
 | 0,_=>false
 | fuel+1,d=>match ops[d]? with
  | some o=>o.after.any fun e=>Region.binds md e&&(e.on==i || Region.reachB md ops i fuel e.on)
  | none=>false
def Region.closedB (md:Region.Mode) (ops:Array Oper) (listed:Array Bool):Bool :=
 (List.range ops.size).all fun j=>!listed.getD j false || match ops[j]? with
  | some o=>o.after.all fun e=>!Region.binds md e || listed.getD e.on false
  | none=>true
def Region.lastB (md:Region.Mode) (ops:Array Oper) (listed:Array Bool) (ds:List Nat) (i:Nat):Bool :=
 ds.all fun d=>listed.getD d true || Region.reachB md ops i ops.size d
theorem Region.closedB_spec {listed:Array Bool} (h:Region.closedB md ops listed=true):ListedClosed md ops listed:=by
 intro j oj hj hl e he hb
 have hlt:j < ops.size:=(Array.getElem?_eq_some_iff.1 hj).1
 have h1:=List.all_eq_true.1 h j (List.mem_range.2 hlt)
 simp only [hl,hj,Bool.not_true,Bool.false_or] at h1
 have h2:=Array.all_eq_true_iff_forall_mem.1 h1 e he
 simpa [hb] using h2
theorem Region.reach_listed {listed:Array Bool} {i:Nat} (hc:ListedClosed md ops listed):∀ (fuel d:Nat),Region.reachB md ops i fuel d=true→listed.getD d false=true→listed.getD i false=true
 | 0,_,h,_=>by simp [Region.reachB] at h
 | fuel+1,d,h,hl=>by
  unfold Region.reachB at h
  cases ho:ops[d]? with
  | none=>rw [ho] at h;simp at h
  | some o =>
   rw [ho] at h
   obtain ⟨e,he,h1⟩:=Array.any_eq_true'.1 h
   simp only [Bool.and_eq_true,Bool.or_eq_true,beq_iff_eq] at h1
   have hle:=hc d o ho hl e he h1.1
   rcases h1.2 with h2|h2
   ·rw [← h2];exact hle
   ·exact Region.reach_listed hc fuel e.on h2 hle
theorem Region.reach_not_ready {listed:Array Bool} {i d fuel:Nat} (hc:ListedClosed md ops listed) (hr:Region.reachB md ops i fuel d=true) (hun:listed.getD i true=false):d ∉ Region.ready md ops listed:=by
 intro hd
 obtain ⟨_,o,ho,hall⟩:=mem_ready.1 hd
 have hi:listed.getD i false=true:=by
  cases fuel with
  | zero=>simp [Region.reachB] at hr
  | succ n =>
   unfold Region.reachB at hr
   rw [ho] at hr
   obtain ⟨e,he,h1⟩:=Array.any_eq_true'.1 hr
   simp only [Bool.and_eq_true,Bool.or_eq_true,beq_iff_eq] at h1
   have hle:=hall e he h1.1
   rcases h1.2 with h2|h2
   ·rw [← h2];exact hle
   ·exact Region.reach_listed hc n e.on h2 hle
 rcases Nat.lt_or_ge i listed.size with h'|h'
 ·simp [h'] at hun hi
  rw [hun] at hi
  cases hi
 ·simp [Array.getElem?_eq_none h'] at hun
theorem wpAnyLast_first {i:Nat} {oi:Oper} {v:Value} (hi:ops[i]?=some oi) (hsel:∀ (j:Nat) (o:Oper) cs b,ops[j]?=some o→o.op≠.select cs b)
  (hQ:∀ c a w,Q (.panic c) (a.put oi.dst v) w→Q (.panic c) a w) (n:Nat) :
  ∀ (fuel:Nat) (listed:Array Bool) (a:Act) (w:World),
   (∀ j oj,ops[j]?=some oj→j≠i→listed.getD j true=false→(∀ e ∈ oj.after,Region.binds md e=true→e.on≠i)→oi.apart ops oj=true) →
   ListedClosed md ops listed→(∀ d ∈ ds,listed.getD d true=false→Region.reachB md ops i n d=true) →
   i ∈ Region.ready md ops listed→YieldsIf P ops S oi v a→S w →
   wpAnyLast P md ops Q S ds fuel (listed.setIfInBounds i true) (a.put oi.dst v) w→wpAnyLast P md ops Q S ds (fuel+1) listed a w:=by
 intro fuel
 induction fuel with
 | zero =>
  intro listed a w _ _ _ hr hy hS H
  refine ⟨fun h=>(by rw [h] at hr;cases hr),fun j hj=>?_⟩
  by_cases hji:j=i
  ·subst hji;exact hy.wpOp hi hS ⟨fun _ h=>h,H⟩
  ·have:=ready_mono hj hji
   rw [H.1] at this
   cases this
 | succ fuel ih =>
  intro listed a w hfree hc hd hr hy hS H
  refine ⟨fun h=>(by rw [h] at hr;cases hr),fun j hj=>?_⟩
  by_cases hji:j=i
  ·subst hji;exact hy.wpOp hi hS ⟨fun _ h=>h,H⟩
  ·have h1:=H.2 j (ready_mono hj hji)
   obtain ⟨hjun,oj,hoj,hall⟩:=mem_ready.1 hj
   have hiun:=(mem_ready.1 hr).1
   have hnot:∀ e ∈ oj.after,Region.binds md e=true→e.on≠i:=fun e he hb heq=>by
    have h1:=hall e he hb
    rw [heq] at h1
    rcases Nat.lt_or_ge i listed.size with h'|h'
    ·simp [h'] at hiun h1;rw [hiun] at h1;cases h1
    ·simp [Array.getElem?_eq_none h'] at h1
   have hjd:j ∉ ds:=fun hm=>Region.reach_not_ready hc (hd j hm hjun) hiun hj
   have h2:=wpOp_putIf hoj (hfree j oj hoj hji hjun hnot) (fun cs b=>hsel i oi cs b hi) (fun cs b=>hsel j oj cs b hoj) hQ hy h1
   have hfree':∀ k ok,ops[k]?=some ok→k≠i→(listed.setIfInBounds j true).getD k true=false →
     (∀ e ∈ ok.after,Region.binds md e=true→e.on≠i)→oi.apart ops ok=true:=fun k ok hk hki hun hno=>by
    refine hfree k ok hk hki ?_ hno
    by_cases hjk:j=k
    ·subst hjk;exact hjun
    ·rw [getD_set_ne true hjk] at hun;exact hun
   have hd':∀ d ∈ ds,(listed.setIfInBounds j true).getD d true=false→Region.reachB md ops i n d=true:=fun d hm hun=>by
    refine hd d hm ?_
    by_cases hjk:j=d
    ·subst hjk;exact hjun
    ·rw [getD_set_ne true hjk] at hun;exact hun
   refine wpOp_mono (fun a' w' h3=>⟨h3.2.1,ih (listed.setIfInBounds j true) a' w' hfree' (hc.set hj) hd' (ready_mono hr (Ne.symm hji)) h3.1 (h3.2.1 hjd hS) ?_⟩) h2
   rw [Array.setIfInBounds_comm _ _ hji]
   exact h3.2.2
theorem wpAnyLast_take {i:Nat} {oi:Oper} {v:Value} {fuel:Nat} {listed:Array Bool} {a:Act} {w:World} (hi:ops[i]?=some oi)
  (hs:Region.noSelect ops=true) (hf:Region.free md ops listed i=true) (hr:(Region.ready md ops listed).contains i=true)
  (hc:Region.closedB md ops listed=true) (hl:Region.lastB md ops listed ds i=true)
  (hQ:∀ c a w,Q (.panic c) (a.put oi.dst v) w→Q (.panic c) a w) (hy:YieldsIf P ops S oi v a) (hS:S w)
  (h:wpAnyLast P md ops Q S ds fuel (listed.setIfInBounds i true) (a.put oi.dst v) w):wpAnyLast P md ops Q S ds (fuel+1) listed a w :=
 wpAnyLast_first hi (Region.noSelect_spec hs) hQ ops.size fuel listed a w (Region.free_spec hi hf) (Region.closedB_spec hc)
  (fun d hm hun=>by have:=List.all_eq_true.1 hl d hm;rw [hun] at this;simpa using this) (by simpa using hr) hy hS h
end
section
variable {P:Program} {ops:Array Oper} {Q:Exit→Act→World→Prop} {md:Region.Mode} {S:World→Prop} {ds:List Nat}
def takeB (md:Region.Mode) (ops:Array Oper) (ds:List Nat) (l l':Array Bool) (i:Nat):Bool :=
 Region.noSelect ops&&Region.free md ops l i&&(Region.ready md ops l).contains i&&Region.closedB md ops l&&Region.lastB md ops l ds i&&(l.setIfInBounds i true==l')
theorem take_ {i:Nat} {N:Option Tmp} {oi:Oper} {v:Value} {fuel:Nat} {l:Array Bool} {a:Act} {w:World} (l':Array Bool) (hi:ops[i]?=some oi) (hN:oi.dst=N) (hc:takeB md ops ds l l' i=true)
  (hQ:∀ c a w,Q (.panic c) (a.put oi.dst v) w→Q (.panic c) a w) (hy:YieldsIf P ops S oi v a) (hS:S w) {a':Act} (ha:a.put N v=a')
  (h:wpAnyLast P md ops Q S ds fuel l' a' w):wpAnyLast P md ops Q S ds (fuel+1) l a w:=by
 subst ha
 subst hN
 simp only [takeB,Bool.and_eq_true,beq_iff_eq] at hc
 obtain ⟨⟨⟨⟨⟨h1,h2⟩,h3⟩,h4⟩,h5⟩,h6⟩:=hc
 subst h6
 exact wpAnyLast_take hi h1 h2 h3 h4 h5 hQ hy hS h
end
end Go.Proofs.YtgjibcfkjaedfaaW.PrintLast

namespace Go.Proofs.YtgjibcfkjaedfaaW.PrintWords
open Go.RowKit
namespace Foot
variable {P Q:World→Prop} {W W1:World} {ok ok':Nat→Prop}
theorem bound (h:Foot P W ok):Foot P W (fun k=>ok k∧k < W.heap.size):=fun W' hW=>h W' (fun k hk hlt=>hW k ⟨hk,hlt⟩ hlt)
end Foot
namespace Kd
section
variable {α β:Type} {d:Kd α} {e base n n' cc g N:Nat} {ok ok' okp S:Nat→Prop} {w w0 w1 W W1:World} {A A':Option Addr} {u v v1:Value} {xs:List α} {xs':List β} {d':Kd β} {x:α} {c:List Value}
end
end Kd
end Go.Proofs.YtgjibcfkjaedfaaW.PrintWords

namespace Go.Proofs.Ytgjibcfkjaedfaa.Wal
open Go.RowKit Go.Proofs.YtgjibcfkjaedfaaW.PrintWords Go.Proofs.YtgjibcfkjaedfaaW.PrintLast Go.Proofs.YtgjibcfkjaedfaaW.PrintMore Go.Proofs.Ytgjibcfkjaedfaa.Wire Go.Proofs.Ytgjibcfkjaedfaa.Pr Go.Proofs.Ytgjibcfkjaedfaa.Rec
open Go.Proofs.Ytgjibcfkjaedfaa.Back (AllB)
set_option linter.unusedVariables false
set_option linter.unusedSimpArgs false
theorem rd_snoc_lt {l:List RecS} {r:RecS} {k:Nat} (h:k < l.length):rd_T53 (l++[r]) (k:Int)=rd_T53 l (k:Int):=by
 unfold rd_T53
 rw [Int.toNat_natCast,List.getD_eq_getElem?_getD,List.getD_eq_getElem?_getD,List.getElem?_append_left h]
theorem rd_snoc_eq {l:List RecS} {r:RecS}:rd_T53 (l++[r]) (l.length:Int)=r:=by
 unfold rd_T53
 rw [Int.toNat_natCast,List.getD_eq_getElem?_getD,List.getElem?_append_right (Nat.le_refl _),Nat.sub_self]
 rfl
theorem LsnOk.snoc {l:List RecS} {r:RecS} (h:LsnOk l) (hr:r.f0=(l.length:Int)+1):LsnOk (l++[r]):=by
 intro k hk
 rw [List.length_append,List.length_singleton] at hk
 by_cases hlt:k < l.length
 ·rw [rd_snoc_lt hlt];exact h k hlt
 ·obtain rfl:k=l.length:=by omega
  rw [rd_snoc_eq];exact hr
theorem Reads.lsn {xs:List Int} {l:List RecS} {u:Nat} (h:Reads xs l u):LsnOk l:=by
 induction h with
 | nil=>intro k hk;simp at hk
 | snoc h hd h1 h2 h3 ih=>exact ih.snoc h1
theorem fromF_all {l:List RecS} {lsn:Int} (h:l.length≤65536) (hl:lsn≤1):fromF l lsn 100000=l:=by
 unfold fromF
 have hm:max lsn 1=1:=by omega
 rw [hm]
 by_cases hz:(l.length:Int) < 1
 ·have:l=[]:=List.length_eq_zero_iff.1 (by omega)
  subst this
  rw [if_pos (.inl (by decide))]
 ·rw [if_neg (by omega),show (min 100000 ((l.length:Int) - 1+1)).toNat=l.length by omega]
  show (l.drop 0).take l.length=l
  rw [List.drop_zero,List.take_length]
end Go.Proofs.Ytgjibcfkjaedfaa.Wal

namespace Go.Proofs.Ytgjibcfkjaedfaa.Wal
open Go.RowKit Go.Proofs.YtgjibcfkjaedfaaW.PrintWords Go.Proofs.YtgjibcfkjaedfaaW.PrintLast Go.Proofs.YtgjibcfkjaedfaaW.PrintMore Go.Proofs.Ytgjibcfkjaedfaa.Wire Go.Proofs.Ytgjibcfkjaedfaa.Pr Go.Proofs.Ytgjibcfkjaedfaa.Rec
open Go.Proofs.Ytgjibcfkjaedfaa.Back (AllB)
set_option linter.unusedVariables false
set_option linter.unusedSimpArgs false
def StAt (w:World) (b:Nat) (kd sn a0 a1 a2 a3 a4 a5:Int) (a6 a7:ByteArray):Prop:=w.heap[b]?=some (.cells #[.int .i64 kd,.int .i64 sn,.int .i64 a0,.int .i64 a1,.int .i64 a2,.int .i64 a3,.int .i64 a4,.int .i64 a5,.string a6,.string a7] 82 (0,0))
section
variable {w w1:World} {b:Nat} {kd sn a0 a1 a2 a3 a4 a5:Int} {a6 a7:ByteArray} {S:Nat→Prop}
theorem StAt.cells (h:StAt w b kd sn a0 a1 a2 a3 a4 a5 a6 a7):w.cell? ⟨b,0,none⟩=some (.int .i64 kd)∧w.cell? ⟨b,1,none⟩=some (.int .i64 sn)∧w.cell? ⟨b,2,none⟩=some (.int .i64 a0)∧w.cell? ⟨b,3,none⟩=some (.int .i64 a1)∧w.cell? ⟨b,4,none⟩=some (.int .i64 a2)∧w.cell? ⟨b,5,none⟩=some (.int .i64 a3)∧w.cell? ⟨b,6,none⟩=some (.int .i64 a4)∧w.cell? ⟨b,7,none⟩=some (.int .i64 a5)∧w.cell? ⟨b,8,none⟩=some (.string a6)∧w.cell? ⟨b,9,none⟩=some (.string a7):=by
 unfold StAt at h
 simp [World.cell?,h]
theorem StAt.chg (h:StAt w b kd sn a0 a1 a2 a3 a4 a5 a6 a7) (hc:Chg w w1 S) (hn:¬ S b):StAt w1 b kd sn a0 a1 a2 a3 a4 a5 a6 a7:=hc.blk h hn
theorem StAt.below (h:StAt w b kd sn a0 a1 a2 a3 a4 a5 a6 a7) (hB:Below w.heap.size w w1):StAt w1 b kd sn a0 a1 a2 a3 a4 a5 a6 a7:=h.chg (Chg.of_below hB (fun _=>False)) (fun h=>h)
theorem StAt.num (h:StAt w b kd sn a0 a1 a2 a3 a4 a5 a6 a7):w.cell? ⟨b,1,none⟩=some (.int .i64 sn):=h.cells.2.1
end
structure LogOk (l:List RecS):Prop where
 len:l.length≤65536
 lsn:LsnOk l
 right:allR l
theorem LogOk.size {l:List RecS} (h:LogOk l):∀ x ∈ l,x.f7.size≤140737488351232:=fun x hx=>by
 have:=(fits_of (h.right x hx)).1.h8
 show (toV x).2.2.2.2.2.2.2.size≤140737488351232
 omega
theorem LogOk.nil:LogOk []:=⟨by simp,fun k hk=>by simp at hk,fun x hx=>by simp at hx⟩
theorem LogOk.app {l:List RecS} (h:LogOk l) (r:RecS):LogOk (appF l r).1:=by
 unfold appF
 by_cases hr:rightV (toV (withLsn r ((l.length:Int)+1)))=true
 ·rw [if_pos hr]
  by_cases he:r.f1 < lastE l
  ·rw [if_pos he];exact h
  ·rw [if_neg he]
   by_cases hf:l.length=65536
   ·rw [if_pos hf];exact h
   ·rw [if_neg hf]
    refine ⟨?_,h.lsn.snoc rfl,allR_snoc h.right hr⟩
    rw [List.length_append,List.length_singleton]
    have:=h.len
    omega
 ·rw [if_neg hr];exact h
theorem rd_take {l:List RecS} {m k:Nat} (h:k < m) (hm:m≤l.length):rd_T53 (l.take m) (k:Int)=rd_T53 l (k:Int):=by
 unfold rd_T53
 rw [Int.toNat_natCast,List.getD_eq_getElem?_getD,List.getD_eq_getElem?_getD,List.getElem?_take_of_lt h]
def Two (base:Nat) (W:World) (g g':Nat) (l:List RecS) (fl:Int):Prop :=
 ∃ ok ok':Nat→Prop,LogAt 98 W ok g l fl∧LogAt 37 W ok' g' l fl∧(∀ k,ok k→ok' k→False)∧(∀ k,ok k→base≤k)∧(∀ k,ok' k→base≤k)
theorem Two.below {base:Nat} {W W1:World} {g g':Nat} {l:List RecS} {fl:Int} (h:Two base W g g' l fl) (hB:Below W.heap.size W W1):Two base W1 g g' l fl:=by
 obtain ⟨ok,ok',h1,h2,h3,h4,h5⟩:=h
 exact ⟨ok,ok',h1.below hB,h2.below hB,h3,h4,h5⟩
end Go.Proofs.Ytgjibcfkjaedfaa.Wal

namespace Go.Proofs.Ytgjibcfkjaedfaa.Wal
open Go.RowKit Go.Proofs.YtgjibcfkjaedfaaW.PrintWords Go.Proofs.YtgjibcfkjaedfaaW.PrintLast Go.Proofs.YtgjibcfkjaedfaaW.PrintMore Go.Proofs.Ytgjibcfkjaedfaa.Wire Go.Proofs.Ytgjibcfkjaedfaa.Pr Go.Proofs.Ytgjibcfkjaedfaa.Rec
open Go.Proofs.Ytgjibcfkjaedfaa.Back (AllB)
set_option linter.unusedVariables false
set_option linter.unusedSimpArgs false
def wasF (l:List RecS) (k:Nat):Int:=if k=0 then 0 else (rd_T53 l ((k:Int) - 1)).f1
def EpOk (l:List RecS):Prop:=∀ k:Nat,k < l.length→wasF l k≤(rd_T53 l (k:Int)).f1
theorem wasF_last (l:List RecS):wasF l l.length=lastE l:=rfl
theorem wasF_succ (l:List RecS) (k:Nat):wasF l (k+1)=(rd_T53 l (k:Int)).f1:=by
 unfold wasF
 rw [if_neg (by omega),show ((k+1:Nat):Int) - 1=(k:Int) by omega]
theorem wasF_snoc {l:List RecS} {r:RecS} {k:Nat} (h:k≤l.length):wasF (l++[r]) k=wasF l k:=by
 cases k with
 | zero=>rfl
 | succ k=>rw [wasF_succ,wasF_succ,rd_snoc_lt (by omega)]
theorem wasF_take {l:List RecS} {m k:Nat} (h:k≤m) (hm:m≤l.length):wasF (l.take m) k=wasF l k:=by
 cases k with
 | zero=>rfl
 | succ k=>rw [wasF_succ,wasF_succ,rd_take (by omega) hm]
theorem EpOk.app {l:List RecS} (h:EpOk l) (r:RecS):EpOk (appF l r).1:=by
 unfold appF
 by_cases hr:rightV (toV (withLsn r ((l.length:Int)+1)))=true
 ·rw [if_pos hr]
  by_cases he:r.f1 < lastE l
  ·rw [if_pos he];exact h
  ·rw [if_neg he]
   by_cases hf:l.length=65536
   ·rw [if_pos hf];exact h
   ·rw [if_neg hf]
    intro k hk
    rw [List.length_append,List.length_singleton] at hk
    show wasF (l++[withLsn r ((l.length:Int)+1)]) k≤(rd_T53 (l++[withLsn r ((l.length:Int)+1)]) (k:Int)).f1
    rw [wasF_snoc (by omega)]
    by_cases hlt:k < l.length
    ·rw [rd_snoc_lt hlt];exact h k hlt
    ·obtain rfl:k=l.length:=by omega
     rw [rd_snoc_eq,wasF_last]
     show lastE l≤r.f1
     omega
 ·rw [if_neg hr];exact h
theorem appF_cases (l:List RecS) (r:RecS):(∃ q:Int,q≠0∧appF l r=(l,0,q))∨(appF l r=(l++[withLsn r ((l.length:Int)+1)],(l.length:Int)+1,0)∧lastE l≤r.f1∧rightV (toV (withLsn r ((l.length:Int)+1)))=true):=by
 unfold appF
 by_cases hr:rightV (toV (withLsn r ((l.length:Int)+1)))=true
 ·rw [if_pos hr]
  by_cases he:r.f1 < lastE l
  ·rw [if_pos he];exact .inl ⟨100,by omega,rfl⟩
  ·rw [if_neg he]
   by_cases hf:l.length=65536
   ·rw [if_pos hf];exact .inl ⟨5,by omega,rfl⟩
   ·rw [if_neg hf];exact .inr ⟨rfl,by omega,hr⟩
 ·rw [if_neg hr];exact .inl ⟨90,by omega,rfl⟩
theorem StAt.set2 {w:World} {b:Nat} {kd sn a0 a1 a2 a3 a4 a5:Int} {a6 a7:ByteArray} (h:StAt w b kd sn a0 a1 a2 a3 a4 a5 a6 a7) (y:Int):StAt (w.setCell ⟨b,2,none⟩ (.int .i64 y)) b kd sn y a1 a2 a3 a4 a5 a6 a7:=blk_set h 2 _
end Go.Proofs.Ytgjibcfkjaedfaa.Wal

namespace Go.Proofs.Ytgjibcfkjaedfaa.Wal
open Go.RowKit Go.Proofs.YtgjibcfkjaedfaaW.PrintWords Go.Proofs.YtgjibcfkjaedfaaW.PrintLast Go.Proofs.YtgjibcfkjaedfaaW.PrintMore Go.Proofs.Ytgjibcfkjaedfaa.Wire Go.Proofs.Ytgjibcfkjaedfaa.Pr Go.Proofs.Ytgjibcfkjaedfaa.Rec
open Go.Proofs.Ytgjibcfkjaedfaa.Back (AllB)
set_option linter.unusedVariables false
set_option linter.unusedSimpArgs false
def endK (l:List RecS) (k:Nat):Nat:=(bytesF (l.take k)).length
theorem endK_zero (l:List RecS):endK l 0=0:=rfl
theorem right_frame {v:RecV} (h:rightV v=true):(frameF v).1=frameB v:=by unfold frameF;rw [if_pos h]
theorem endK_succ {l:List RecS} (h:LogOk l) {k:Nat} (hk:k < l.length):endK l (k+1)=endK l k+(frameB (toV (rd_T53 l (k:Int)))).length:=by
 unfold endK
 rw [bytesF_take hk,List.length_append,right_frame (h.right _ (rd_rec_mem hk))]
theorem endK_mono {l:List RecS} (h:LogOk l):∀ {i j:Nat},i≤j→j≤l.length→endK l i≤endK l j:=by
 intro i j hij
 induction j with
 | zero=>intro _;rw [show i=0 by omega];exact Nat.le_refl _
 | succ j ih =>
  intro hj
  by_cases he:i=j+1
  ·rw [he];exact Nat.le_refl _
  ·rw [endK_succ h (by omega)]
   have:=ih (by omega) (by omega)
   omega
theorem bytesF_app (l m:List RecS):bytesF (l++m)=bytesF l++bytesF m:=by
 unfold bytesF
 rw [List.flatMap_append]
theorem bytesF_split (l:List RecS) (k:Nat):bytesF l=bytesF (l.take k)++bytesF (l.drop k):=by
 rw [← bytesF_app,List.take_append_drop]
theorem whole_ex {l:List RecS} (h:LogOk l) (c:Nat):∀ n,n≤l.length→∃ m,m≤n∧∀ i,i≤n→(endK l i≤c↔i≤m)
 | 0,_=>⟨0,Nat.le_refl _,fun i hi=>by rw [show i=0 by omega,endK_zero];simp⟩
 | n+1,hn=>by
  obtain ⟨m,hm,hi⟩:=whole_ex h c n (by omega)
  by_cases hc:endK l (n+1)≤c
  ·refine ⟨n+1,Nat.le_refl _,fun i hi'=>?_⟩
   have:=endK_mono h hi' hn
   constructor
   ·intro _;exact hi'
   ·intro _;omega
  ·refine ⟨m,by omega,fun i hi'=>?_⟩
   by_cases he:i=n+1
   ·rw [he]
    constructor
    ·intro hh;exact absurd hh hc
    ·intro hh;omega
   ·exact hi i (by omega)
theorem dec_at {l:List RecS} (h:LogOk l) {k:Nat} (hk:k < l.length) (rest:List Int):decF9 (frameB (toV (rd_T53 l (k:Int)))++rest)=(toV (rd_T53 l (k:Int)),((frameB (toV (rd_T53 l (k:Int)))).length:Int),0):=by
 rw [dec_frame (h.right _ (rd_rec_mem hk)),frame_length]
 rfl
theorem reads_take {l:List RecS} (h:LogOk l) (he:EpOk l):∀ (i:Nat),i≤l.length→∀ (rest:List Int),Reads (bytesF (l.take i)++rest) (l.take i) (endK l i)
 | 0,_,rest=>by
  rw [List.take_zero]
  exact .nil
 | i+1,hi,rest=>by
  have hlt:i < l.length:=by omega
  have e1:bytesF (l.take (i+1))++rest=bytesF (l.take i)++(frameB (toV (rd_T53 l (i:Int)))++rest):=by
   rw [bytesF_take hlt,right_frame (h.right _ (rd_rec_mem hlt)),List.append_assoc]
  have e2:l.take (i+1)=l.take i++[rd_T53 l (i:Int)]:=by
   rw [List.take_succ_eq_append_getElem hlt,rd_get hlt]
  have hlen:(l.take i).length=i:=by rw [List.length_take];omega
  rw [e1,e2,endK_succ h hlt]
  refine .snoc (reads_take h he i (by omega) _) ?_ ?_ ?_ ?_
  ·unfold endK
   rw [List.drop_left]
   exact dec_at h hlt rest
  ·rw [hlen];exact h.lsn i hlt
  ·have h1:=he i hlt
   have h2:lastE (l.take i)=wasF l i:=by
    rw [← wasF_last,hlen]
    exact wasF_take (Nat.le_refl _) (by omega)
   rw [h2];exact h1
  ·have:=h.len;omega
theorem dec_nil:(decF9 []).2.2≠0:=by
 have:decF9 []=(zeroR,0,10):=by
  unfold decF9
  rw [if_pos (by simp)]
 rw [this]
 decide
theorem reads_cut {l:List RecS} (h:LogOk l) (he:EpOk l) {c m:Nat} (hc:c≤(bytesF l).length) (hm:m≤l.length) (hw:∀ i,i≤l.length→(endK l i≤c↔i≤m)) :
  Reads ((bytesF l).take c) (l.take m) (endK l m)∧Stops ((bytesF l).take c) (l.take m) (endK l m):=by
 have hmc:endK l m≤c:=(hw m hm).2 (Nat.le_refl _)
 have e1:(bytesF l).take c=bytesF (l.take m)++(bytesF (l.drop m)).take (c - endK l m):=by
  rw [bytesF_split l m,List.take_append,List.take_of_length_le (show (bytesF (l.take m)).length≤c from hmc)]
  rfl
 rw [e1]
 refine ⟨reads_take h he m hm _,.inl ?_⟩
 have e2:(bytesF (l.take m)++(bytesF (l.drop m)).take (c - endK l m)).drop (endK l m)=(bytesF (l.drop m)).take (c - endK l m):=by
  unfold endK
  rw [List.drop_left]
 rw [e2]
 by_cases hml:m=l.length
 ·rw [List.drop_of_length_le (by omega)]
  show (decF9 (List.take (c - endK l m) [])).2.2≠0
  rw [List.take_nil]
  exact dec_nil
 ·have hlt:m < l.length:=by omega
  have h3:¬ endK l (m+1)≤c:=fun hh=>by have:=(hw (m+1) (by omega)).1 hh;omega
  rw [endK_succ h hlt] at h3
  have e3:bytesF (l.drop m)=frameB (toV (rd_T53 l (m:Int)))++bytesF (l.drop (m+1)):=by
   rw [List.drop_eq_getElem_cons hlt,rd_get hlt]
   have hr:=h.right _ (rd_rec_mem hlt)
   rw [rd_get hlt] at hr
   unfold bytesF
   rw [List.flatMap_cons,right_frame hr]
  rw [e3,List.take_append_of_le_length (by omega),dec_cut (h.right _ (rd_rec_mem hlt)) (by omega)]
  decide
theorem Reads.pre {xs:List Int} {l:List RecS} {u:Nat} (h:Reads xs l u):∀ k,k≤l.length→∃ v,v≤u∧Reads xs (l.take k) v:=by
 induction h with
 | nil=>intro k hk;exact ⟨0,Nat.le_refl _,by rw [List.take_nil];exact .nil⟩
 | @snoc l u m r h hd h1 h2 h3 ih =>
  intro k hk
  rw [List.length_append,List.length_singleton] at hk
  by_cases he:k=l.length+1
  ·refine ⟨u+m,Nat.le_refl _,?_⟩
   rw [he,List.take_of_length_le (by rw [List.length_append,List.length_singleton];omega)]
   exact .snoc h hd h1 h2 h3
  ·obtain ⟨v,hv,hr⟩:=ih k (by omega)
   refine ⟨v,by omega,?_⟩
   rw [List.take_append_of_le_length (by omega)]
   exact hr
theorem Reads.ahead {xs:List Int} {l l':List RecS} {u u':Nat} (h:Reads xs l u) (h':Reads xs l' u') (hs:Stops xs l' u'):l.length≤l'.length∧l'.take l.length=l∧u≤u':=by
 by_cases hlt:l'.length < l.length
 ·exact absurd hs ((h.cmp h' (by omega)).2 hlt)
 ·obtain ⟨v,hv,hr⟩:=h'.pre l.length (by omega)
  have hlen:(l'.take l.length).length=l.length:=by rw [List.length_take];omega
  obtain ⟨e1,e2⟩:=(h.cmp hr (by omega)).1 hlen.symm
  exact ⟨by omega,e1.symm,by omega⟩
theorem fromF_first {l:List RecS} {m:Nat} (hm:m≤l.length):fromF l 1 (m:Int)=l.take m:=by
 unfold fromF
 have h1:max (1:Int) 1=1:=by omega
 rw [h1]
 by_cases hz:m=0
 ·subst hz
  rw [if_pos (.inr (by decide)),List.take_zero]
 ·rw [if_neg (by omega),show (min (m:Int) ((l.length:Int) - 1+1)).toNat=m by omega]
  show (l.drop 0).take m=l.take m
  rw [List.drop_zero]
end Go.Proofs.Ytgjibcfkjaedfaa.Wal

namespace Go.Proofs.Ytgjibcfkjaedfaa.Wal
open Go.RowKit Go.Proofs.YtgjibcfkjaedfaaW.PrintWords Go.Proofs.YtgjibcfkjaedfaaW.PrintLast Go.Proofs.YtgjibcfkjaedfaaW.PrintMore Go.Proofs.Ytgjibcfkjaedfaa.Wire Go.Proofs.Ytgjibcfkjaedfaa.Pr Go.Proofs.Ytgjibcfkjaedfaa.Rec
open Go.Proofs.Ytgjibcfkjaedfaa.Back (AllB)
set_option linter.unusedVariables false
set_option linter.unusedSimpArgs false
theorem infoI:(Try.prog.info? 3).map (fun i=>(i.zero,i.size,i.bytes))=some (some (.int .i64 0),1,8):=by kernel_rfl
def endsF (l:List RecS):List Int:=(List.range l.length).map (fun i=>(endK l (i+1):Int))
theorem endsF_length (l:List RecS):(endsF l).length=l.length:=by unfold endsF;rw [List.length_map,List.length_range]
theorem endsF_snoc (l:List RecS) (r:RecS):endsF (l++[r])=endsF l++[((bytesF (l++[r])).length:Int)]:=by
 unfold endsF
 rw [List.length_append,List.length_singleton,List.range_succ,List.map_append,List.map_cons,List.map_nil]
 congr 1
 ·apply List.map_congr_left
  intro i hi
  rw [List.mem_range] at hi
  unfold endK
  rw [List.take_append_of_le_length (by omega)]
 ·unfold endK
  rw [List.take_of_length_le (by rw [List.length_append,List.length_singleton];omega)]
theorem endsF_get {l:List RecS} {i:Nat} (h:i < l.length):(endsF l).getD i 0=(endK l (i+1):Int):=by
 unfold endsF
 rw [List.getD_eq_getElem?_getD,List.getElem?_map,List.getElem?_range h]
 rfl
theorem at_int {w:World} {A:Option Addr} {n:Nat} {xs:List Int} (h:Kd.C (Kd.int .i64) w A n xs) (i:Nat) (h1:i < n):∃ ad,A=some ad∧w.cell? (ad.add i)=some (.int .i64 (xs.getD i 0)):=by
 obtain ⟨ad,c,e,_,hK,hc0⟩:=Kd.C_get h (0:Int) (i:Int) (by omega) (by omega)
 have hc:∀ j u,c[j]?=some u→w.cell? (ad.add ((i:Int).toNat*1+j))=some u:=hc0
 obtain rfl:=hK
 have h2:=hc 0 _ rfl
 rw [Int.toNat_natCast,Nat.mul_one,Nat.add_zero] at h2
 exact ⟨ad,e,h2⟩
abbrev RInt (w:World) (ok:Nat→Prop) (v:Value) (xs:List Int):Prop:=Kd.R (Kd.int .i64) 3 w 0 ok v xs
def TornIn (w:World) (n g:Nat) (v8 v31:Value) (wr:World):Prop :=
 ∃ (k:Nat) (l:List RecS) (ok okE:Nat→Prop) (B:Option Addr) (d:Nat) (es:List Int),k≤n∧v31=.int .i64 k∧v8=.slice B es.length d∧Aside0 (es=endsF l)∧Aside0 (LogAt 98 wr ok g l 0)∧Aside0 (RInt wr okE (.slice B es.length d) es)∧Aside0 (∀ k,ok k→okE k→False)∧Aside0 ((∀ k,ok k→w.heap.size≤k)∧∀ k,okE k→w.heap.size≤k)∧Aside0 (LogOk l∧EpOk l)∧Aside0 (Below w.heap.size w wr)
def WholeIn (W:World) (n m:Nat) (v14 v64:Value) (wr:World):Prop :=
 ∃ j q:Nat,j≤n∧v64=.int .i64 j∧v14=.int .i64 q∧Aside0 (q=min j m)∧Aside0 (Below W.heap.size W wr)
theorem append_wide {P:Program} {ops:Array Oper} {rest:List Oper} {o:Oper} {a:Act} {Q:Exit→Act→World→Prop} {w0 W:World} (base:Nat) (hgd:o.guard=none) (s x:Operand) (t e:TypeId) (z:Value)
  (ho:o.op=.call { callee:=.builtin .append,args:=#[s,x],argTypes:=#[t,t] })
  (ht:P.underlying t=some (.slice e)) (hinfo:(P.info? e).map (fun i=>(i.zero,i.size,i.bytes))=some (some z,1,1)) (hz:z.cells.size=1)
  (v:Value) (xs ys:List Int) (A:Option Addr) (m c:Nat) (hs:a.eval s=v) (hx:a.eval x=.slice A m c)
  (HO:Kd.R (Kd.int .u8) e W base (fun _=>True) v xs) (HR:Kd.C (Kd.int .u8) W A m ys) (HB:Below base w0 W) (hbase:base≤W.heap.size) (hl0:xs.length≤140737488355328) (hl:xs.length+m≤211106232532992)
  (h:∀ v1 w1,Kd.R (Kd.int .u8) e w1 base (fun _=>True) v1 (xs++ys)→Below base w0 w1→wpList P ops Q rest (a.put o.dst v1) w1) :
  wpList P ops Q (o::rest) a W:=by
 have hm:ys.length=m:=HR.1
 subst hm
 cases A with
 | none =>
  have h0:ys=[]:=by
   cases ys with
   | nil=>rfl
   | cons y l=>obtain ⟨ad,e1,_⟩:=HR.2.2 (by simp);cases e1
  subst h0
  exact Kd.R_append_row (Value.int .u8) (0:Int) (h1:=fun _=>rfl) (w0:=w0) base hgd s x t e z 1 ho ht hinfo hz (by decide) v xs [] none _ c (fun _=>True) hs hx (fun _ _=>trivial) HO HR HB hbase (by rw [List.length_nil];omega) (fun v1 w1 h1 h2 _ _=>h v1 w1 h1 h2)
 | some ad =>
  obtain ⟨i0,hi,hz0,hz1,hz2⟩:=info_parts hinfo
  have hcells:∀ (j:Nat) (u:Value),(nums .u8 ys)[j]?=some u→W.cell? (ad.add j)=some u:=by
   intro j u hu
   by_cases h0:0 < ys.length
   ·obtain ⟨ad2,e1,hc⟩:=C_cells HR h0
    obtain rfl:=Option.some.inj e1
    exact hc j u hu
   ·have:ys=[]:=List.eq_nil_of_length_eq_zero (by omega)
    subst this
    simp [nums] at hu
  have hown:=Kd.own_of_R HO
  refine wpList_append_own_wide W hgd s x t ho base e i0 z 1 1 ht hi hz0 hz1 hz2 hz (by decide) v xs.length _ hs hown ad ys.length c (nums .u8 ys) hx (by simp [nums]) hcells ?qa (by unfold maxLen;omega) (by omega) hbase ?qb
  case qa=>intro u hu;simp only [nums,List.mem_map] at hu;obtain ⟨y,_,rfl⟩:=hu;rfl
  case qb =>
   intro v1 w1 hown1 hg _
   refine h v1 w1 (Kd.R_of_own (h1:=fun _=>rfl) ?_ (fun _ _=>trivial)) (HB.grown hg hbase (own_base hown))
   have e2:encs (Value.int .u8) (xs++ys)=encs (Value.int .u8) xs++nums .u8 ys:=by simp [encs,nums]
   rw [List.length_append,e2]
   exact hown1
set_option maxHeartbeats 32000000 in
set_option maxRecDepth 100000 in
theorem walTorn_ok (A:Option Addr) (c:Nat) (rs:List RecS) (cu:Int) (A2:Option Addr) (c2:Nat) (ms:List Int) (w:World) (hr:Kd.C kRec w A rs.length rs) (hv:∀ x ∈ rs,x.f7.size≤140737488351232) (hr2:Kd.C (Kd.int .u8) w A2 ms.length ms) (hc2:ms.length≤c2) (hb2:AllB ms) (hl2:ms.length≤140737488351232) :
  Calls Try.prog 9 #[.slice A rs.length c,.int .i64 cu,.slice A2 ms.length c2] w fun e w'=>e=.returned (.bool true)∧Below w.heap.size w w':=by
 have hnew:=new_ok w
 have HX:=Aside0.mk hr
 have HV:=Aside0.mk hv
 have HM:=Aside0.mk hr2
 have HMC:=Aside0.mk hc2
 have HMB:=Aside0.mk hb2
 have HML:=Aside0.mk hl2
 have hna:rs.length≤9223372036854775807:=hr.2.1
 clear hr hv hr2 hc2 hb2 hl2
 go_enter Try.func9,Try.ntmps9
 go_wp2_with (go_at_call 20;(with_reducible refine hnew.mono ?_);rintro e w1 ⟨rfl,hL,hB⟩;(have HL:=Aside0.mk hL);(have HB:=Aside0.mk hB);clear hL hB hnew)
 go_loopw [8,31] (fun v8 v31 wr=>TornIn w rs.length w.heap.size v8 v31 wr) (fun _ v31 _=>rs.length - (intOf v31).toNat)
 case atStart=>exact ⟨0,[],_,fun _=>False,none,0,[],by omega,rfl,rfl,⟨rfl⟩,HL,⟨Kd.R_nil _ _ _ _ _⟩,⟨fun _ _ h=>h⟩,⟨⟨fun k h=>h,fun _ h=>h.elim⟩⟩,⟨⟨LogOk.nil,fun k hk=>by simp at hk⟩⟩,HB⟩
 case round =>
  clear HL HB
  obtain ⟨k,l,ok0,okE0,B,d,es,hk,rfl,rfl,HES,HLG,HRE,HDJ0,HBS,HLO,HB⟩:=hrel
  by_cases hlt:k < rs.length
  ·have hltI:(k:Int) < (rs.length:Int):=by omega
   have hk0:(0:Int)≤(k:Int):=by omega
   obtain ⟨ad,rfl,hx0,hx1,hx2,hx3,hx4,hx5,hx6,hx7⟩:=at_T53 (Kd.C_below HX.out HB.out) (k:Int) hk0 hltI
   rw [Int.toNat_natCast] at hx0 hx1 hx2 hx3 hx4 hx5 hx6 hx7
   have hsz:=HV.out _ (rd_rec_mem hlt)
   generalize rd_T53 rs (k:Int)=x at hx0 hx1 hx2 hx3 hx4 hx5 hx6 hx7 hsz
   obtain ⟨a0,a1,a2,a3,a4,a5,a6,a7⟩:=x
   dsimp only at hx0 hx1 hx2 hx3 hx4 hx5 hx6 hx7 hsz
   have HBA:=Aside0.mk (below_alloc (Below.refl wr.heap.size wr) (.cells #[.int .i64 a0,.int .i64 a1,.int .i64 a2,.int .i64 a3,.int .i64 a4,.int .i64 a5,.string a6,.string a7] 53))
   obtain ⟨ok,hok⟩:∃ ok:Nat→Prop,∀ k,ok k↔(ok0 k∧k < wr.heap.size):=⟨_,fun _=>Iff.rfl⟩
   obtain ⟨okE,hokE⟩:∃ okE:Nat→Prop,∀ k,okE k↔(okE0 k∧k < wr.heap.size):=⟨_,fun _=>Iff.rfl⟩
   have HLB:=Aside0.mk ((HLG.out.bound.mono (fun k h=>(hok k).2 h)).below HBA.out)
   have HRB:=Aside0.mk (Kd.R_below (Kd.R_mono (Kd.R_bound HRE.out) (fun k h=>(hokE k).2 ⟨h.1,h.2.2.1⟩)) HBA.out)
   have HDJ:Aside0 (∀ k,ok k→okE k→False):=⟨fun k h h'=>HDJ0.out k ((hok k).1 h).1 ((hokE k).1 h').1⟩
   have HBO:Aside0 (∀ k,ok k→w.heap.size≤k∧k < wr.heap.size):=⟨fun k h=>⟨HBS.out.1 k ((hok k).1 h).1,((hok k).1 h).2⟩⟩
   have HBE:Aside0 (∀ k,okE k→w.heap.size≤k∧k < wr.heap.size):=⟨fun k h=>⟨HBS.out.2 k ((hokE k).1 h).1,((hokE k).1 h).2⟩⟩
   have HBR:=Aside0.mk (below_from2 HB.out (Nat.le_refl _) HBA.out)
   have HW0:=Aside0.mk HB.out.size
   have HSW:Aside0 (wr.heap.size < (wr.alloc (.cells #[.int .i64 a0,.int .i64 a1,.int .i64 a2,.int .i64 a3,.int .i64 a4,.int .i64 a5,.string a6,.string a7] 53)).heap.size):=⟨by rw [alloc_size];omega⟩
   have happ:=append_ok HLB.out HLO.out.1.len a0 a1 a2 a3 a4 a5 a6 a7 hsz
   have hok1:=HLO.out.1.app ⟨a0,a1,a2,a3,a4,a5,a6,a7⟩
   have hep1:=HLO.out.2.app ⟨a0,a1,a2,a3,a4,a5,a6,a7⟩
   clear hok hokE hsz HLG HRE HDJ0 HBS HB
   rcases appF_cases l ⟨a0,a1,a2,a3,a4,a5,a6,a7⟩ with ⟨q,hq0,hP⟩|⟨hP,_,_⟩
   ·rw [hP] at happ hok1 hep1
    dsimp only at happ hok1 hep1
    have dq:(q==0)=false:=by simp [hq0]
    have HO1:=Aside0.mk (And.intro hok1 hep1)
    clear hP hq0 hok1 hep1
    go_wp2_with (go_at_call 33;(with_reducible refine happ.mono ?_);rintro e w3 ⟨rfl,hL,hC⟩;(have HL3:=Aside0.mk hL);(have HR3:=Aside0.mk (Kd.R_step HRB.out (fun k hk _=>hC.block k (Nat.lt_trans (HBE.out k hk).2 HSW.out) (fun h=>HDJ.out k h hk))));(replace HBR:=Aside0.mk (HBR.out.trans (hC.below HBR.out.size (fun k h=>(HBO.out k h).1))));(have HS3:=Aside0.mk hC.size);clear hL hC happ)
    go_roundw
    case rel=>exact ⟨k+1,l,_,okE,B,d,es,by omega,by go_num,rfl,HES,HL3,HR3,⟨fun k h h'=>h.elim (fun h1=>HDJ.out k h1 h') (fun h1=>by have:=(HBE.out k h').2;have:=HSW.out;omega)⟩,⟨⟨fun k h=>h.elim (fun h1=>(HBO.out k h1).1) (fun h1=>by have:=HW0.out;have:=HSW.out;omega),fun k h=>(HBE.out k h).1⟩⟩,HO1,HBR⟩
    case measure=>simp [intOf];omega
   ·rw [hP] at happ hok1 hep1
    dsimp only at happ hok1 hep1
    have hsn:=endsF_snoc l (withLsn ⟨a0,a1,a2,a3,a4,a5,a6,a7⟩ ((l.length:Int)+1))
    obtain ⟨l1,hl1⟩:∃ l1,l++[withLsn ⟨a0,a1,a2,a3,a4,a5,a6,a7⟩ ((l.length:Int)+1)]=l1:=⟨_,rfl⟩
    rw [hl1] at happ hok1 hep1 hsn
    rw [← HES.out] at hsn
    have hel:es.length≤65536:=by rw [HES.out,endsF_length];exact HLO.out.1.len
    have HBY:=Aside0.mk (fun (W:World) (o:Nat→Prop) (h:LogAt 98 W o w.heap.size l1 0)=>bytes_ok h hok1.len hok1.size)
    obtain ⟨bs,hbs⟩:∃ bs,bytesF l1=bs:=⟨_,rfl⟩
    rw [hbs] at HBY hsn
    obtain ⟨qs,hqs⟩:∃ qs,es++[(bs.length:Int)]=qs:=⟨_,rfl⟩
    rw [hqs] at hsn
    have HQS:=Aside0.mk hqs
    have HSN:=Aside0.mk hsn
    have HO1:=Aside0.mk (And.intro hok1 hep1)
    have HEL:=Aside0.mk hel
    clear hP hok1 hep1 hl1 hsn hbs hqs hel
    go_wp2_with (first
     | (go_at_call 33;(with_reducible refine happ.mono ?_);rintro e w3 ⟨rfl,hL,hC⟩;(have HL3:=Aside0.mk hL);(have HR3:=Aside0.mk (Kd.R_step HRB.out (fun k hk _=>hC.block k (Nat.lt_trans (HBE.out k hk).2 HSW.out) (fun h=>HDJ.out k h hk))));(replace HBR:=Aside0.mk (HBR.out.trans (hC.below HBR.out.size (fun k h=>(HBO.out k h).1))));(have HS3:=Aside0.mk hC.size);(have hby:=HBY.out _ _ hL);clear hL hC happ)
     | (go_at_call 34;(with_reducible refine hby.mono ?_);rintro e w4 ⟨A5,c5,rfl,hR,hB⟩;(replace HL3:=Aside0.mk (HL3.out.below hB));(have HR4:=Aside0.mk (Kd.R_mono (Kd.R_below HR3.out hB) (ok':=fun k=>okE k∨w4.heap.size≤k) (fun k hk=>.inl hk)));(replace HBR:=Aside0.mk (below_from2 HBR.out (Nat.le_refl _) hB));(have HS4:=Aside0.mk (Nat.le_trans HS3.out hB.size));clear hB hR hby)
     | ((with_reducible refine gate_builtin (b:=.append) (xs:=#[.tmp 43,.tmp 47]) rfl ?_);at_builtin;refine Kd.R_append (Kd.int .i64) (w0:=w4) 0 rfl (.tmp 43) (.tmp 47) 68 3 (.int .i64 0) 8 rfl Try.underlying68 infoI rfl (by decide) (by omega) (.slice B es.length d) es (bs.length:Int) [.int .i64 (bs.length:Int)] (fun k=>okE k∨w4.heap.size≤k) (fun _=>False) rfl rfl ?aP (fun _ hk=>hk.elim) ?aF ?aO ?aB ?aS ?aL ?_;(case aP=>rfl);(case aF=>exact (fun _ h=>.inr h));(case aO=>exact HR4.out);(case aB=>exact Below.refl _ _);(case aS=>exact Nat.zero_le _);(case aL=>(have:=HEL.out;omega));intro v8 w8 ho hbel hg hat;rw [HQS.out] at ho;(have HL8:=Aside0.mk (HL3.out.bound.chg (Chg.of_grown hg) (fun k hk hlt h=>(HR4.out.1 k h.symm).elim (fun h1=>hk.1.elim (fun h2=>HDJ.out k h2 h1) (fun h2=>by have:=(HBE.out k h1).2;have:=HSW.out;omega)) (fun h1=>by omega))));(have HB8:=Aside0.mk (HBR.out.trans ((Chg.of_grown hg).below HBR.out.size (fun k h=>(HR4.out.1 k h.symm).elim (fun h1=>(HBE.out k h1).1) (fun h1=>Nat.le_trans HBR.out.size h1)))));obtain ⟨B8,d8,rfl⟩:=Kd.R_slice ho;(have HO:=Aside0.mk ho);clear ho hbel hg hat))
    go_roundw
    case rel=>exact ⟨k+1,l1,_,_,B8,d8,qs,by omega,by go_num,rfl,⟨HSN.out.symm⟩,HL8,HO,⟨fun k h h'=>h'.elim (fun h1=>h.1.elim (fun h2=>HDJ.out k h2 h1) (fun h2=>by have:=(HBE.out k h1).2;have:=HSW.out;omega)) (fun h1=>by have:=h.2;omega)⟩,⟨⟨fun k h=>h.1.elim (fun h1=>(HBO.out k h1).1) (fun h1=>by have:=HW0.out;have:=HSW.out;omega),fun k h=>h.elim (fun h1=>(HBE.out k h1).1) (fun h1=>Nat.le_trans HBR.out.size h1)⟩⟩,HO1,HB8⟩
    case measure=>simp [intOf];omega
  ·have hge:¬ (k:Int) < (rs.length:Int):=by omega
   have hby:=bytes_ok HLG.out HLO.out.1.len HLO.out.1.size
   have hpre:=fun m hm=>reads_take HLO.out.1 HLO.out.2 m hm ms
   have hrcx:=fun c m hc hm hw=>reads_cut HLO.out.1 HLO.out.2 (c:=c) (m:=m) hc hm hw
   have hwx:=whole_ex HLO.out.1
   have hll:l.length≤65536:=HLO.out.1.len
   have hbl:=bytesF_length l
   have hba:=bytesF_allB l
   have hsp0:=fun m=>bytesF_split l m
   have hel:es.length=l.length:=by rw [HES.out,endsF_length]
   have hes:=fun i (h:i < es.length)=>(congrArg (fun z:List Int=>z.getD i 0) HES.out).trans (endsF_get (by rw [← hel];exact h))
   obtain ⟨n0,hn0⟩:∃ n0,(bytesF l).length=n0:=⟨_,rfl⟩
   have hcu:∃ (b59:Bool) (c0:Nat),c0≤n0∧((decide (cu < 0)=true∧b59=true)∨(decide (cu < 0)=false∧decide (cu > (n0:Int))=b59))∧((b59=true∧(n0:Int)=(c0:Int))∨(b59=false∧cu=(c0:Int))):=by
    by_cases h:cu < 0
    ·exact ⟨true,n0,by omega,.inl ⟨decide_eq_true h,rfl⟩,.inl ⟨rfl,rfl⟩⟩
    ·by_cases h2:cu > (n0:Int)
     ·exact ⟨true,n0,by omega,.inr ⟨decide_eq_false h,decide_eq_true h2⟩,.inl ⟨rfl,rfl⟩⟩
     ·exact ⟨false,cu.toNat,by omega,.inr ⟨decide_eq_false h,decide_eq_false h2⟩,.inr ⟨rfl,by omega⟩⟩
   obtain ⟨b59,c0,hc0,hc1,hc2⟩:=hcu
   obtain ⟨m,hm,hw⟩:=hwx c0 l.length (Nat.le_refl _)
   obtain ⟨u,hu⟩:∃ u,endK l m=u:=⟨_,rfl⟩
   obtain ⟨lm,hlm⟩:∃ lm,l.take m=lm:=⟨_,rfl⟩
   have huc:u≤c0:=by rw [← hu];exact (hw m hm).2 (Nat.le_refl _)
   have hrc:=hrcx c0 m (by omega) hm hw
   have hpr:=hpre m hm
   have hsp1:=hsp0 m
   have hlml:lm.length=m:=by rw [← hlm,List.length_take];omega
   have hfm:=fromF_first hm
   have hul:(bytesF lm).length=u:=by rw [← hlm];exact hu
   rw [hu,hlm] at hrc hpr
   rw [hlm] at hsp1 hfm
   have hfa:=fromF_all (l:=lm) (lsn:=1) (by omega) (by omega)
   have hE:∀ i,i < es.length→∃ x:Nat,es.getD i 0=(x:Int)∧(x≤c0↔i+1≤m):=fun i hi=>⟨_,hes i hi,hw (i+1) (by omega)⟩
   rw [hel.symm] at hm
   have HLX:=HLG
   have HRE0:=Aside0.mk (Kd.R_reads' HRE.out).2.2
   have HWW:=Aside0.mk HB.out.size
   obtain ⟨bs,hbs⟩:∃ bs,bytesF l=bs:=⟨_,rfl⟩
   obtain ⟨zs,hzs⟩:∃ zs,bytesF lm=zs:=⟨_,rfl⟩
   rw [hbs] at hby hn0 hrc hba hsp1 hbl
   rw [hzs] at hpr hsp1 hul
   have hbz:bs.take u=zs:=by rw [hsp1,← hul,List.take_left]
   obtain ⟨ys,hys⟩:∃ ys,bs.take c0=ys:=⟨_,rfl⟩
   rw [hys] at hrc
   have hyl:ys.length=c0:=by rw [← hys,List.length_take];omega
   have hyb:AllB ys:=by rw [← hys];exact fun x hx=>hba x (List.mem_of_mem_take hx)
   have hzb:AllB zs:=by rw [← hbz];exact fun x hx=>hba x (List.mem_of_mem_take hx)
   have hn9:n0≤20643840:=by omega
   have hel2:es.length≤65536:=by omega
   have HE:=Aside0.mk hE
   have HRC:=Aside0.mk hrc
   have HPR:=Aside0.mk hpr
   have HLM:=Aside0.mk hlml
   have HFM:=Aside0.mk hfm
   have HFA:=Aside0.mk hfa
   have HN0:=Aside0.mk hn0
   have HC0:=Aside0.mk hc0
   have HUC:=Aside0.mk huc
   have HUL:=Aside0.mk hul
   have HBZ:=Aside0.mk hbz
   have HYS:=Aside0.mk hys
   have HYL:=Aside0.mk hyl
   have HYB:=Aside0.mk hyb
   have HZB:=Aside0.mk hzb
   have HN9:=Aside0.mk hn9
   have HMM:=Aside0.mk hm
   have HLL:=Aside0.mk hll
   have HC1:=Aside0.mk hc1
   have HC2:=Aside0.mk hc2
   have HE2:=Aside0.mk hel2
   rw [hn0] at hby
   clear hpre hrcx hwx hll hbl hba hsp0 hel hes hm hw hu hlm huc hrc hpr hsp1 hlml hfm hul hfa hE hbs hzs hn0 hbz hys hyl hyb hzb hn9 hc0 hc1 hc2 hel2 HLG HRE HES HDJ0 HBS HLO
   go_upto_region 13 with (go_at_call 34;(with_reducible refine hby.mono ?_);rintro e w5 ⟨A5,c5,rfl,hR,hB⟩;(have hcc:=(Kd.R_reads' hR).2);rw [HN0.out] at hcc;(have HCC:=Aside0.mk hcc);(have HCE:=Aside0.mk (Kd.C_below HRE0.out hB));(replace HLX:=Aside0.mk (HLX.out.below hB));(replace HB:=Aside0.mk (below_from2 HB.out (Nat.le_refl _) hB));clear hR hB hby hcc)
   go_cut [59] from 52 to 58 (fun v59 wx=>v59=.bool b59∧w5=wx)
   case first =>
    rcases HC1.out with ⟨d1,d2⟩|⟨d1,d2⟩
    ·subst d2
     go_wp2
     go_meet
     exact ⟨rfl,rfl⟩
    ·go_wp2
     go_meet
     exact ⟨rfl,rfl⟩
   case rest =>
   obtain ⟨rfl,rfl⟩:=hcut
   clear HC1
   go_upto_if 59 with (fail)
   go_cut [1] (fun v1 wx=>v1=.int .i64 (c0:Int)∧w5=wx)
   case first =>
    rcases HC2.out with ⟨rfl,e1⟩|⟨rfl,e1⟩
    ·have E1:=Aside0.mk e1
     clear e1
     go_wp2
     go_meet
     exact ⟨by rw [E1.out],rfl⟩
    ·subst e1
     go_wp2
     go_meet
     exact ⟨rfl,rfl⟩
   case rest =>
   obtain ⟨rfl,rfl⟩:=hcut
   clear HC2
   have hna3:es.length≤65536:=HE2.out
   go_wp2
   go_loopw [14,64] (fun v14 v64 wr=>WholeIn w5 es.length m v14 v64 wr) (fun _ v64 _=>es.length - (intOf v64).toNat)
   case atStart=>exact ⟨0,0,by omega,rfl,rfl,⟨by omega⟩,⟨Below.refl _ _⟩⟩
   case round =>
    obtain ⟨j,q,hj,rfl,rfl,HQ,HBj⟩:=hrel
    by_cases hjl:j < es.length
    ·have hjI:(j:Int) < (es.length:Int):=by omega
     have hj0:(0:Int)≤(j:Int):=by omega
     obtain ⟨ad,rfl,hx⟩:=at_int (Kd.C_below HCE.out HBj.out) j hjl
     obtain ⟨x,hx1,hx2⟩:=HE.out j hjl
     rw [hx1] at hx
     have hq:=HQ.out
     have hwq:IntKind.i64.wrap ((q:Int)+1)=((q+1:Nat):Int):=by rw [IntKind.wrap_i64];omega
     by_cases hxc:x≤c0
     ·have d1:decide ((x:Int)≤(c0:Int))=true:=decide_eq_true (by omega)
      have HQ1:Aside0 (q+1=min (j+1) m):=⟨by have:=hx2.1 hxc;omega⟩
      clear hx1 hx2 hq
      go_wp2
      go_roundw
      case rel=>exact ⟨j+1,q+1,by omega,by go_num,by first|rfl|go_num,HQ1,HBj⟩
      case measure=>simp [intOf];omega
     ·have d1:decide ((x:Int)≤(c0:Int))=false:=decide_eq_false (by omega)
      have HQ1:Aside0 (q=min (j+1) m):=⟨by have:=fun h=>hxc (hx2.2 h);omega⟩
      clear hx1 hx2 hq
      go_wp2
      go_roundw
      case rel=>exact ⟨j+1,q,by omega,by go_num,rfl,HQ1,HBj⟩
      case measure=>simp [intOf];omega
    ·have hge2:¬ (j:Int) < (es.length:Int):=by omega
     have hqm:q=m:=by have:=HQ.out;have:=HMM.out;omega
     subst hqm
     have HB5:=Aside0.mk HBj.out
     replace HLX:=Aside0.mk (HLX.out.below HBj.out)
     replace HB:=Aside0.mk (below_from2 HB.out (Nat.le_refl _) HBj.out)
     have HCW:=Aside0.mk (Kd.C_below HCC.out.2 HBj.out)
     have hct:∀ (t:Nat),t≤n0→∀ W:World,(Instr.slice 67 (.slice A5 n0 c5) none (some (.int .i64 (t:Int))) none).run Try.prog W=.ok (.slice A5 t c5) W:=by
      intro t ht W
      have h:=cut_to (P:=Try.prog) 67 5 .i64 Try.underlying67 (info_parts info8).choose_spec.1 A5 n0 c5 (t:Int) (by omega) (by omega) HCC.out.1 W
      rw [Int.toNat_natCast] at h
      exact h
     have hcut:=hct c0 HC0.out
     have HCUT2:=Aside0.mk (hct u (Nat.le_trans HUC.out HC0.out))
     have hre:=read_ok A5 c5 ys wr (by have h:=Kd.C_take (m:=c0) (by have h:=HCW.out;rw [← HN0.out] at h;exact h) (by rw [HN0.out];exact HC0.out);rw [HYS.out] at h;exact h) (by rw [HYL.out];exact Nat.le_trans HC0.out HCC.out.1) HYB.out (by rw [HYL.out];have:=HC0.out;have:=HN9.out;omega)
     rw [HYL.out] at hre
     have HMQ:Aside0 (q≤65536):=⟨Nat.le_trans HMM.out HE2.out⟩
     have dm:((q:Int) != (q:Int))=false:=by simp
     have du:decide ((u:Int) > (c0:Int))=false:=decide_eq_false (by have:=HUC.out;omega)
     have du1:¬ c0 < u:=by have:=HUC.out;omega
     have du2:¬ (c0:Int) < (u:Int):=by omega
     clear hct hge2
     go_upto_region 26 with (first
      | (go_at_call 35;(with_reducible refine hre.mono ?_);rintro e w6 ⟨g2,l2,u2,rfl,hrd,hL,hB⟩;obtain ⟨e1,e2⟩:=Reads.unique HRC.out.1 HRC.out.2 hrd.1 hrd.2;subst e1 e2;(have HLY:=Aside0.mk hL);(replace HLX:=Aside0.mk (HLX.out.below hB));(replace HB:=Aside0.mk (below_from2 HB.out (Nat.le_refl _) hB));(have hla:=last_okB hL (by rw [HLM.out];have:=HMQ.out;omega));rw [HLM.out] at hla;(replace HB5:=Aside0.mk (below_from2 HB5.out (Nat.le_refl _) hB));clear hrd hL hB hre hcut)
      | (go_at_call 21;(with_reducible refine hla.mono ?_);rintro e w7 ⟨rfl,hB⟩;(replace HLY:=Aside0.mk (HLY.out.below hB));(replace HLX:=Aside0.mk (HLX.out.below hB));(replace HB:=Aside0.mk (below_from2 HB.out (Nat.le_refl _) hB));(have hf1:=from_ok HLY.out (by rw [HLM.out];have:=HMQ.out;omega) 1 100000);rw [HFA.out] at hf1;(replace HB5:=Aside0.mk (below_from2 HB5.out (Nat.le_refl _) hB));clear hB hla)
      | (go_at_call 18;(with_reducible refine hf1.mono ?_);rintro e w8 ⟨A6,c6,rfl,hR,hB⟩;(have HC6:=Aside0.mk (Kd.R_reads' hR).2);(replace HLY:=Aside0.mk (HLY.out.below hB));(replace HLX:=Aside0.mk (HLX.out.below hB));(replace HB:=Aside0.mk (below_from2 HB.out (Nat.le_refl _) hB));(have hf2:=from_ok HLX.out (by have:=HLL.out;omega) 1 (q:Int));rw [HFM.out] at hf2;(replace HB5:=Aside0.mk (below_from2 HB5.out (Nat.le_refl _) hB));clear hB hR hf1)
      | (go_at_call 18;(with_reducible refine hf2.mono ?_);rintro e w9 ⟨A7,c7,rfl,hR,hB⟩;(have hrs:=records_same A6 c6 A7 c7 lm w9 (Kd.C_below HC6.out.2 hB) HC6.out.1 (Kd.R_reads' hR).2.2 (Kd.R_reads' hR).2.1 (by rw [HLM.out];have:=HMQ.out;omega));(replace HLY:=Aside0.mk (HLY.out.below hB));(replace HLX:=Aside0.mk (HLX.out.below hB));(replace HB:=Aside0.mk (below_from2 HB.out (Nat.le_refl _) hB));(replace HB5:=Aside0.mk (below_from2 HB5.out (Nat.le_refl _) hB));clear hB hR hf2)
      | (go_at_call 17;(with_reducible refine hrs.mono ?_);rintro e w10 ⟨rfl,hB⟩;(replace HLY:=Aside0.mk (HLY.out.below hB));(replace HLX:=Aside0.mk (HLX.out.below hB));(replace HB:=Aside0.mk (below_from2 HB.out (Nat.le_refl _) hB));(have hfl:=flushed_ok HLY.out);rw [HLM.out] at hfl;(replace HB5:=Aside0.mk (below_from2 HB5.out (Nat.le_refl _) hB));clear hB hrs)
      | (go_at_call 36;(with_reducible refine hfl.mono ?_);rintro e w11 ⟨rfl,hB⟩;(replace HLY:=Aside0.mk (HLY.out.below hB));(replace HLX:=Aside0.mk (HLX.out.below hB));(replace HB:=Aside0.mk (below_from2 HB.out (Nat.le_refl _) hB));(replace HB5:=Aside0.mk (below_from2 HB5.out (Nat.le_refl _) hB));clear hB hfl))
     have hcz:=Kd.C_take (m:=u) (by have h:=Kd.C_below HCC.out.2 HB5.out;rw [← HN0.out] at h;exact h) (by rw [HN0.out];have:=HUC.out;have:=HC0.out;omega)
     rw [HBZ.out,HUL.out] at hcz
     have HCZ:=Aside0.mk hcz
     have HCM:=Aside0.mk (Kd.C_below HM.out HB.out)
     have hcut2:=HCUT2.out
     have HAB:Aside0 (AllB (zs++ms)):=⟨fun x hx=>(List.mem_append.1 hx).elim (fun h=>HZB.out x h) (fun h=>HMB.out x h)⟩
     have HZ0:Aside0 (zs.length≤70000000000000):=⟨by have:=HUL.out;have:=HUC.out;have:=HC0.out;have:=HN9.out;omega⟩
     have HSZ:Aside0 (zs.length+ms.length≤211106232532992):=⟨by have:=HZ0.out;have:=HML.out;omega⟩
     clear hcz dm du du1 du2 HRC HFA HCW HB5 HYB HYS HYL HRE0 HCE HE
     go_wp2_with (first
      | ((with_reducible refine gate_builtin (b:=.append) (xs:=#[.tmp 109,.tmp 112]) rfl ?_);at_builtin;refine Kd.R_append_row (Value.int .u8) (0:Int) (h1:=fun _=>rfl) (w0:=w11) w11.heap.size rfl (.tmp 109) (.tmp 112) 67 5 (.int .u8 0) 1 rfl Try.underlying67 info8 rfl (by decide) (.slice none 0 0) [] zs A5 u c5 (fun _=>True) rfl rfl (fun _ _=>trivial) (Kd.R_nil _ _ _ _ _) HCZ.out (Below.refl _ _) (Nat.le_refl _) ?aL ?_;(case aL=>(have:=HZ0.out;have:=HUL.out;simp;omega));intro v1 w12 ho hbel hg hat;rw [List.nil_append] at ho;obtain ⟨B8,d8,rfl⟩:=Kd.R_slice ho;(have HO:=Aside0.mk ho);(have HB12:=Aside0.mk hbel);clear ho hbel hg hat hcut2)
      | ((with_reducible refine gate_builtin (b:=.append) (xs:=#[.tmp 114,.tmp 115]) rfl ?_);at_builtin;refine append_wide (w0:=w11) w11.heap.size rfl (.tmp 114) (.tmp 115) 67 5 (.int .u8 0) rfl Try.underlying67 info8 rfl (.slice B8 zs.length d8) zs ms A2 ms.length c2 rfl rfl HO.out (Kd.C_below HCM.out HB12.out) HB12.out HB12.out.size ?aM ?aL ?_;(case aM=>exact Nat.le_trans HZ0.out (by decide));(case aL=>exact HSZ.out);intro v2 w13 ho hbel;obtain ⟨B9,d9,rfl⟩:=Kd.R_slice ho;(have hre2:=read_ok B9 d9 (zs++ms) w13 (Kd.R_reads' ho).2.2 (Kd.R_reads' ho).2.1 HAB.out (by rw [List.length_append];exact HSZ.out));rw [List.length_append] at hre2;(replace HLX:=Aside0.mk (HLX.out.below hbel));(replace HB:=Aside0.mk (below_from2 HB.out (Nat.le_refl _) hbel));clear ho hbel)
      | (go_at_call 35;(with_reducible refine hre2.mono ?_);rintro e w14 ⟨g3,l3,u3,rfl,hrd,hL,hB⟩;obtain ⟨e1,e2,e3⟩:=Reads.ahead HPR.out hrd.1 hrd.2;rw [HLM.out] at e1 e2;(have hl3:=(hrd.1.len HAB.out).2);(have hf3:=fromF_first e1);rw [e2] at hf3;(have d1:decide ((l3.length:Int)≥(q:Int))=true:=decide_eq_true (by omega));(have d2:decide ((u3:Int)≥(u:Int))=true:=decide_eq_true (by omega));(have e4:q≤l3.length:=e1);(have e5:u≤u3:=e3);(have HLZ:=Aside0.mk hL);(have HL3:=Aside0.mk hl3);(have HF3:=Aside0.mk hf3);(replace HLX:=Aside0.mk (HLX.out.below hB));(replace HB:=Aside0.mk (below_from2 HB.out (Nat.le_refl _) hB));(have hla:=last_okB hL (by omega));clear hrd hL hB hre2 e1 e2 e3 hf3 hl3)
      | (go_at_call 21;(with_reducible refine hla.mono ?_);rintro e w15 ⟨rfl,hB⟩;(replace HLZ:=Aside0.mk (HLZ.out.below hB));(replace HLX:=Aside0.mk (HLX.out.below hB));(replace HB:=Aside0.mk (below_from2 HB.out (Nat.le_refl _) hB));(have hf1:=from_ok HLZ.out (by have:=HL3.out;omega) 1 (q:Int));rw [HF3.out] at hf1;clear hB hla)
      | (go_at_call 18;(with_reducible refine hf1.mono ?_);rintro e w16 ⟨A6,c6,rfl,hR,hB⟩;(have HC6:=Aside0.mk (Kd.R_reads' hR).2);(replace HLX:=Aside0.mk (HLX.out.below hB));(replace HB:=Aside0.mk (below_from2 HB.out (Nat.le_refl _) hB));(have hf2:=from_ok HLX.out (by have:=HLL.out;omega) 1 (q:Int));rw [HFM.out] at hf2;clear hB hR hf1)
      | (go_at_call 18;(with_reducible refine hf2.mono ?_);rintro e w17 ⟨A7,c7,rfl,hR,hB⟩;(have hrs:=records_same A6 c6 A7 c7 lm w17 (Kd.C_below HC6.out.2 hB) HC6.out.1 (Kd.R_reads' hR).2.2 (Kd.R_reads' hR).2.1 (by rw [HLM.out];have:=HMQ.out;omega));(replace HLX:=Aside0.mk (HLX.out.below hB));(replace HB:=Aside0.mk (below_from2 HB.out (Nat.le_refl _) hB));clear hB hR hf2)
      | (go_at_call 17;(with_reducible refine hrs.mono ?_);rintro e w18 ⟨rfl,hB⟩;(replace HLX:=Aside0.mk (HLX.out.below hB));(replace HB:=Aside0.mk (below_from2 HB.out (Nat.le_refl _) hB));(have hsp:=speaks10_ok w18);clear hB hrs)
      | (go_at_call 37;(with_reducible refine hsp.mono ?_);rintro e w19 ⟨rfl,hB⟩;(replace HLX:=Aside0.mk (HLX.out.below hB));(replace HB:=Aside0.mk (below_from2 HB.out (Nat.le_refl _) hB));clear hB hsp))
     go_ret
     exact ⟨rfl,HB.out⟩
end Go.Proofs.Ytgjibcfkjaedfaa.Wal

namespace Go.Proofs.Ytgjibcfkjaedfaa.Pr
open Go.RowKit Go.Proofs.YtgjibcfkjaedfaaW.PrintWords Go.Proofs.YtgjibcfkjaedfaaW.PrintLast Go.Proofs.YtgjibcfkjaedfaaW.PrintMore
attribute [local go_sem] max2_int min2_int max_two min_two max_three min_three max_four min_four
set_option linter.unusedVariables false
set_option linter.unusedSimpArgs false
noncomputable def latticelaw10_WalTorn.f (a0:List S53) (a1:Int) (a2:List Int):Option Bool:=@ite _ ((∀ x ∈ a0,x.f7.size≤140737488351232)∧Back.AllB a2∧a2.length≤140737488351232) (Classical.propDecidable _) (some true) none
theorem latticelaw10_WalTorn.calls (A0:Option Addr) (c0:Nat) (a0:List S53) (a1:Int) (A2:Option Addr) (c2:Nat) (a2:List Int) (r:Bool) (w:World) (hr0:Kd.C k53 w A0 a0.length a0) (hc0:a0.length≤c0) (hr2:Kd.C (Kd.int .u8) w A2 a2.length a2) (hc2:a2.length≤c2) (h:latticelaw10_WalTorn.f a0 a1 a2=some r) :
  Calls Try.prog 9 #[.slice A0 a0.length c0,.int .i64 a1,.slice A2 a2.length c2] w fun e w'=>e=.returned (.bool r)∧Below w.heap.size w w':=by
 unfold latticelaw10_WalTorn.f at h
 split at h
 ·rename_i hn
  injection h with h
  subst h
  exact Wal.walTorn_ok A0 c0 a0 a1 A2 c2 a2 w hr0 hn.1 hr2 hc2 hn.2.1 hn.2.2
 ·cases h
end Go.Proofs.Ytgjibcfkjaedfaa.Pr

namespace Go.Proofs.Ytgjibcfkjaedfaa.Open
open Go.RowKit Go.ChangeShapes Go.WideShapes Go.Proofs.YtgjibcfkjaedfaaW.PrintWords
abbrev reachN:Nat:=140737488351232
structure Opn (P:Program) (t:TypeId) {α:Type} (d:Kd α) (g:α→Prop) (m:α→Nat):Prop where
 sz:P.cellsOf t=d.sz
 out:∀ (H:Type) (enc:TypeId×Value→H) (W:World) (n:Nat) (cs:List Value) (x:DataW H×List MemPlace),DataW.trod enc P W 0 (fun _=>true) true n t cs=some x →
  (∀ q ∈ x.1.weights P t,q≤reachN)→∃ y:α,d.K W y cs∧g y∧m y≤Rows.uptoBulk x.1
section
variable {P:Program} {t e:TypeId}
theorem opn_int {k:IntKind} (ht:P.underlying t=some (.int k)) (hc:P.cellsOf t=1):Opn P t (Kd.int k) (fun y=>(Lit.int k y).wf=true) (fun _=>1) where
 sz:=hc
 out:=by
  intro H enc W n cs x h _
  obtain ⟨y,rfl,rfl,hw⟩:=DataW.trod_int ht h
  exact ⟨y,rfl,hw,Nat.le_refl _⟩
theorem opn_string (ht:P.underlying t=some .string) (hc:P.cellsOf t=1):Opn P t Kd.string (fun y=>y.size≤reachN) (fun y=>y.size+1) where
 sz:=hc
 out:=by
  intro H enc W n cs x h hq
  obtain ⟨y,rfl,rfl,hw⟩:=DataW.trod_string ht h
  have:=hq y.data.toList.length (by simp [DataW.weights])
  exact ⟨y,rfl,by simpa using this,by simp [Rows.uptoBulk]⟩
theorem list_of {α:Type} (p:Nat→α→Prop):∀ len,(∀ i,i < len→∃ y,p i y)→∃ ys:List α,ys.length=len∧∀ i y,ys[i]?=some y→p i y
 | 0,_=>⟨[],rfl,fun i y h=>by simp at h⟩
 | len+1,h=>by
  obtain ⟨ys,hl,hy⟩:=list_of p len (fun i hi=>h i (by omega))
  obtain ⟨y,hp⟩:=h len (by omega)
  refine ⟨ys++[y],by simp [hl],fun i z hz=>?_⟩
  by_cases hi:i < len
  ·rw [List.getElem?_append_left (by omega)] at hz
   exact hy i z hz
  ·by_cases he:i=len
   ·subst he
    rw [List.getElem?_append_right (by omega),hl] at hz
    simp at hz
    subst hz
    exact hp
   ·rw [List.getElem?_eq_none (by simp;omega)] at hz
    cases hz
theorem bulk_sum {H α:Type} (m:α→Nat):∀ (ys:List α) (es:List (DataW H)),ys.length=es.length→(∀ (i:Nat) (y:α) (x:DataW H),ys[i]?=some y→es[i]?=some x→m y≤Rows.uptoBulk x)→(ys.map m).sum≤Rows.uptoBulkAll es
 | [],[],_,_=>by simp
 | [],_::_,h,_=>by simp at h
 | _::_,[],h,_=>by simp at h
 | y::ys,x::es,h,hm=>by
  have ih:=bulk_sum m ys es (by simpa using h) (fun i a b ha hb=>hm (i+1) a b (by simpa using ha) (by simpa using hb))
  have h0:=hm 0 y x rfl rfl
  simp only [List.map_cons,List.sum_cons,Rows.uptoBulkAll]
  omega
theorem addr_add (a:Addr) (x y:Nat):(a.add x).add y=a.add (x+y):=by
 by_cases hx:x=0
 ·subst hx;simp [Addr.add]
 ·by_cases hy:y=0
  ·subst hy;simp [Addr.add]
  ·simp [Addr.add,hx,hy,Nat.add_assoc]
theorem weights_all {H:Type} {P:Program} {e:TypeId}:∀ (es:List (DataW H)) (x:DataW H),x ∈ es→∀ q ∈ x.weights P e,q ∈ DataW.weightsAll P e es
 | [],_,h=>by simp at h
 | y::r,x,h=>by
  intro q hq
  simp only [DataW.weightsAll,List.mem_append]
  rcases List.mem_cons.1 h with rfl|h
  ·exact .inl hq
  ·exact .inr (weights_all r x h q hq)
theorem opn_slice {α:Type} {d:Kd α} {g:α→Prop} {m:α→Nat} {B:Nat} (ht:P.underlying t=some (.slice e)) (hc:P.cellsOf t=1) (hB:P.bytesOf e=B) (he:Opn P e d g m) :
  Opn P t (Kd.slice e d) (fun xs=>xs.length≤maxLen∧xs.length*B≤reachN∧∀ y ∈ xs,g y) (fun xs=>(xs.map m).sum+1) where
 sz:=hc
 out:=by
  intro H enc W n cs x h hq
  rcases DataW.trod_slice ht h with ⟨rfl,rfl⟩|⟨a,len,cap,elems,rest,n,_,rfl,rfl,hb,hl,hm,hlen,hel,hsp,_⟩
  ·exact ⟨[],⟨none,0,rfl,Nat.le_refl _,Kd.C_nil d W⟩,⟨by simp,by simp,by simp⟩,by simp [Rows.uptoBulk]⟩
  ·have hw:∀ q ∈ DataW.weightsAll P e (elems.map (·.1)),q≤reachN:=fun q hq'=>hq q (by simp only [DataW.weights,ht];exact List.mem_cons_of_mem _ (List.mem_append_left _ hq'))
   have h0:=hq (((elems.map (·.1)).length+(rest.map (·.1)).length)*P.bytesOf e) (by simp only [DataW.weights,ht];exact List.mem_cons_self)
   have each:∀ i,i < len→∃ y:α,∃ c:List Value,∃ z:DataW H×List MemPlace,elems[i]?=some z∧d.K W y c∧g y∧m y≤Rows.uptoBulk z.1∧∀ j u,c[j]?=some u→W.cell? (a.add (i*d.sz+j))=some u:=by
    intro i hi
    have h1:=hel i hi
    rw [List.getElem?_eq_getElem (by omega)] at h1
    obtain ⟨c,hcs,hx⟩:=Option.bind_eq_some_iff.1 h1
    obtain ⟨_,hcl,hcell⟩:=World.cells?_some hcs
    obtain ⟨y,hy,hg,hbk⟩:=he.out H enc W n c _ hx (fun q hq'=>hw q (weights_all _ _ (List.mem_map_of_mem (List.getElem_mem (by omega))) q hq'))
    refine ⟨y,c,_,List.getElem?_eq_getElem (by omega),hy,hg,hbk,fun j u hu=>?_⟩
    have hj:j < P.cellsOf e:=by
     have:=(List.getElem?_eq_some_iff.1 hu).1
     omega
    have h2:=hcell j hj
    rw [hu,he.sz,addr_add] at h2
    exact h2
   obtain ⟨ys,hyl,hys⟩:=list_of _ len each
   have hyl2:ys.length=elems.length:=by omega
   refine ⟨ys,⟨some a,cap,by rw [hyl],by omega,?_⟩,⟨by omega,?_,?_⟩,?_⟩
   ·refine ⟨rfl,by unfold maxLen at hm;omega,fun _=>⟨a,rfl,fun j p hp=>?_⟩⟩
    obtain ⟨c,z,_,hK,_,_,hcell⟩:=hys j p hp
    exact ⟨c,d.K_len hK,hK,hcell⟩
   ·rw [hB] at h0
    simp only [List.length_map] at h0
    have:ys.length*B≤(elems.length+rest.length)*B:=Nat.mul_le_mul_right _ (by omega)
    omega
   ·intro y hy
    obtain ⟨j,hj,rfl⟩:=List.getElem_of_mem hy
    obtain ⟨c,z,_,_,hg,_⟩:=hys j _ (List.getElem?_eq_getElem hj)
    exact hg
   ·have:=bulk_sum m ys (elems.map (·.1)) (by simp [hyl2]) (fun i y z hy hz=>by
     obtain ⟨c,z',h2,_,_,h3,_⟩:=hys i y hy
     rw [List.getElem?_map,h2] at hz
     simp at hz
     subst hz
     exact h3)
    simp only [Rows.uptoBulk]
    omega
structure OpnF (P:Program) (fs:List Field) (o:Nat) {α:Type} (d:Kd α) (g:α→Prop) (m:α→Nat):Prop where
 out:∀ (H:Type) (enc:TypeId×Value→H) (W:World) (n:Nat) (cs:List Value) (xs:List (DataW H×List MemPlace)),cs.length=o+d.sz→xs.length=fs.length →
  (∀ (i:Nat) (f:Field),fs[i]?=some f→DataW.trod enc P W 0 (fun _=>true) true n f.type ((cs.drop f.offset).take (P.cellsOf f.type))=xs[i]?) →
  (∀ q ∈ DataW.weightsEach P (fs.map (·.type)) (xs.map (·.1)),q≤reachN)→∃ y:α,d.K W y (cs.drop o)∧g y∧m y≤Rows.uptoBulkAll (xs.map (·.1))
theorem opnF_last {α:Type} {f:Field} {o:Nat} {d:Kd α} {g:α→Prop} {m:α→Nat} (hf:f.offset=o) (h:Opn P f.type d g m):OpnF P [f] o d g m where
 out:=by
  intro H enc W n cs xs hcs hxs hel hq
  match xs,hxs with
  | [x],_ =>
   have h0:=hel 0 f rfl
   rw [hf,h.sz,List.take_of_length_le (by rw [List.length_drop];omega)] at h0
   obtain ⟨y,hy,hg,hb⟩:=h.out H enc W n _ x (by simpa using h0) (fun q hq'=>hq q (by simp [DataW.weightsEach];exact hq'))
   exact ⟨y,hy,hg,by simp [Rows.uptoBulkAll];exact hb⟩
theorem opnF_cons {α β:Type} {f:Field} {fs:List Field} {o:Nat} {a:Kd α} {b:Kd β} {g:α→Prop} {m:α→Nat} {g':β→Prop} {m':β→Nat} (hf:f.offset=o) (h:Opn P f.type a g m) (hr:OpnF P fs (o+a.sz) b g' m') :
  OpnF P (f::fs) o (Kd.pair a b) (fun y=>g y.1∧g' y.2) (fun y=>m y.1+m' y.2) where
 out:=by
  intro H enc W n cs xs hcs hxs hel hq
  match xs,hxs with
  | x::xs,hxs =>
   have hsz:(Kd.pair a b).sz=a.sz+b.sz:=rfl
   have h0:=hel 0 f rfl
   rw [hf,h.sz] at h0
   obtain ⟨y,hy,hg,hb⟩:=h.out H enc W n _ x (by simpa using h0) (fun q hq'=>hq q (by simp only [List.map_cons,DataW.weightsEach];exact List.mem_append_left _ hq'))
   obtain ⟨z,hz,hg',hb'⟩:=hr.out H enc W n cs xs (by omega) (by simpa using hxs) (fun i f' hf'=>by simpa using hel (i+1) f' (by simpa using hf')) (fun q hq'=>hq q (by simp only [List.map_cons,DataW.weightsEach];exact List.mem_append_right _ hq'))
   refine ⟨(y,z),⟨(cs.drop o).take a.sz,cs.drop (o+a.sz),?_,hy,hz⟩,⟨hg,hg'⟩,?_⟩
   ·rw [← List.drop_drop,List.take_append_drop]
   ·simp only [List.map_cons,Rows.uptoBulkAll]
    omega
theorem opn_struct {α β:Type} {fs:Array Field} {d:Kd α} {g:α→Prop} {m:α→Nat} (ht:P.underlying t=some (.struct fs)) (hc:P.cellsOf t=d.sz) (h:OpnF P fs.toList 0 d g m) (f:β→α) (inv:α→β) (hfi:∀ a,f (inv a)=a) :
  Opn P t (Kd.iso d f) (fun y=>g (f y)) (fun y=>m (f y)+1) where
 sz:=hc
 out:=by
  intro H enc W n cs x hx hq
  obtain ⟨xs,n,_,rfl,hl,hxs,hel⟩:=DataW.trod_struct ht hx
  obtain ⟨y,hy,hg,hb⟩:=h.out H enc W n cs xs (by omega) (by simpa using hxs) (fun i f' hf'=>hel i f' (by simpa using hf')) (fun q hq'=>hq q (by simp only [DataW.weights,ht];exact hq'))
  refine ⟨inv y,?_,?_,?_⟩
  ·show d.K W (f (inv y)) cs
   rw [hfi]
   simpa using hy
  ·rw [hfi];exact hg
  ·rw [hfi];simp only [Rows.uptoBulk];omega
end
theorem weights_at {H:Type} {P:Program} {ts:List TypeId} {ds:List (DataW H)} (h:(DataW.weightsEach P ts ds).all (·≤reachBytes)=true) {j:Nat} {t:TypeId} {d:DataW H} (ht:ts[j]?=some t) (hd:ds[j]?=some d):∀ q ∈ d.weights P t,q≤reachN:=by
 intro q hq
 have h1:=List.all_eq_true.1 h _ (DataW.weights_mem_each ht hd q hq)
 have h2:q≤reachBytes:=by simpa using h1
 exact h2
end Go.Proofs.Ytgjibcfkjaedfaa.Open

namespace Go.Proofs.Ytgjibcfkjaedfaa.Pr
open Go.RowKit
set_option linter.unusedVariables false
def good53 (y:S53):Prop:=(Lit.int .i64 y.f0).wf=true∧(Lit.int .i64 y.f1).wf=true∧(Lit.int .i64 y.f2).wf=true∧(Lit.int .i64 y.f3).wf=true∧(Lit.int .i64 y.f4).wf=true∧(Lit.int .i64 y.f5).wf=true∧y.f6.size≤140737488351232∧y.f7.size≤140737488351232
def bulk53 (y:S53):Nat:=(1+(1+(1+(1+(1+(1+((y.f6.size+1)+(y.f7.size+1))))))))+1
end Go.Proofs.Ytgjibcfkjaedfaa.Pr

namespace Go.Proofs.Ytgjibcfkjaedfaa.Pr
open Go.RowKit Go.Proofs.YtgjibcfkjaedfaaW.PrintWords
theorem opn53:Open.Opn Try.prog 53 k53 good53 bulk53 :=
 Open.opn_struct Try.underlying53 (by kernel_rfl) (Open.opnF_cons rfl (Open.opn_int Try.underlying3 (by kernel_rfl)) (Open.opnF_cons rfl (Open.opn_int Try.underlying3 (by kernel_rfl)) (Open.opnF_cons rfl (Open.opn_int Try.underlying3 (by kernel_rfl)) (Open.opnF_cons rfl (Open.opn_int Try.underlying3 (by kernel_rfl)) (Open.opnF_cons rfl (Open.opn_int Try.underlying3 (by kernel_rfl)) (Open.opnF_cons rfl (Open.opn_int Try.underlying3 (by kernel_rfl)) (Open.opnF_cons rfl (Open.opn_string Try.underlying9 (by kernel_rfl)) (Open.opnF_last rfl (Open.opn_string Try.underlying9 (by kernel_rfl)))))))))) (fun x:S53=>(x.f0,x.f1,x.f2,x.f3,x.f4,x.f5,x.f6,x.f7)) (fun p=>⟨p.1,p.2.1,p.2.2.1,p.2.2.2.1,p.2.2.2.2.1,p.2.2.2.2.2.1,p.2.2.2.2.2.2.1,p.2.2.2.2.2.2.2⟩) (fun _=>rfl)
end Go.Proofs.Ytgjibcfkjaedfaa.Pr

namespace Go.Proofs.Ytgjibcfkjaedfaa.Pr
open Go.RowKit Go.Proofs.YtgjibcfkjaedfaaW.PrintWords Go.Proofs.YtgjibcfkjaedfaaW.PrintLast
set_option linter.unusedVariables false in
def latticelaw10_WalTorn.Stated:Prop:=∀ (a0:List (S53)) (a1:Int) (a2:List Int),((a0.length≤maxLen∧a0.length*80≤140737488351232∧∀ e ∈ a0,good53 e))→((Lit.int .i64 a1).wf=true)→((a2.length≤maxLen∧a2.length*1≤140737488351232∧∀ e ∈ a2,(Lit.int .u8 e).wf=true))→latticelaw10_WalTorn.f a0 a1 a2=some true
end Go.Proofs.Ytgjibcfkjaedfaa.Pr

namespace Go.Proofs.Ytgjibcfkjaedfaa.Pure
open Go.RowKit Go.Proofs.Ytgjibcfkjaedfaa.Pr Go.Proofs.YtgjibcfkjaedfaaW.PrintWords Go.Proofs.YtgjibcfkjaedfaaW.PrintLast
theorem WalTorn:latticelaw10_WalTorn.Stated:=by
 intro a0 a1 a2 h0 _ h2
 unfold latticelaw10_WalTorn.f
 rw [if_pos]
 refine ⟨?_,?_,by have:=h2.2.1;omega⟩
 ·intro x hx
  obtain ⟨_,_,_,_,_,_,_,hv⟩:=h0.2.2 x hx
  exact hv
 ·intro x hx
  have:=Go.bounds_u8 (h2.2.2 x hx)
  omega
end Go.Proofs.Ytgjibcfkjaedfaa.Pure

/- The law WalTorn returns true at every input, and each argument reads afterwards as it read before: WHAT IS WHOLE IS READ: of a log's bytes that are cut anywhere, and of which anything else stands behind, the records that are whole in it are read, those and, of what stands behind, only what may follow them.
   Conditions: none but those that the row itself prints. Written by a program of this session over the kit's printer. -/
namespace Go.Proofs.Ytgjibcfkjaedfaa.walTorn
open Go.ChangeShapes Go.WideShapes Go.ChangeAt Go.RowKit
open Go.ChangeMaps (open_string shut_string)
set_option linter.unusedVariables false
theorem own:ownKnob Try.prog.godebug=none:=by kernel_rfl
theorem laidOut:laidOutB Try.prog=true:=by kernel_rfl
set_option maxRecDepth 100000 in
theorem lifted (os:Os) (started:os.Started) (H:Type) (enc:TypeId×Value→H) :
  ReturnsInHanded {} Try.checked os 9 .any (Rows.walTornSpec.pre6 enc Try.prog Try.f9 Rows.walTornRow.domain false) (Rows.walTornSpec.post enc Try.prog Try.f9 false true false false):=by
 refine returnsInHanded_of_change_sized (C:=Try.checked) own started (by kernel_rfl) Try.func9
  (ChangeSpec.witness6 (enc:=enc) (C:=Try.checked) false ⟨#[],#[.slice none 0 0,.int .i64 0,.slice none 0 0],[]⟩ 8 (by kernel_rfl) (by kernel_rfl) (by kernel_rfl) (by kernel_rfl)) ?_
 intro W base args ds gs before hval0 hW hcnd hsz0 _
 have hsz:(DataW.weightsEach Try.prog (Try.f9.params.toList++Rows.walTornSpec.plain.varTypes Try.prog) (ds++gs)).all (·≤reachBytes)=true:=hsz0
 have hval:∀ (j:Nat) t v,Try.f9.params[j]?=some t→args[j]?=some v→Value.okWide Try.prog W .any base t v:=hval0
 have hW':=hW
 obtain ⟨p,q,hA0,hV,rfl,hfz,hnd⟩:=hW
 have hA:DataW.TrodAll enc Try.prog W 0 (fun _=>true) true Try.f9.params.toList args.toList ds p:=hA0
 rw [Try.params9] at hA hval hsz
 obtain ⟨v0,vs0,d0,ds0,p0,q0,hargs,rfl,rfl,h0,r0⟩:=trodAll_cons hA
 obtain ⟨v1,vs1,d1,ds1,p1,q1,rfl,rfl,rfl,h1,r1⟩:=trodAll_cons r0
 obtain ⟨v2,vs2,d2,ds2,p2,q2,rfl,rfl,rfl,h2,r2⟩:=trodAll_cons r1
 obtain ⟨rfl,rfl,rfl⟩:=trodAll_nil r2
 obtain rfl:args=#[v0,v1,v2]:=by cases args;simp_all
 obtain ⟨rfl,rfl⟩:=trodVars_none hV
 have k0:=h0
 have lt0:∀ x ∈ p0,x.block < W.heap.size:=by obtain ⟨m,hm⟩:=k0;exact DataW.trod_lt m _ _ _ hm
 obtain ⟨n0,hf0⟩:=h0
 obtain ⟨y0,K0,g0,m0⟩:=(Open.opn_slice (B:=80) Try.underlying22 (by kernel_rfl) (by kernel_rfl) Pr.opn53).out H enc W n0 _ _ hf0 (Open.weights_at hsz (j:=0) (t:=22) rfl rfl)
 obtain ⟨a0,len0,cap0,rfl⟩:=okWide_slice Try.underlying22 (hval 0 22 v0 rfl rfl)
 obtain ⟨A0,c0,e0,hc0,hr0⟩:=K0
 simp only [Value.cells,List.cons.injEq,Value.slice.injEq,and_true] at e0
 obtain ⟨rfl,rfl,rfl⟩:=e0
 have k1:=h1
 obtain ⟨y1,rfl,rfl,rfl,g1⟩:=open_int Try.underlying3 (hval 1 3 v1 rfl rfl) h1
 have k2:=h2
 have lt2:∀ x ∈ p2,x.block < W.heap.size:=by obtain ⟨m,hm⟩:=k2;exact DataW.trod_lt m _ _ _ hm
 obtain ⟨n2,hf2⟩:=h2
 obtain ⟨y2,K2,g2,m2⟩:=(Open.opn_slice (B:=1) Try.underlying67 (by kernel_rfl) (by kernel_rfl) (Open.opn_int Try.underlying5 (by kernel_rfl))).out H enc W n2 _ _ hf2 (Open.weights_at hsz (j:=2) (t:=67) rfl rfl)
 obtain ⟨a2,len2,cap2,rfl⟩:=okWide_slice Try.underlying67 (hval 2 67 v2 rfl rfl)
 obtain ⟨A2,c2,e2,hc2,hr2⟩:=K2
 simp only [Value.cells,List.cons.injEq,Value.slice.injEq,and_true] at e2
 obtain ⟨rfl,rfl,rfl⟩:=e2
 clear hA0 hval0 hsz0 hsz
 have hk:=Pure.WalTorn y0 y1 y2 g0 g1 g2
 refine (Pr.latticelaw10_WalTorn.calls _ _ y0 y1 _ _ y2 true W hr0 hc0 hr2 hc2 hk).mono fun e W' ⟨he,bel0⟩=>?_
 have bel:Below W.heap.size W W':=bel0
 subst he
 exact ⟨_,rfl,_,_,_,[],_,[],hW',trodAll_mk1 (shut_bool Try.underlying4 _),(trodAll_cons_mk (Below.trod laidOut (by kernel_rfl) (of_decide_eq_true (by kernel_rfl)) k0 bel lt0) (trodAll_cons_mk (shut_int Try.underlying3 g1) (trodAll_cons_mk (Below.trod laidOut (by kernel_rfl) (of_decide_eq_true (by kernel_rfl)) k2 bel lt2) trodAll_mk0))),rfl,bel.frame _,fun h=>by cases h⟩
theorem over:Rows.walTornRow.holds Try.pinned (OpenSpec.ofChange Rows.walTornSpec) :=
 OpenClaim.holds_of_wide 9 Try.f9 rfl rfl rfl rfl rfl rfl rfl ⟨rfl,rfl,rfl,rfl,rfl⟩ rfl rfl rfl rfl rfl (by kernel_rfl) Try.func9 (by kernel_rfl)
  (of_decide_eq_true (by kernel_rfl)) (by unfold Func.isWrapper;first|(rw [if_pos (by decide +kernel)];kernel_rfl)|(rw [if_neg (by decide +kernel)];exact ⟨rfl,rfl⟩))
  (fun os started H enc _=>lifted os started H enc)
theorem proved:Rows.WalTornSaid:=over
#print axioms proved
end Go.Proofs.Ytgjibcfkjaedfaa.walTorn
namespace Go.Proofs.Ytgjibcfkjaedfaa
theorem walTorn_holds:Rows.WalTornSaid:=walTorn.proved
end Go.Proofs.Ytgjibcfkjaedfaa
