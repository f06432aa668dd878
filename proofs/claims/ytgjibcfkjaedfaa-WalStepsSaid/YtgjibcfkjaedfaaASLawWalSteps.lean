-- Parts melded by a program of this session.
import Derived.Below
import Derived.Deep.Draws
import Derived.Deep.AppendLies
import Derived.Maps.AppendAt
import Derived.OwnWalk
import Derived.Laws.BytesArg
import Derived.Laws.MakeOwn
import Derived.Laws.OwnMore
import Derived.Deep.OwnRows
import Derived.Tactics
import Derived.Lib.ConvBytes
import Derived.Laws.Slices
import Derived.WalkKit
import Derived.KernelRfl
import Derived.RowKit3
import Derived.Deep.LoopGhost
import Derived.Deep.QuietTactic
import Derived.BigQuiet
import Derived.WideLaws
import Derived.Deep.DeepCutAuto
import Derived.Deep.CutBlock
import Derived.Deep.RegionHeld3
import Derived.Laws.Rows
import Derived.Lib.AppendStr
import Derived.ArgAppend
import Derived.Laws.IdiomCopy
import Derived.RowKit
import Derived.Test.YtgjibcfkjaedfaaTHWWords
import Derived.OrdersHeld
import Derived.Laws.BitsLemmas
import Derived.Test.YtgjibcfkjaedfaaTHWRest
import Derived.Laws.StructEq
import Derived.Test.YtgjibcfkjaedfaaProg
import Derived.Shelf.Abstract
import Derived.Test.YtgjibcfkjaedfaaTHPrx0
import Derived.Test.YtgjibcfkjaedfaaKStepS
import Derived.OneCell
import Derived.Lib.SliceRun
import Derived.Test.YtgjibcfkjaedfaaTHWire
import Derived.RangeFuncBox
import Derived.RangeFuncLeaves
import Derived.OwnWalkIn
import Derived.TacticsInMore
import Derived.LoopNIn
import Derived.LoopIn
import Derived.Lib.Hide
import Derived.Test.YtgjibcfkjaedfaaTHBack
import Derived.Outline
import Derived.Test.YtgjibcfkjaedfaaTHRead
import Derived.Test.YtgjibcfkjaedfaaTHNdFrom
import Derived.Laws.BitsAllLaws
import Derived.Test.YtgjibcfkjaedfaaTHCrc
import Derived.Test.YtgjibcfkjaedfaaTHPrx3
import Derived.Test.YtgjibcfkjaedfaaTHPrx4
import Derived.Test.YtgjibcfkjaedfaaTHPrx5
import Derived.Test.YtgjibcfkjaedfaaTHPrx1
import Derived.Test.YtgjibcfkjaedfaaTHRefW
import Derived.Test.YtgjibcfkjaedfaaTHPrxS
import Derived.Test.YtgjibcfkjaedfaaTHPrx15
import Derived.Test.YtgjibcfkjaedfaaTHPrx16
import Derived.Test.YtgjibcfkjaedfaaTHPureNode
import Derived.Deep.RegionLaw
import Derived.Laws.CopyOwn
import Derived.Test.YtgjibcfkjaedfaaTHPageEnc
import Derived.Test.YtgjibcfkjaedfaaTHPageFit
import Derived.Test.YtgjibcfkjaedfaaTHPageRd
import Derived.Test.YtgjibcfkjaedfaaTHPageNode
import Derived.Test.YtgjibcfkjaedfaaTHPageDec
import Derived.Test.YtgjibcfkjaedfaaTHCrcR
import Derived.Test.YtgjibcfkjaedfaaTHPageRt
import Derived.Test.YtgjibcfkjaedfaaTHPrx17
import Derived.Test.YtgjibcfkjaedfaaTHPagePure
import Derived.Test.YtgjibcfkjaedfaaTHRefRd
import Derived.Test.YtgjibcfkjaedfaaTHPageRef
import Derived.Test.YtgjibcfkjaedfaaTHRecIR
import Derived.Lib.SlBytesConst
import Derived.StillTailTactics
import Derived.Test.YtgjibcfkjaedfaaTHRecV
import Derived.Test.YtgjibcfkjaedfaaTHRecChkP
import Derived.Test.YtgjibcfkjaedfaaTHRecChkA
import Derived.Test.YtgjibcfkjaedfaaTHRecChkB
import Derived.Test.YtgjibcfkjaedfaaTHRecChkE
import Derived.Test.YtgjibcfkjaedfaaTHRecChk
import Derived.Test.YtgjibcfkjaedfaaTHRecEnc
import Derived.Test.YtgjibcfkjaedfaaTHRecRead
import Derived.Test.YtgjibcfkjaedfaaTHRecDec
import Derived.Test.YtgjibcfkjaedfaaTHRecRight
import Derived.Test.YtgjibcfkjaedfaaTHRecRefDec
import Derived.Test.YtgjibcfkjaedfaaTHRecLaw
import Derived.Test.YtgjibcfkjaedfaaTHRecK
import Derived.Test.YtgjibcfkjaedfaaTHPrx19
import Derived.Test.YtgjibcfkjaedfaaTHPrx26
import Derived.Test.YtgjibcfkjaedfaaTHRecEncs
import Derived.Test.YtgjibcfkjaedfaaKWA
import Derived.Test.YtgjibcfkjaedfaaKWB
import Derived.WalkMore
import Derived.Test.YtgjibcfkjaedfaaKRA
import Derived.Test.YtgjibcfkjaedfaaKWS
import Derived.Test.YtgjibcfkjaedfaaRows
import Derived.OpenShut
import Derived.SizedLaws
import Derived.ChangeArms
import Derived.ChangeOld
import Derived.DataReads
import Derived.ProofKit
import Derived.ShutString
import Derived.Carry
set_option linter.unusedVariables false
set_option linter.unusedSimpArgs false
namespace Go.Proofs.YtgjibcfkjaedfaaW.PrintWords
open Go.RowKit
theorem LeO.ite {α:Type} {c:Prop} [Decidable c] {a a' b b':Option α} (h:LeO a a') (k:LeO b b'):LeO (if c then a else b) (if c then a' else b'):=by
  split
  · exact h
  · exact k
section
variable {P:Program} {ops:Array Oper} {rest:List Oper} {o:Oper} {a:Act} {Q:Exit→Act→World→Prop}
end
section
variable {P:Program} {ops:Array Oper} {o:Oper} {a:Act} {Q:Exit→Act→World→Prop} {K:Act→World→Prop}
end
section
variable {α:Type} {enc:α→Value} {d:α}
end
section
variable {α:Type} {P:Program} {ops:Array Oper} {rest:List Oper} {o:Oper} {a:Act} {Q:Exit→Act→World→Prop}
end
section
variable {P:Program}
end
section
variable {α:Type} {R R':α→List Value→Prop} {e:TypeId} {size:Nat} {w w1:World} {base:Nat} {v:Value} {ps:List α}
end
section
variable {P:Program} {ops:Array Oper} {rest:List Oper} {o:Oper} {a:Act} {Q:Exit→Act→World→Prop} {α:Type} {R:α→List Value→Prop}
end
namespace Kd
section
variable {α:Type} {d:Kd α} {e:Nat} {w w1:World} {base:Nat} {ok ok':Nat→Prop} {v:Value} {xs:List α}
end
section
variable {P:Program} {ops:Array Oper} {rest:List Oper} {o:Oper} {a:Act} {Q:Exit→Act→World→Prop} {α:Type}
end
section
variable {P:Program} {ops:Array Oper} {o:Oper} {a:Act} {Q:Exit→Act→World→Prop} {Kc:Act→World→Prop} {α:Type}
end
end Kd
namespace Kd
end Kd
namespace Kd
section
variable {α β:Type} {d:Kd α} {d':Kd β} {e e':Nat} {w w1 W:World} {base b b':Nat} {ok ok' okv oku:Nat→Prop} {v u:Value} {xs:List α} {ys:List β}
end
section
variable {w W:World} {A:Option Addr} {n:Nat}
end
section
variable {P:Program} {ops:Array Oper} {rest:List Oper} {o:Oper} {a:Act} {Q:Exit→Act→World→Prop}
end
end Kd
section
variable {P:Program}
end
section
variable {w w1:World} {base n size:Nat} {e:TypeId} {v:Value} {xs:List Value}
end
namespace Kd
section
variable {α:Type} {d:Kd α} {e:Nat} {w w1 W:World} {base:Nat} {ok ok':Nat→Prop} {v:Value} {xs:List α}
end
end Kd
namespace Kd
section
variable {α:Type} {d:Kd α} {e e':Nat} {w w1 W:World} {base:Nat} {ok:Nat→Prop} {u v:Value} {xs:List α}
end
end Kd
namespace Kd
section
variable {P:Program} {ops:Array Oper} {rest:List Oper} {o:Oper} {a:Act} {Q:Exit→Act→World→Prop} {α:Type}
end
end Kd
namespace Kd
section
variable {α:Type} {k:Kd α} {w:World} {A:Option Addr} {xs:List α} {m c:Nat}
end
end Kd
section
variable {P:Program}
end
section
variable {P:Program} {ops:Array Oper} {rest:List Oper} {o:Oper} {a:Act} {Q:Exit→Act→World→Prop}
end
section
variable {P:Program} {ops:Array Oper} {rest:List Oper} {o:Oper} {a:Act} {Q:Exit→Act→World→Prop} {W:World}
end
end Go.Proofs.YtgjibcfkjaedfaaW.PrintWords

namespace Go.Proofs.YtgjibcfkjaedfaaW.PrintWords
open Go.RowKit
namespace Foot
variable {P Q:World→Prop} {W W1:World} {ok ok':Nat→Prop}
theorem bound (h:Foot P W ok):Foot P W (fun k=>ok k∧k < W.heap.size):=fun W' hW=>h W' (fun k hk hlt=>hW k ⟨hk,hlt⟩ hlt)
end Foot
namespace Kd
section
variable {α β:Type} {d:Kd α} {e base n n' cc g N:Nat} {ok ok' okp S:Nat→Prop} {w w0 w1 W W1:World} {A A':Option Addr} {u v v1:Value} {xs:List α} {xs':List β} {d':Kd β} {x:α} {c:List Value}
end
end Kd
end Go.Proofs.YtgjibcfkjaedfaaW.PrintWords

namespace Go.Proofs.Ytgjibcfkjaedfaa.Wal
open Go.RowKit Go.Proofs.YtgjibcfkjaedfaaW.PrintWords Go.Proofs.YtgjibcfkjaedfaaW.PrintLast Go.Proofs.YtgjibcfkjaedfaaW.PrintMore Go.Proofs.Ytgjibcfkjaedfaa.Wire Go.Proofs.Ytgjibcfkjaedfaa.Pr Go.Proofs.Ytgjibcfkjaedfaa.Rec
open Go.Proofs.Ytgjibcfkjaedfaa.Back (AllB)
set_option linter.unusedVariables false
set_option linter.unusedSimpArgs false
theorem rd_snoc_lt {l:List RecS} {r:RecS} {k:Nat} (h:k < l.length):rd_T53 (l++[r]) (k:Int)=rd_T53 l (k:Int):=by
 unfold rd_T53
 rw [Int.toNat_natCast,List.getD_eq_getElem?_getD,List.getD_eq_getElem?_getD,List.getElem?_append_left h]
theorem rd_snoc_eq {l:List RecS} {r:RecS}:rd_T53 (l++[r]) (l.length:Int)=r:=by
 unfold rd_T53
 rw [Int.toNat_natCast,List.getD_eq_getElem?_getD,List.getElem?_append_right (Nat.le_refl _),Nat.sub_self]
 rfl
theorem LsnOk.snoc {l:List RecS} {r:RecS} (h:LsnOk l) (hr:r.f0=(l.length:Int)+1):LsnOk (l++[r]):=by
 intro k hk
 rw [List.length_append,List.length_singleton] at hk
 by_cases hlt:k < l.length
 ·rw [rd_snoc_lt hlt];exact h k hlt
 ·obtain rfl:k=l.length:=by omega
  rw [rd_snoc_eq];exact hr
theorem Reads.lsn {xs:List Int} {l:List RecS} {u:Nat} (h:Reads xs l u):LsnOk l:=by
 induction h with
 | nil=>intro k hk;simp at hk
 | snoc h hd h1 h2 h3 ih=>exact ih.snoc h1
end Go.Proofs.Ytgjibcfkjaedfaa.Wal

namespace Go.Proofs.Ytgjibcfkjaedfaa.Wal
open Go.RowKit Go.Proofs.YtgjibcfkjaedfaaW.PrintWords Go.Proofs.YtgjibcfkjaedfaaW.PrintLast Go.Proofs.YtgjibcfkjaedfaaW.PrintMore Go.Proofs.Ytgjibcfkjaedfaa.Wire Go.Proofs.Ytgjibcfkjaedfaa.Pr Go.Proofs.Ytgjibcfkjaedfaa.Rec
open Go.Proofs.Ytgjibcfkjaedfaa.Back (AllB)
set_option linter.unusedVariables false
set_option linter.unusedSimpArgs false
def StAt (w:World) (b:Nat) (kd sn a0 a1 a2 a3 a4 a5:Int) (a6 a7:ByteArray):Prop:=w.heap[b]?=some (.cells #[.int .i64 kd,.int .i64 sn,.int .i64 a0,.int .i64 a1,.int .i64 a2,.int .i64 a3,.int .i64 a4,.int .i64 a5,.string a6,.string a7] 82 (0,0))
section
variable {w w1:World} {b:Nat} {kd sn a0 a1 a2 a3 a4 a5:Int} {a6 a7:ByteArray} {S:Nat→Prop}
theorem StAt.cells (h:StAt w b kd sn a0 a1 a2 a3 a4 a5 a6 a7):w.cell? ⟨b,0,none⟩=some (.int .i64 kd)∧w.cell? ⟨b,1,none⟩=some (.int .i64 sn)∧w.cell? ⟨b,2,none⟩=some (.int .i64 a0)∧w.cell? ⟨b,3,none⟩=some (.int .i64 a1)∧w.cell? ⟨b,4,none⟩=some (.int .i64 a2)∧w.cell? ⟨b,5,none⟩=some (.int .i64 a3)∧w.cell? ⟨b,6,none⟩=some (.int .i64 a4)∧w.cell? ⟨b,7,none⟩=some (.int .i64 a5)∧w.cell? ⟨b,8,none⟩=some (.string a6)∧w.cell? ⟨b,9,none⟩=some (.string a7):=by
 unfold StAt at h
 simp [World.cell?,h]
theorem StAt.chg (h:StAt w b kd sn a0 a1 a2 a3 a4 a5 a6 a7) (hc:Chg w w1 S) (hn:¬ S b):StAt w1 b kd sn a0 a1 a2 a3 a4 a5 a6 a7:=hc.blk h hn
theorem StAt.below (h:StAt w b kd sn a0 a1 a2 a3 a4 a5 a6 a7) (hB:Below w.heap.size w w1):StAt w1 b kd sn a0 a1 a2 a3 a4 a5 a6 a7:=h.chg (Chg.of_below hB (fun _=>False)) (fun h=>h)
theorem StAt.num (h:StAt w b kd sn a0 a1 a2 a3 a4 a5 a6 a7):w.cell? ⟨b,1,none⟩=some (.int .i64 sn):=h.cells.2.1
end
structure LogOk (l:List RecS):Prop where
 len:l.length≤65536
 lsn:LsnOk l
 right:allR l
theorem LogOk.size {l:List RecS} (h:LogOk l):∀ x ∈ l,x.f7.size≤140737488351232:=fun x hx=>by
 have:=(fits_of (h.right x hx)).1.h8
 show (toV x).2.2.2.2.2.2.2.size≤140737488351232
 omega
theorem LogOk.nil:LogOk []:=⟨by simp,fun k hk=>by simp at hk,fun x hx=>by simp at hx⟩
theorem LogOk.app {l:List RecS} (h:LogOk l) (r:RecS):LogOk (appF l r).1:=by
 unfold appF
 by_cases hr:rightV (toV (withLsn r ((l.length:Int)+1)))=true
 ·rw [if_pos hr]
  by_cases he:r.f1 < lastE l
  ·rw [if_pos he];exact h
  ·rw [if_neg he]
   by_cases hf:l.length=65536
   ·rw [if_pos hf];exact h
   ·rw [if_neg hf]
    refine ⟨?_,h.lsn.snoc rfl,allR_snoc h.right hr⟩
    rw [List.length_append,List.length_singleton]
    have:=h.len
    omega
 ·rw [if_neg hr];exact h
theorem rd_take {l:List RecS} {m k:Nat} (h:k < m) (hm:m≤l.length):rd_T53 (l.take m) (k:Int)=rd_T53 l (k:Int):=by
 unfold rd_T53
 rw [Int.toNat_natCast,List.getD_eq_getElem?_getD,List.getD_eq_getElem?_getD,List.getElem?_take_of_lt h]
theorem LogOk.cut {l:List RecS} (h:LogOk l) (fl n:Int):LogOk (cutF l fl n).1:=by
 unfold cutF
 by_cases hb:withinB l.length n=true
 ·rw [if_pos hb]
  have h1:=withinB_iff.1 hb
  have hl:(l.take n.toNat).length=n.toNat:=by rw [List.length_take];omega
  refine ⟨by have:=h.len;rw [hl];omega,?_,fun x hx=>h.right x (List.mem_of_mem_take hx)⟩
  intro k hk
  rw [hl] at hk
  rw [rd_take hk (by omega)]
  exact h.lsn k (by omega)
 ·rw [if_neg hb];exact h
def Two (base:Nat) (W:World) (g g':Nat) (l:List RecS) (fl:Int):Prop :=
 ∃ ok ok':Nat→Prop,LogAt 98 W ok g l fl∧LogAt 37 W ok' g' l fl∧(∀ k,ok k→ok' k→False)∧(∀ k,ok k→base≤k)∧(∀ k,ok' k→base≤k)
theorem Two.below {base:Nat} {W W1:World} {g g':Nat} {l:List RecS} {fl:Int} (h:Two base W g g' l fl) (hB:Below W.heap.size W W1):Two base W1 g g' l fl:=by
 obtain ⟨ok,ok',h1,h2,h3,h4,h5⟩:=h
 exact ⟨ok,ok',h1.below hB,h2.below hB,h3,h4,h5⟩
theorem two_step {base:Nat} {W W1 W2:World} {ok ok':Nat→Prop} {g g':Nat} {l1:List RecS} {fl1:Int} (hd:∀ k,ok k→ok' k→False) (hb:∀ k,ok k→base≤k) (hb':∀ k,ok' k→base≤k) (hW:base≤W.heap.size) (hW1:W.heap.size≤W1.heap.size)
  (hL:LogAt 98 W1 (fun k=>ok k∨W.heap.size≤k) g l1 fl1) (hL2:LogAt 37 W2 (fun k=>(ok' k∧k < W.heap.size)∨W1.heap.size≤k) g' l1 fl1) (hC2:Chg W1 W2 (fun k=>ok' k∧k < W.heap.size)):Two base W2 g g' l1 fl1:=by
 refine ⟨_,_,hL.bound.chg hC2 ?_,hL2,?_,?_,?_⟩
 ·intro k hk _ h
  rcases hk.1 with h1|h1
  ·exact hd k h1 h.1
  ·have:=h.2;omega
 ·intro k hk h
  rcases h with h|h
  ·rcases hk.1 with h1|h1
   ·exact hd k h1 h.1
   ·have:=h.2;omega
  ·have:=hk.2;omega
 ·intro k hk
  rcases hk.1 with h1|h1
  ·exact hb k h1
  ·omega
 ·intro k hk
  rcases hk with h1|h1
  ·exact hb' k h1.1
  ·omega
theorem two_first {W W1:World} {ok ok':Nat→Prop} {g':Nat} {l:List RecS} {fl:Int} (hd:∀ k,ok k→ok' k→False) (h2:LogAt 37 W ok' g' l fl) (hC:Chg W W1 ok):LogAt 37 W1 (fun k=>ok' k∧k < W.heap.size) g' l fl :=
 h2.bound.chg hC (fun k hk _ h=>hd k h hk.1)
def StepIn (w:World) (n g g':Nat) (v18:Value) (wr:World):Prop :=
 ∃ (k:Nat) (l:List RecS) (fl:Int),k≤n∧v18=.int .i64 k∧Aside0 (Two w.heap.size wr g g' l fl)∧Aside0 (LogOk l)∧Aside0 (Below w.heap.size w wr)
def StepOut (w:World) (g g' b:Nat) (kd sn a0 a1 a2 a3 a4 a5:Int) (a6 a7:ByteArray) (wx:World):Prop :=
 ∃ (l:List RecS) (fl:Int),Aside0 (Two w.heap.size wx g g' l fl)∧Aside0 (LogOk l)∧Aside0 (StAt wx b kd sn a0 a1 a2 a3 a4 a5 a6 a7)∧Aside0 (Below w.heap.size w wx)
set_option maxHeartbeats 16000000 in
set_option maxRecDepth 100000 in
theorem walSteps_ok (A:Option Addr) (c:Nat) (xs:List S82) (w:World) (hr:Kd.C k82 w A xs.length xs) (hv:∀ x ∈ xs,x.f2.f7.size≤140737488351232) :
  Calls Try.prog 12 #[.slice A xs.length c] w fun e w'=>e=.returned (.bool true)∧Below w.heap.size w w':=by
 have hnew:=new_ok w
 have HX:=Aside0.mk hr
 have HV:=Aside0.mk hv
 have hna:xs.length≤9223372036854775807:=hr.2.1
 clear hr hv
 go_enter Try.func12,Try.ntmps12
 go_wp2_with (go_at_call 20;(with_reducible refine hnew.mono ?_);rintro e w1 ⟨rfl,hL,hB⟩;(have HL:=Aside0.mk hL);(have HB:=Aside0.mk hB);clear hL hB hnew)
 have htw:Two w.heap.size (w1.alloc (.cells #[.slice none 0 0,.int .i64 0] 37)) w.heap.size w1.heap.size [] 0:=by
  refine ⟨_,fun k=>w1.heap.size≤k,(HL.out.bound).below (below_alloc (Below.refl _ _) _),⟨none,0,blk_newN _ _,Nat.le_refl _,Kd.R_nil _ _ _ _ _⟩,fun k h1 h2=>by have:=h1.2;omega,fun k h=>h.1,fun k h=>Nat.le_trans HB.out.size h⟩
 have HTW:=Aside0.mk htw
 replace HB:=Aside0.mk (below_alloc HB.out (.cells #[.slice none 0 0,.int .i64 0] 37))
 clear htw HL
 generalize w1.heap.size=g' at HTW ⊢
 go_loopw [18] (fun v18 wr=>StepIn w xs.length w.heap.size g' v18 wr) (fun v18 _=>xs.length - (intOf v18).toNat)
 case atStart=>exact ⟨0,[],0,by omega,rfl,HTW,⟨LogOk.nil⟩,HB⟩
 case round =>
  clear HTW HB
  obtain ⟨k,l,fl,hk,rfl,HTW,HLO,HB⟩:=hrel
  by_cases hlt:k < xs.length
  ·have hltI:(k:Int) < (xs.length:Int):=by omega
   have hk0:(0:Int)≤(k:Int):=by omega
   obtain ⟨ad,rfl,hx0,hx1,hx2,hx3,hx4,hx5,hx6,hx7,hx8,hx9⟩:=at_T82 (Kd.C_below HX.out HB.out) (k:Int) hk0 hltI
   rw [Int.toNat_natCast] at hx0 hx1 hx2 hx3 hx4 hx5 hx6 hx7 hx8 hx9
   have hsz:(rd_T82 xs (k:Int)).f2.f7.size≤140737488351232:=by
    refine HV.out _ ?_
    unfold rd_T82
    rw [Int.toNat_natCast,List.getD_eq_getElem?_getD,List.getElem?_eq_getElem hlt]
    exact List.getElem_mem _
   generalize rd_T82 xs (k:Int)=x at hx0 hx1 hx2 hx3 hx4 hx5 hx6 hx7 hx8 hx9 hsz
   obtain ⟨kd,sn,⟨a0,a1,a2,a3,a4,a5,a6,a7⟩⟩:=x
   dsimp only at hx0 hx1 hx2 hx3 hx4 hx5 hx6 hx7 hx8 hx9 hsz
   have HSZ:=Aside0.mk hsz
   obtain ⟨ok0,ok0',hq1,hq2,hq3,hq4,hq5⟩:=HTW.out
   have HBA:=Aside0.mk (below_alloc (Below.refl wr.heap.size wr) (.cells #[.int .i64 kd,.int .i64 sn,.int .i64 a0,.int .i64 a1,.int .i64 a2,.int .i64 a3,.int .i64 a4,.int .i64 a5,.string a6,.string a7] 82))
   obtain ⟨ok,hok⟩:∃ ok:Nat→Prop,∀ k,ok k↔(ok0 k∧k < wr.heap.size):=⟨_,fun _=>Iff.rfl⟩
   obtain ⟨ok',hok'⟩:∃ ok':Nat→Prop,∀ k,ok' k↔(ok0' k∧k < wr.heap.size):=⟨_,fun _=>Iff.rfl⟩
   have HLB:=Aside0.mk ((hq1.bound.mono (fun k h=>(hok k).2 h)).below HBA.out)
   have HLB':=Aside0.mk ((hq2.bound.mono (fun k h=>(hok' k).2 h)).below HBA.out)
   have HDJ:Aside0 (∀ k,ok k→ok' k→False):=⟨fun k h h'=>hq3 k ((hok k).1 h).1 ((hok' k).1 h').1⟩
   have HBO:Aside0 (∀ k,ok k→w.heap.size≤k):=⟨fun k h=>hq4 k ((hok k).1 h).1⟩
   have HBO':Aside0 (∀ k,ok' k→w.heap.size≤k):=⟨fun k h=>hq5 k ((hok' k).1 h).1⟩
   have HNB:Aside0 (∀ k,ok k→k=wr.heap.size→False):=⟨fun k h e=>by have:=((hok k).1 h).2;omega⟩
   have HNB':Aside0 (∀ k,ok' k→k=wr.heap.size→False):=⟨fun k h e=>by have:=((hok' k).1 h).2;omega⟩
   have HBX:Aside0 (StAt (wr.alloc (.cells #[.int .i64 kd,.int .i64 sn,.int .i64 a0,.int .i64 a1,.int .i64 a2,.int .i64 a3,.int .i64 a4,.int .i64 a5,.string a6,.string a7] 82)) wr.heap.size kd sn a0 a1 a2 a3 a4 a5 a6 a7):=⟨blk_newN _ _⟩
   have HW0:=Aside0.mk HB.out.size
   replace HB:=Aside0.mk (below_from2 HB.out (Nat.le_refl _) HBA.out)
   have HWS:=Aside0.mk HB.out.size
   have HTB:=Aside0.mk (HTW.out.below HBA.out)
   clear hok hok'
   clear hsz hq1 hq2 hq3 hq4 hq5 HTW
   obtain ⟨b0,b1,b2,b3,b4,b5,b6,b7,b8,b9⟩:=HBX.out.cells
   have ltb:=blk_lt HBX.out
   go_upto_block 2 with (fail)
   go_cut [] (fun wx=>StepOut w w.heap.size g' wr.heap.size kd sn a0 a1 a2 a3 a4 a5 a6 a7 wx)
   case first =>
    have hkd:((kd==0)=true∨((kd==0)=false∧(kd==1)=true))∨((kd==0)=false∧(kd==1)=false∧(kd==2)=true)∨((kd==0)=false∧(kd==1)=false∧(kd==2)=false∧(kd==3)=true)∨((kd==0)=false∧(kd==1)=false∧(kd==2)=false∧(kd==3)=false):=by
     rcases (kd==0) <;> rcases (kd==1) <;> rcases (kd==2) <;> rcases (kd==3) <;> simp
    rcases hkd with hkd|⟨d0,d1,d2⟩|⟨d0,d1,d2,d3⟩|⟨d0,d1,d2,d3⟩
    ·obtain ⟨⟨l1,q1,q2⟩,hP⟩:∃ P,appF l ⟨a0,a1,a2,a3,a4,a5,a6,a7⟩=P:=⟨_,rfl⟩
     have happ:=append_ok HLB.out HLO.out.len a0 a1 a2 a3 a4 a5 a6 a7 HSZ.out
     have HRAP:=Aside0.mk (fun (W:World) (o:Nat→Prop) (h:LogAt 37 W o g' l fl)=>rappend_ok h HLO.out.len a0 a1 a2 a3 a4 a5 a6 a7 HSZ.out)
     have hok1:=HLO.out.app ⟨a0,a1,a2,a3,a4,a5,a6,a7⟩
     rw [hP] at happ HRAP hok1
     dsimp only at happ HRAP hok1
     have HOK1:=Aside0.mk hok1
     have e1:(q1 != q1)=false:=by simp
     have e2:(q2 != q2)=false:=by simp
     clear hP hok1
     rcases hkd with d0|⟨d0,d1⟩
     all_goals
      go_wp2_with (first
       | (go_at_call 33;(with_reducible refine happ.mono ?_);rintro e w3 ⟨rfl,hL,hC⟩;(have HC1:=Aside0.mk hC);(have HL1:=Aside0.mk hL);(have HR:=Aside0.mk (two_first HDJ.out HLB'.out hC));(replace HBX:=Aside0.mk (HBX.out.chg hC (fun h=>HNB.out _ h rfl)));(replace HB:=Aside0.mk (HB.out.trans (hC.below HWS.out HBO.out)));clear b0 b1 b2 b3 b4 b5 b6 b7 b8 b9;obtain ⟨b0,b1,b2,b3,b4,b5,b6,b7,b8,b9⟩:=HBX.out.cells;(have hra:=HRAP.out _ _ HR.out);clear happ;clear hL hC)
       | (go_at_call 42;(with_reducible refine hra.mono ?_);rintro e w4 ⟨rfl,hL,hC⟩;(have HC2:=Aside0.mk hC);(have HL2:=Aside0.mk hL);(replace HBX:=Aside0.mk (HBX.out.chg hC (fun h=>HNB'.out _ h.1 rfl)));(replace HB:=Aside0.mk (HB.out.trans (hC.below (Nat.le_trans HWS.out HC1.out.size) (fun k h=>HBO'.out k h.1))));clear b0 b1 b2 b3 b4 b5 b6 b7 b8 b9;obtain ⟨b0,b1,b2,b3,b4,b5,b6,b7,b8,b9⟩:=HBX.out.cells;clear hra;clear hL hC))
      go_meet
      exact ⟨l1,fl,⟨two_step HDJ.out HBO.out HBO'.out HWS.out HC1.out.size HL1.out HL2.out HC2.out⟩,HOK1,HBX,HB⟩
    ·obtain ⟨⟨l1,fl1,q1⟩,hP⟩:∃ P,cutF l fl sn=P:=⟨_,rfl⟩
     have happ:=cut_ok (HLB.out.below (below_drew (Below.refl _ _))) (by have:=HLO.out.len;omega) sn
     have HRAP:=Aside0.mk (fun (W:World) (o:Nat→Prop) (h:LogAt 37 W o g' l fl)=>rcut_ok h HLO.out.len HLO.out.lsn sn)
     have hok1:=HLO.out.cut fl sn
     rw [hP] at happ HRAP hok1
     dsimp only at happ HRAP hok1
     have HOK1:=Aside0.mk hok1
     have e2:(q1 != q1)=false:=by simp
     clear hP hok1
     go_upto_region 16 with (fail)
     have HBX0:=HBX
     replace HBX:=Aside0.mk (HBX.out.below (below_drew (Below.refl _ _)))
     replace HLB':=Aside0.mk (HLB'.out.below (below_drew (Below.refl _ _)))
     replace HB:=Aside0.mk (below_drew HB.out)
     go_region_held3 (fun W=>W.cell? ⟨wr.heap.size,1,none⟩=some (.int .i64 sn))
      (first|(with_reducible exact HBX.out.num)|(with_reducible exact HBX0.out.num))
      (first
       | (go_at_call 40;(with_reducible refine happ.mono ?_);rintro e w3 ⟨rfl,hL,hC⟩;(have HC1:=Aside0.mk hC);(have HL1:=Aside0.mk hL);(have HR:=Aside0.mk (two_first HDJ.out HLB'.out hC));(replace HBX:=Aside0.mk (HBX.out.chg hC (fun h=>HNB.out _ h rfl)));(replace HB:=Aside0.mk (HB.out.trans (hC.below HWS.out HBO.out)));(have hra:=HRAP.out _ _ HR.out);clear happ;clear hL hC)
       | (go_at_call 43;(with_reducible refine hra.mono ?_);rintro e w4 ⟨rfl,hL,hC⟩;(have HC2:=Aside0.mk hC);(have HL2:=Aside0.mk hL);(replace HBX:=Aside0.mk (HBX.out.chg hC (fun h=>HNB'.out _ h.1 rfl)));(replace HB:=Aside0.mk (HB.out.trans (hC.below (Nat.le_trans HWS.out HC1.out.size) (fun k h=>HBO'.out k h.1))));clear hra;clear hL hC))
     all_goals
      go_wp2
      go_meet
      exact ⟨l1,fl1,⟨two_step HDJ.out HBO.out HBO'.out HWS.out HC1.out.size HL1.out HL2.out HC2.out⟩,HOK1,HBX,HB⟩
    ·obtain ⟨⟨fl1,q1⟩,hP⟩:∃ P,flushF l.length fl sn=P:=⟨_,rfl⟩
     have happ:=flush_ok (HLB.out.below (below_drew (Below.refl _ _))) (by have:=HLO.out.len;omega) sn
     have HRAP:=Aside0.mk (fun (W:World) (o:Nat→Prop) (h:LogAt 37 W o g' l fl)=>rflush_ok h sn)
     rw [hP] at happ HRAP
     dsimp only at happ HRAP
     have e2:(q1 != q1)=false:=by simp
     clear hP
     go_upto_region 19 with (fail)
     have HBX0:=HBX
     replace HBX:=Aside0.mk (HBX.out.below (below_drew (Below.refl _ _)))
     replace HLB':=Aside0.mk (HLB'.out.below (below_drew (Below.refl _ _)))
     replace HB:=Aside0.mk (below_drew HB.out)
     go_region_held3 (fun W=>W.cell? ⟨wr.heap.size,1,none⟩=some (.int .i64 sn))
      (first|(with_reducible exact HBX.out.num)|(with_reducible exact HBX0.out.num))
      (first
       | (go_at_call 44;(with_reducible refine happ.mono ?_);rintro e w3 ⟨rfl,hL,hC⟩;(have HC1:=Aside0.mk hC);(have HL1:=Aside0.mk hL);(have HR:=Aside0.mk (two_first HDJ.out HLB'.out hC));(replace HBX:=Aside0.mk (HBX.out.chg hC (fun h=>HNB.out _ h rfl)));(replace HB:=Aside0.mk (HB.out.trans (hC.below HWS.out HBO.out)));(have hra:=HRAP.out _ _ HR.out);clear happ;clear hL hC)
       | (go_at_call 45;(with_reducible refine hra.mono ?_);rintro e w4 ⟨rfl,hL,hC⟩;(have HC2:=Aside0.mk hC);(have HL2:=Aside0.mk hL);(replace HBX:=Aside0.mk (HBX.out.chg hC (fun h=>HNB'.out _ h.1 rfl)));(replace HB:=Aside0.mk (HB.out.trans (hC.below (Nat.le_trans HWS.out HC1.out.size) (fun k h=>HBO'.out k h.1))));clear hra;clear hL hC))
     all_goals
      go_wp2
      go_meet
      exact ⟨l,fl1,⟨two_step HDJ.out HBO.out HBO'.out HWS.out HC1.out.size (HL1.out.mono (fun k hk=>.inl hk)) (HL2.out.mono (fun k hk=>.inl hk)) HC2.out⟩,HLO,HBX,HB⟩
    ·go_wp2
     go_meet
     exact ⟨l,fl,HTB,HLO,HBX,HB⟩
   case rest =>
    obtain ⟨l2,fl2,HT2,HLO2,HBX2,HB2⟩:=hcut
    clear HTB HLO HBX HB HLB HLB' HDJ HBO HBO' HNB HNB' HBA HWS HSZ ltb hx0 hx1 hx2 hx3 hx4 hx5 hx6 hx7 hx8 hx9
    clear b0 b1 b2 b3 b4 b5 b6 b7 b8 b9;obtain ⟨b0,b1,b2,b3,b4,b5,b6,b7,b8,b9⟩:=HBX2.out.cells;
    obtain ⟨ok1,ok1',h1,h2,_,_,_⟩:=HT2.out
    have hsm:=same_ok h1 h2 HLO2.out.len HLO2.out.lsn sn
    clear h1 h2
    go_wp2_with (go_at_call 39;(with_reducible refine hsm.mono ?_);rintro e w6 ⟨rfl,hB⟩;(replace HT2:=Aside0.mk (HT2.out.below hB));(replace HB2:=Aside0.mk (below_from2 HB2.out (Nat.le_refl _) hB));clear hB hsm)
    go_roundw
    case rel=>exact ⟨k+1,l2,fl2,by omega,by go_num,HT2,HLO2,HB2⟩
    case measure=>simp [intOf];omega
  ·have hge:¬ (k:Int) < (xs.length:Int):=by omega
   obtain ⟨ok1,ok1',h1,h2,_,_,_⟩:=HTW.out
   have hby:=bytes_ok (h1.below (below_drew (Below.refl _ _))) HLO.out.len HLO.out.size
   have HRB:=Aside0.mk (fun W (hB:Below wr.heap.size wr W)=>rbytes_ok (h2.below hB) HLO.out.len HLO.out.size)
   have HW:=Aside0.mk (Below.refl wr.heap.size wr)
   clear h1 h2
   obtain ⟨bs,hbs⟩:∃ bs,bytesF l=bs:=⟨_,rfl⟩
   rw [hbs] at hby HRB
   clear hbs
   go_upto_region 24 with (fail)
   go_region_law (first
    | ((have t_:=hby);clear t_;rw [if_pos (by simp [Region.wanted])];go_simp;go_wp2_with (go_at_call 34;(with_reducible refine hby.mono ?_);rintro e w5 ⟨A5,c5,rfl,hR,hB⟩;(replace hB:=below_pastC hB);(replace HW:=Aside0.mk (below_from2 HW.out (Nat.le_refl _) hB));(have HC5:=Aside0.mk (Kd.R_reads' hR).2.2);(have cv1:=Kd.C_string (P:=Try.prog) (c:=c5) Try.underlying67 Try.underlying5 Try.underlying9 HC5.out);(have hrb:=HRB.out _ HW.out);clear hB hR hby))
    | ((have t_:=hrb);clear t_;rw [if_pos (by simp [Region.wanted])];go_simp;go_wp2_with (go_at_call 46;(with_reducible refine hrb.mono ?_);rintro e w6 ⟨A6,c6,rfl,hR,hB⟩;clear cv1;(replace HW:=Aside0.mk (below_from2 HW.out (Nat.le_refl _) hB));(have cv1:=Kd.C_string (P:=Try.prog) (c:=c5) Try.underlying67 Try.underlying5 Try.underlying9 (Kd.C_below HC5.out hB));(have cv2:=Kd.C_string (P:=Try.prog) (c:=c6) Try.underlying67 Try.underlying5 Try.underlying9 (Kd.R_reads' hR).2.2);(have hsp:=speaks10_ok w6);clear hB hR hrb))
    | ((have t_:=hsp);clear t_;rw [if_pos (by first|(go_simp;done)|(simp [Region.wanted,yielded,Act.put];done))];go_simp;go_wp2_with (go_at_call 37;(with_reducible refine hsp.mono ?_);rintro e w7 ⟨rfl,hB⟩;clear cv1 cv2;(replace HW:=Aside0.mk (below_from2 HW.out (Nat.le_refl _) hB));clear hB hsp)))
   all_goals
    go_wp2
    go_ret
    exact ⟨rfl,below_from2 HB.out (Nat.le_refl _) HW.out⟩
end Go.Proofs.Ytgjibcfkjaedfaa.Wal

namespace Go.Proofs.Ytgjibcfkjaedfaa.Pr
open Go.RowKit Go.Proofs.YtgjibcfkjaedfaaW.PrintWords Go.Proofs.YtgjibcfkjaedfaaW.PrintLast Go.Proofs.YtgjibcfkjaedfaaW.PrintMore
attribute [local go_sem] max2_int min2_int max_two min_two max_three min_three max_four min_four
set_option linter.unusedVariables false
set_option linter.unusedSimpArgs false
noncomputable def latticelaw10_WalSteps.f (a0:List S82):Option Bool:=@ite _ (∀ x ∈ a0,x.f2.f7.size≤140737488351232) (Classical.propDecidable _) (some true) none
theorem latticelaw10_WalSteps.calls (A0:Option Addr) (c0:Nat) (a0:List S82) (r:Bool) (w:World) (hr0:Kd.C k82 w A0 a0.length a0) (hc0:a0.length≤c0) (h:latticelaw10_WalSteps.f a0=some r) :
  Calls Try.prog 12 #[.slice A0 a0.length c0] w fun e w'=>e=.returned (.bool r)∧Below w.heap.size w w':=by
 unfold latticelaw10_WalSteps.f at h
 split at h
 ·rename_i hn
  injection h with h
  subst h
  exact Wal.walSteps_ok A0 c0 a0 w hr0 hn
 ·cases h
end Go.Proofs.Ytgjibcfkjaedfaa.Pr

namespace Go.Proofs.Ytgjibcfkjaedfaa.Open
open Go.RowKit Go.ChangeShapes Go.WideShapes Go.Proofs.YtgjibcfkjaedfaaW.PrintWords
abbrev reachN:Nat:=140737488351232
structure Opn (P:Program) (t:TypeId) {α:Type} (d:Kd α) (g:α→Prop) (m:α→Nat):Prop where
 sz:P.cellsOf t=d.sz
 out:∀ (H:Type) (enc:TypeId×Value→H) (W:World) (n:Nat) (cs:List Value) (x:DataW H×List MemPlace),DataW.trod enc P W 0 (fun _=>true) true n t cs=some x →
  (∀ q ∈ x.1.weights P t,q≤reachN)→∃ y:α,d.K W y cs∧g y∧m y≤Rows.uptoBulk x.1
section
variable {P:Program} {t e:TypeId}
theorem opn_int {k:IntKind} (ht:P.underlying t=some (.int k)) (hc:P.cellsOf t=1):Opn P t (Kd.int k) (fun y=>(Lit.int k y).wf=true) (fun _=>1) where
 sz:=hc
 out:=by
  intro H enc W n cs x h _
  obtain ⟨y,rfl,rfl,hw⟩:=DataW.trod_int ht h
  exact ⟨y,rfl,hw,Nat.le_refl _⟩
theorem opn_string (ht:P.underlying t=some .string) (hc:P.cellsOf t=1):Opn P t Kd.string (fun y=>y.size≤reachN) (fun y=>y.size+1) where
 sz:=hc
 out:=by
  intro H enc W n cs x h hq
  obtain ⟨y,rfl,rfl,hw⟩:=DataW.trod_string ht h
  have:=hq y.data.toList.length (by simp [DataW.weights])
  exact ⟨y,rfl,by simpa using this,by simp [Rows.uptoBulk]⟩
theorem list_of {α:Type} (p:Nat→α→Prop):∀ len,(∀ i,i < len→∃ y,p i y)→∃ ys:List α,ys.length=len∧∀ i y,ys[i]?=some y→p i y
 | 0,_=>⟨[],rfl,fun i y h=>by simp at h⟩
 | len+1,h=>by
  obtain ⟨ys,hl,hy⟩:=list_of p len (fun i hi=>h i (by omega))
  obtain ⟨y,hp⟩:=h len (by omega)
  refine ⟨ys++[y],by simp [hl],fun i z hz=>?_⟩
  by_cases hi:i < len
  ·rw [List.getElem?_append_left (by omega)] at hz
   exact hy i z hz
  ·by_cases he:i=len
   ·subst he
    rw [List.getElem?_append_right (by omega),hl] at hz
    simp at hz
    subst hz
    exact hp
   ·rw [List.getElem?_eq_none (by simp;omega)] at hz
    cases hz
theorem bulk_sum {H α:Type} (m:α→Nat):∀ (ys:List α) (es:List (DataW H)),ys.length=es.length→(∀ (i:Nat) (y:α) (x:DataW H),ys[i]?=some y→es[i]?=some x→m y≤Rows.uptoBulk x)→(ys.map m).sum≤Rows.uptoBulkAll es
 | [],[],_,_=>by simp
 | [],_::_,h,_=>by simp at h
 | _::_,[],h,_=>by simp at h
 | y::ys,x::es,h,hm=>by
  have ih:=bulk_sum m ys es (by simpa using h) (fun i a b ha hb=>hm (i+1) a b (by simpa using ha) (by simpa using hb))
  have h0:=hm 0 y x rfl rfl
  simp only [List.map_cons,List.sum_cons,Rows.uptoBulkAll]
  omega
theorem addr_add (a:Addr) (x y:Nat):(a.add x).add y=a.add (x+y):=by
 by_cases hx:x=0
 ·subst hx;simp [Addr.add]
 ·by_cases hy:y=0
  ·subst hy;simp [Addr.add]
  ·simp [Addr.add,hx,hy,Nat.add_assoc]
theorem weights_all {H:Type} {P:Program} {e:TypeId}:∀ (es:List (DataW H)) (x:DataW H),x ∈ es→∀ q ∈ x.weights P e,q ∈ DataW.weightsAll P e es
 | [],_,h=>by simp at h
 | y::r,x,h=>by
  intro q hq
  simp only [DataW.weightsAll,List.mem_append]
  rcases List.mem_cons.1 h with rfl|h
  ·exact .inl hq
  ·exact .inr (weights_all r x h q hq)
theorem opn_slice {α:Type} {d:Kd α} {g:α→Prop} {m:α→Nat} {B:Nat} (ht:P.underlying t=some (.slice e)) (hc:P.cellsOf t=1) (hB:P.bytesOf e=B) (he:Opn P e d g m) :
  Opn P t (Kd.slice e d) (fun xs=>xs.length≤maxLen∧xs.length*B≤reachN∧∀ y ∈ xs,g y) (fun xs=>(xs.map m).sum+1) where
 sz:=hc
 out:=by
  intro H enc W n cs x h hq
  rcases DataW.trod_slice ht h with ⟨rfl,rfl⟩|⟨a,len,cap,elems,rest,n,_,rfl,rfl,hb,hl,hm,hlen,hel,hsp,_⟩
  ·exact ⟨[],⟨none,0,rfl,Nat.le_refl _,Kd.C_nil d W⟩,⟨by simp,by simp,by simp⟩,by simp [Rows.uptoBulk]⟩
  ·have hw:∀ q ∈ DataW.weightsAll P e (elems.map (·.1)),q≤reachN:=fun q hq'=>hq q (by simp only [DataW.weights,ht];exact List.mem_cons_of_mem _ (List.mem_append_left _ hq'))
   have h0:=hq (((elems.map (·.1)).length+(rest.map (·.1)).length)*P.bytesOf e) (by simp only [DataW.weights,ht];exact List.mem_cons_self)
   have each:∀ i,i < len→∃ y:α,∃ c:List Value,∃ z:DataW H×List MemPlace,elems[i]?=some z∧d.K W y c∧g y∧m y≤Rows.uptoBulk z.1∧∀ j u,c[j]?=some u→W.cell? (a.add (i*d.sz+j))=some u:=by
    intro i hi
    have h1:=hel i hi
    rw [List.getElem?_eq_getElem (by omega)] at h1
    obtain ⟨c,hcs,hx⟩:=Option.bind_eq_some_iff.1 h1
    obtain ⟨_,hcl,hcell⟩:=World.cells?_some hcs
    obtain ⟨y,hy,hg,hbk⟩:=he.out H enc W n c _ hx (fun q hq'=>hw q (weights_all _ _ (List.mem_map_of_mem (List.getElem_mem (by omega))) q hq'))
    refine ⟨y,c,_,List.getElem?_eq_getElem (by omega),hy,hg,hbk,fun j u hu=>?_⟩
    have hj:j < P.cellsOf e:=by
     have:=(List.getElem?_eq_some_iff.1 hu).1
     omega
    have h2:=hcell j hj
    rw [hu,he.sz,addr_add] at h2
    exact h2
   obtain ⟨ys,hyl,hys⟩:=list_of _ len each
   have hyl2:ys.length=elems.length:=by omega
   refine ⟨ys,⟨some a,cap,by rw [hyl],by omega,?_⟩,⟨by omega,?_,?_⟩,?_⟩
   ·refine ⟨rfl,by unfold maxLen at hm;omega,fun _=>⟨a,rfl,fun j p hp=>?_⟩⟩
    obtain ⟨c,z,_,hK,_,_,hcell⟩:=hys j p hp
    exact ⟨c,d.K_len hK,hK,hcell⟩
   ·rw [hB] at h0
    simp only [List.length_map] at h0
    have:ys.length*B≤(elems.length+rest.length)*B:=Nat.mul_le_mul_right _ (by omega)
    omega
   ·intro y hy
    obtain ⟨j,hj,rfl⟩:=List.getElem_of_mem hy
    obtain ⟨c,z,_,_,hg,_⟩:=hys j _ (List.getElem?_eq_getElem hj)
    exact hg
   ·have:=bulk_sum m ys (elems.map (·.1)) (by simp [hyl2]) (fun i y z hy hz=>by
     obtain ⟨c,z',h2,_,_,h3,_⟩:=hys i y hy
     rw [List.getElem?_map,h2] at hz
     simp at hz
     subst hz
     exact h3)
    simp only [Rows.uptoBulk]
    omega
structure OpnF (P:Program) (fs:List Field) (o:Nat) {α:Type} (d:Kd α) (g:α→Prop) (m:α→Nat):Prop where
 out:∀ (H:Type) (enc:TypeId×Value→H) (W:World) (n:Nat) (cs:List Value) (xs:List (DataW H×List MemPlace)),cs.length=o+d.sz→xs.length=fs.length →
  (∀ (i:Nat) (f:Field),fs[i]?=some f→DataW.trod enc P W 0 (fun _=>true) true n f.type ((cs.drop f.offset).take (P.cellsOf f.type))=xs[i]?) →
  (∀ q ∈ DataW.weightsEach P (fs.map (·.type)) (xs.map (·.1)),q≤reachN)→∃ y:α,d.K W y (cs.drop o)∧g y∧m y≤Rows.uptoBulkAll (xs.map (·.1))
theorem opnF_last {α:Type} {f:Field} {o:Nat} {d:Kd α} {g:α→Prop} {m:α→Nat} (hf:f.offset=o) (h:Opn P f.type d g m):OpnF P [f] o d g m where
 out:=by
  intro H enc W n cs xs hcs hxs hel hq
  match xs,hxs with
  | [x],_ =>
   have h0:=hel 0 f rfl
   rw [hf,h.sz,List.take_of_length_le (by rw [List.length_drop];omega)] at h0
   obtain ⟨y,hy,hg,hb⟩:=h.out H enc W n _ x (by simpa using h0) (fun q hq'=>hq q (by simp [DataW.weightsEach];exact hq'))
   exact ⟨y,hy,hg,by simp [Rows.uptoBulkAll];exact hb⟩
theorem opnF_cons {α β:Type} {f:Field} {fs:List Field} {o:Nat} {a:Kd α} {b:Kd β} {g:α→Prop} {m:α→Nat} {g':β→Prop} {m':β→Nat} (hf:f.offset=o) (h:Opn P f.type a g m) (hr:OpnF P fs (o+a.sz) b g' m') :
  OpnF P (f::fs) o (Kd.pair a b) (fun y=>g y.1∧g' y.2) (fun y=>m y.1+m' y.2) where
 out:=by
  intro H enc W n cs xs hcs hxs hel hq
  match xs,hxs with
  | x::xs,hxs =>
   have hsz:(Kd.pair a b).sz=a.sz+b.sz:=rfl
   have h0:=hel 0 f rfl
   rw [hf,h.sz] at h0
   obtain ⟨y,hy,hg,hb⟩:=h.out H enc W n _ x (by simpa using h0) (fun q hq'=>hq q (by simp only [List.map_cons,DataW.weightsEach];exact List.mem_append_left _ hq'))
   obtain ⟨z,hz,hg',hb'⟩:=hr.out H enc W n cs xs (by omega) (by simpa using hxs) (fun i f' hf'=>by simpa using hel (i+1) f' (by simpa using hf')) (fun q hq'=>hq q (by simp only [List.map_cons,DataW.weightsEach];exact List.mem_append_right _ hq'))
   refine ⟨(y,z),⟨(cs.drop o).take a.sz,cs.drop (o+a.sz),?_,hy,hz⟩,⟨hg,hg'⟩,?_⟩
   ·rw [← List.drop_drop,List.take_append_drop]
   ·simp only [List.map_cons,Rows.uptoBulkAll]
    omega
theorem opn_struct {α β:Type} {fs:Array Field} {d:Kd α} {g:α→Prop} {m:α→Nat} (ht:P.underlying t=some (.struct fs)) (hc:P.cellsOf t=d.sz) (h:OpnF P fs.toList 0 d g m) (f:β→α) (inv:α→β) (hfi:∀ a,f (inv a)=a) :
  Opn P t (Kd.iso d f) (fun y=>g (f y)) (fun y=>m (f y)+1) where
 sz:=hc
 out:=by
  intro H enc W n cs x hx hq
  obtain ⟨xs,n,_,rfl,hl,hxs,hel⟩:=DataW.trod_struct ht hx
  obtain ⟨y,hy,hg,hb⟩:=h.out H enc W n cs xs (by omega) (by simpa using hxs) (fun i f' hf'=>hel i f' (by simpa using hf')) (fun q hq'=>hq q (by simp only [DataW.weights,ht];exact hq'))
  refine ⟨inv y,?_,?_,?_⟩
  ·show d.K W (f (inv y)) cs
   rw [hfi]
   simpa using hy
  ·rw [hfi];exact hg
  ·rw [hfi];simp only [Rows.uptoBulk];omega
end
theorem weights_at {H:Type} {P:Program} {ts:List TypeId} {ds:List (DataW H)} (h:(DataW.weightsEach P ts ds).all (·≤reachBytes)=true) {j:Nat} {t:TypeId} {d:DataW H} (ht:ts[j]?=some t) (hd:ds[j]?=some d):∀ q ∈ d.weights P t,q≤reachN:=by
 intro q hq
 have h1:=List.all_eq_true.1 h _ (DataW.weights_mem_each ht hd q hq)
 have h2:q≤reachBytes:=by simpa using h1
 exact h2
end Go.Proofs.Ytgjibcfkjaedfaa.Open

namespace Go.Proofs.Ytgjibcfkjaedfaa.Pr
open Go.RowKit
set_option linter.unusedVariables false
def good53 (y:S53):Prop:=(Lit.int .i64 y.f0).wf=true∧(Lit.int .i64 y.f1).wf=true∧(Lit.int .i64 y.f2).wf=true∧(Lit.int .i64 y.f3).wf=true∧(Lit.int .i64 y.f4).wf=true∧(Lit.int .i64 y.f5).wf=true∧y.f6.size≤140737488351232∧y.f7.size≤140737488351232
def bulk53 (y:S53):Nat:=(1+(1+(1+(1+(1+(1+((y.f6.size+1)+(y.f7.size+1))))))))+1
def good82 (y:S82):Prop:=(Lit.int .i64 y.f0).wf=true∧(Lit.int .i64 y.f1).wf=true∧good53 y.f2
def bulk82 (y:S82):Nat:=(1+(1+bulk53 y.f2))+1
end Go.Proofs.Ytgjibcfkjaedfaa.Pr

namespace Go.Proofs.Ytgjibcfkjaedfaa.Pr
open Go.RowKit Go.Proofs.YtgjibcfkjaedfaaW.PrintWords
theorem opn53:Open.Opn Try.prog 53 k53 good53 bulk53 :=
 Open.opn_struct Try.underlying53 (by kernel_rfl) (Open.opnF_cons rfl (Open.opn_int Try.underlying3 (by kernel_rfl)) (Open.opnF_cons rfl (Open.opn_int Try.underlying3 (by kernel_rfl)) (Open.opnF_cons rfl (Open.opn_int Try.underlying3 (by kernel_rfl)) (Open.opnF_cons rfl (Open.opn_int Try.underlying3 (by kernel_rfl)) (Open.opnF_cons rfl (Open.opn_int Try.underlying3 (by kernel_rfl)) (Open.opnF_cons rfl (Open.opn_int Try.underlying3 (by kernel_rfl)) (Open.opnF_cons rfl (Open.opn_string Try.underlying9 (by kernel_rfl)) (Open.opnF_last rfl (Open.opn_string Try.underlying9 (by kernel_rfl)))))))))) (fun x:S53=>(x.f0,x.f1,x.f2,x.f3,x.f4,x.f5,x.f6,x.f7)) (fun p=>⟨p.1,p.2.1,p.2.2.1,p.2.2.2.1,p.2.2.2.2.1,p.2.2.2.2.2.1,p.2.2.2.2.2.2.1,p.2.2.2.2.2.2.2⟩) (fun _=>rfl)
theorem opn82:Open.Opn Try.prog 82 k82 good82 bulk82 :=
 Open.opn_struct Try.underlying82 (by kernel_rfl) (Open.opnF_cons rfl (Open.opn_int Try.underlying3 (by kernel_rfl)) (Open.opnF_cons rfl (Open.opn_int Try.underlying3 (by kernel_rfl)) (Open.opnF_last rfl opn53))) (fun x:S82=>(x.f0,x.f1,x.f2)) (fun p=>⟨p.1,p.2.1,p.2.2⟩) (fun _=>rfl)
end Go.Proofs.Ytgjibcfkjaedfaa.Pr

namespace Go.Proofs.Ytgjibcfkjaedfaa.Pr
open Go.RowKit Go.Proofs.YtgjibcfkjaedfaaW.PrintWords Go.Proofs.YtgjibcfkjaedfaaW.PrintLast
set_option linter.unusedVariables false in
def latticelaw10_WalSteps.Stated:Prop:=∀ (a0:List (S82)),((a0.length≤maxLen∧a0.length*96≤140737488351232∧∀ e ∈ a0,good82 e))→latticelaw10_WalSteps.f a0=some true
end Go.Proofs.Ytgjibcfkjaedfaa.Pr

namespace Go.Proofs.Ytgjibcfkjaedfaa.Pure
open Go.RowKit Go.Proofs.Ytgjibcfkjaedfaa.Pr Go.Proofs.YtgjibcfkjaedfaaW.PrintWords Go.Proofs.YtgjibcfkjaedfaaW.PrintLast
theorem WalSteps:latticelaw10_WalSteps.Stated:=by
 intro a0 h0
 unfold latticelaw10_WalSteps.f
 rw [if_pos]
 intro x hx
 obtain ⟨_,_,_,_,_,_,_,_,_,hv⟩:=h0.2.2 x hx
 exact hv
end Go.Proofs.Ytgjibcfkjaedfaa.Pure

/- The law WalSteps returns true at every input, and each argument reads afterwards as it read before: Every log, step by step: LSNs, epochs, what is cut, what is flushed, its bytes.
   Conditions: none but those that the row itself prints. Written by a program of this session over the kit's printer. -/
namespace Go.Proofs.Ytgjibcfkjaedfaa.walSteps
open Go.ChangeShapes Go.WideShapes Go.ChangeAt Go.RowKit
open Go.ChangeMaps (open_string shut_string)
set_option linter.unusedVariables false
theorem own:ownKnob Try.prog.godebug=none:=by kernel_rfl
theorem laidOut:laidOutB Try.prog=true:=by kernel_rfl
set_option maxRecDepth 100000 in
theorem lifted (os:Os) (started:os.Started) (H:Type) (enc:TypeId×Value→H) :
  ReturnsInHanded {} Try.checked os 12 .any (Rows.walStepsSpec.pre6 enc Try.prog Try.f12 Rows.walStepsRow.domain false) (Rows.walStepsSpec.post enc Try.prog Try.f12 false true false false):=by
 refine returnsInHanded_of_change_sized (C:=Try.checked) own started (by kernel_rfl) Try.func12
  (ChangeSpec.witness6 (enc:=enc) (C:=Try.checked) false ⟨#[],#[.slice none 0 0],[]⟩ 8 (by kernel_rfl) (by kernel_rfl) (by kernel_rfl) (by kernel_rfl)) ?_
 intro W base args ds gs before hval0 hW hcnd hsz0 _
 have hsz:(DataW.weightsEach Try.prog (Try.f12.params.toList++Rows.walStepsSpec.plain.varTypes Try.prog) (ds++gs)).all (·≤reachBytes)=true:=hsz0
 have hval:∀ (j:Nat) t v,Try.f12.params[j]?=some t→args[j]?=some v→Value.okWide Try.prog W .any base t v:=hval0
 have hW':=hW
 obtain ⟨p,q,hA0,hV,rfl,hfz,hnd⟩:=hW
 have hA:DataW.TrodAll enc Try.prog W 0 (fun _=>true) true Try.f12.params.toList args.toList ds p:=hA0
 rw [Try.params12] at hA hval hsz
 obtain ⟨v0,vs0,d0,ds0,p0,q0,hargs,rfl,rfl,h0,r0⟩:=trodAll_cons hA
 obtain ⟨rfl,rfl,rfl⟩:=trodAll_nil r0
 obtain rfl:args=#[v0]:=by cases args;simp_all
 obtain ⟨rfl,rfl⟩:=trodVars_none hV
 have k0:=h0
 have lt0:∀ x ∈ p0,x.block < W.heap.size:=by obtain ⟨m,hm⟩:=k0;exact DataW.trod_lt m _ _ _ hm
 obtain ⟨n0,hf0⟩:=h0
 obtain ⟨y0,K0,g0,m0⟩:=(Open.opn_slice (B:=96) Try.underlying80 (by kernel_rfl) (by kernel_rfl) Pr.opn82).out H enc W n0 _ _ hf0 (Open.weights_at hsz (j:=0) (t:=80) rfl rfl)
 obtain ⟨a0,len0,cap0,rfl⟩:=okWide_slice Try.underlying80 (hval 0 80 v0 rfl rfl)
 obtain ⟨A0,c0,e0,hc0,hr0⟩:=K0
 simp only [Value.cells,List.cons.injEq,Value.slice.injEq,and_true] at e0
 obtain ⟨rfl,rfl,rfl⟩:=e0
 clear hA0 hval0 hsz0 hsz
 have hk:=Pure.WalSteps y0 g0
 refine (Pr.latticelaw10_WalSteps.calls _ _ y0 true W hr0 hc0 hk).mono fun e W' ⟨he,bel0⟩=>?_
 have bel:Below W.heap.size W W':=bel0
 subst he
 exact ⟨_,rfl,_,_,_,[],_,[],hW',trodAll_mk1 (shut_bool Try.underlying4 _),(trodAll_cons_mk (Below.trod laidOut (by kernel_rfl) (of_decide_eq_true (by kernel_rfl)) k0 bel lt0) trodAll_mk0),rfl,bel.frame _,fun h=>by cases h⟩
theorem over:Rows.walStepsRow.holds Try.pinned (OpenSpec.ofChange Rows.walStepsSpec) :=
 OpenClaim.holds_of_wide 12 Try.f12 rfl rfl rfl rfl rfl rfl rfl ⟨rfl,rfl,rfl,rfl,rfl⟩ rfl rfl rfl rfl rfl (by kernel_rfl) Try.func12 (by kernel_rfl)
  (of_decide_eq_true (by kernel_rfl)) (by unfold Func.isWrapper;first|(rw [if_pos (by decide +kernel)];kernel_rfl)|(rw [if_neg (by decide +kernel)];exact ⟨rfl,rfl⟩))
  (fun os started H enc _=>lifted os started H enc)
theorem proved:Rows.WalStepsSaid:=over
#print axioms proved
end Go.Proofs.Ytgjibcfkjaedfaa.walSteps
namespace Go.Proofs.Ytgjibcfkjaedfaa
theorem walSteps_holds:Rows.WalStepsSaid:=walSteps.proved
end Go.Proofs.Ytgjibcfkjaedfaa
