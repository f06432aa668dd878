-- Parts melded by a program of this session.
import Derived.Below
import Derived.Deep.Draws
import Derived.Deep.AppendLies
import Derived.Maps.AppendAt
import Derived.OwnWalk
import Derived.Laws.BytesArg
import Derived.Laws.MakeOwn
import Derived.Laws.OwnMore
import Derived.Deep.OwnRows
import Derived.Tactics
import Derived.Lib.ConvBytes
import Derived.Laws.Slices
import Derived.WalkKit
import Derived.KernelRfl
import Derived.RowKit3
import Derived.Deep.LoopGhost
import Derived.Deep.QuietTactic
import Derived.BigQuiet
import Derived.WideLaws
import Derived.Deep.DeepCutAuto
import Derived.Deep.CutBlock
import Derived.Deep.RegionHeld3
import Derived.Laws.Rows
import Derived.Lib.AppendStr
import Derived.ArgAppend
import Derived.Laws.IdiomCopy
import Derived.RowKit
import Derived.Test.YtgjibcfkjaedfaaTHWWords
import Derived.OrdersHeld
import Derived.Laws.BitsLemmas
import Derived.Test.YtgjibcfkjaedfaaTHWRest
import Derived.Laws.StructEq
import Derived.Test.YtgjibcfkjaedfaaProg
import Derived.Shelf.Abstract
import Derived.Test.YtgjibcfkjaedfaaTHPrx0
import Derived.Test.YtgjibcfkjaedfaaKStepS
import Derived.OneCell
import Derived.Lib.SliceRun
import Derived.Test.YtgjibcfkjaedfaaTHWire
import Derived.RangeFuncBox
import Derived.RangeFuncLeaves
import Derived.OwnWalkIn
import Derived.TacticsInMore
import Derived.LoopNIn
import Derived.LoopIn
import Derived.Lib.Hide
import Derived.Test.YtgjibcfkjaedfaaTHBack
import Derived.Outline
import Derived.Test.YtgjibcfkjaedfaaTHRead
import Derived.Test.YtgjibcfkjaedfaaTHNdFrom
import Derived.Laws.BitsAllLaws
import Derived.Test.YtgjibcfkjaedfaaTHCrc
import Derived.Test.YtgjibcfkjaedfaaTHPrx3
import Derived.Test.YtgjibcfkjaedfaaTHPrx4
import Derived.Test.YtgjibcfkjaedfaaTHPrx5
import Derived.Test.YtgjibcfkjaedfaaTHPrx1
import Derived.Test.YtgjibcfkjaedfaaTHRefW
import Derived.Test.YtgjibcfkjaedfaaTHPrxS
import Derived.Test.YtgjibcfkjaedfaaTHPrx15
import Derived.Test.YtgjibcfkjaedfaaTHPrx16
import Derived.Test.YtgjibcfkjaedfaaTHPureNode
import Derived.Deep.RegionLaw
import Derived.Laws.CopyOwn
import Derived.Test.YtgjibcfkjaedfaaTHPageEnc
import Derived.Test.YtgjibcfkjaedfaaTHPageFit
import Derived.Test.YtgjibcfkjaedfaaTHPageRd
import Derived.Test.YtgjibcfkjaedfaaTHPageNode
import Derived.Test.YtgjibcfkjaedfaaTHPageDec
import Derived.Test.YtgjibcfkjaedfaaTHCrcR
import Derived.Test.YtgjibcfkjaedfaaTHPageRt
import Derived.Test.YtgjibcfkjaedfaaTHPrx17
import Derived.Test.YtgjibcfkjaedfaaTHPagePure
import Derived.Test.YtgjibcfkjaedfaaTHRefRd
import Derived.Test.YtgjibcfkjaedfaaTHPageRef
import Derived.Test.YtgjibcfkjaedfaaTHRecIR
import Derived.Lib.SlBytesConst
import Derived.StillTailTactics
import Derived.Test.YtgjibcfkjaedfaaTHRecV
import Derived.Test.YtgjibcfkjaedfaaTHRecChkP
import Derived.Test.YtgjibcfkjaedfaaTHRecChkA
import Derived.Test.YtgjibcfkjaedfaaTHRecChkB
import Derived.Test.YtgjibcfkjaedfaaTHRecChkE
import Derived.Test.YtgjibcfkjaedfaaTHRecChk
import Derived.Test.YtgjibcfkjaedfaaTHRecEnc
import Derived.Test.YtgjibcfkjaedfaaTHRecRead
import Derived.Test.YtgjibcfkjaedfaaTHRecDec
import Derived.Test.YtgjibcfkjaedfaaTHRecRight
import Derived.Test.YtgjibcfkjaedfaaTHRecRefDec
import Derived.Test.YtgjibcfkjaedfaaTHRecLaw
import Derived.Test.YtgjibcfkjaedfaaTHRecK
import Derived.Test.YtgjibcfkjaedfaaTHPrx19
import Derived.Test.YtgjibcfkjaedfaaTHPrx26
import Derived.Test.YtgjibcfkjaedfaaTHRecEncs
import Derived.Test.YtgjibcfkjaedfaaKWA
import Derived.Test.YtgjibcfkjaedfaaKWB
import Derived.WalkMore
import Derived.Test.YtgjibcfkjaedfaaKRA
import Derived.Test.YtgjibcfkjaedfaaKWS
import Derived.Test.YtgjibcfkjaedfaaRows
import Derived.OpenShut
import Derived.SizedLaws
import Derived.ChangeArms
import Derived.ChangeOld
import Derived.DataReads
import Derived.ProofKit
import Derived.ShutString
import Derived.Carry
set_option linter.unusedVariables false
set_option linter.unusedSimpArgs false
namespace Go.Proofs.YtgjibcfkjaedfaaW.PrintWords
open Go.RowKit
theorem LeO.ite {α:Type} {c:Prop} [Decidable c] {a a' b b':Option α} (h:LeO a a') (k:LeO b b'):LeO (if c then a else b) (if c then a' else b'):=by
  split
  · exact h
  · exact k
section
variable {P:Program} {ops:Array Oper} {rest:List Oper} {o:Oper} {a:Act} {Q:Exit→Act→World→Prop}
end
section
variable {P:Program} {ops:Array Oper} {o:Oper} {a:Act} {Q:Exit→Act→World→Prop} {K:Act→World→Prop}
end
section
variable {α:Type} {enc:α→Value} {d:α}
end
section
variable {α:Type} {P:Program} {ops:Array Oper} {rest:List Oper} {o:Oper} {a:Act} {Q:Exit→Act→World→Prop}
end
section
variable {P:Program}
end
section
variable {α:Type} {R R':α→List Value→Prop} {e:TypeId} {size:Nat} {w w1:World} {base:Nat} {v:Value} {ps:List α}
end
section
variable {P:Program} {ops:Array Oper} {rest:List Oper} {o:Oper} {a:Act} {Q:Exit→Act→World→Prop} {α:Type} {R:α→List Value→Prop}
end
namespace Kd
section
variable {α:Type} {d:Kd α} {e:Nat} {w w1:World} {base:Nat} {ok ok':Nat→Prop} {v:Value} {xs:List α}
end
section
variable {P:Program} {ops:Array Oper} {rest:List Oper} {o:Oper} {a:Act} {Q:Exit→Act→World→Prop} {α:Type}
end
section
variable {P:Program} {ops:Array Oper} {o:Oper} {a:Act} {Q:Exit→Act→World→Prop} {Kc:Act→World→Prop} {α:Type}
end
end Kd
namespace Kd
end Kd
namespace Kd
section
variable {α β:Type} {d:Kd α} {d':Kd β} {e e':Nat} {w w1 W:World} {base b b':Nat} {ok ok' okv oku:Nat→Prop} {v u:Value} {xs:List α} {ys:List β}
end
section
variable {w W:World} {A:Option Addr} {n:Nat}
end
section
variable {P:Program} {ops:Array Oper} {rest:List Oper} {o:Oper} {a:Act} {Q:Exit→Act→World→Prop}
end
end Kd
section
variable {P:Program}
end
section
variable {w w1:World} {base n size:Nat} {e:TypeId} {v:Value} {xs:List Value}
end
namespace Kd
section
variable {α:Type} {d:Kd α} {e:Nat} {w w1 W:World} {base:Nat} {ok ok':Nat→Prop} {v:Value} {xs:List α}
end
end Kd
namespace Kd
section
variable {α:Type} {d:Kd α} {e e':Nat} {w w1 W:World} {base:Nat} {ok:Nat→Prop} {u v:Value} {xs:List α}
end
end Kd
namespace Kd
section
variable {P:Program} {ops:Array Oper} {rest:List Oper} {o:Oper} {a:Act} {Q:Exit→Act→World→Prop} {α:Type}
end
end Kd
namespace Kd
section
variable {α:Type} {k:Kd α} {w:World} {A:Option Addr} {xs:List α} {m c:Nat}
end
end Kd
section
variable {P:Program}
end
section
variable {P:Program} {ops:Array Oper} {rest:List Oper} {o:Oper} {a:Act} {Q:Exit→Act→World→Prop}
end
section
variable {P:Program} {ops:Array Oper} {rest:List Oper} {o:Oper} {a:Act} {Q:Exit→Act→World→Prop} {W:World}
end
end Go.Proofs.YtgjibcfkjaedfaaW.PrintWords

namespace Go.Proofs.YtgjibcfkjaedfaaW.PrintWords
open Go.RowKit
namespace Foot
variable {P Q:World→Prop} {W W1:World} {ok ok':Nat→Prop}
theorem bound (h:Foot P W ok):Foot P W (fun k=>ok k∧k < W.heap.size):=fun W' hW=>h W' (fun k hk hlt=>hW k ⟨hk,hlt⟩ hlt)
end Foot
namespace Kd
section
variable {α β:Type} {d:Kd α} {e base n n' cc g N:Nat} {ok ok' okp S:Nat→Prop} {w w0 w1 W W1:World} {A A':Option Addr} {u v v1:Value} {xs:List α} {xs':List β} {d':Kd β} {x:α} {c:List Value}
end
end Kd
end Go.Proofs.YtgjibcfkjaedfaaW.PrintWords

namespace Go.Proofs.Ytgjibcfkjaedfaa.Wal
open Go.RowKit Go.Proofs.YtgjibcfkjaedfaaW.PrintWords Go.Proofs.YtgjibcfkjaedfaaW.PrintLast Go.Proofs.YtgjibcfkjaedfaaW.PrintMore Go.Proofs.Ytgjibcfkjaedfaa.Wire Go.Proofs.Ytgjibcfkjaedfaa.Pr Go.Proofs.Ytgjibcfkjaedfaa.Rec
open Go.Proofs.Ytgjibcfkjaedfaa.Back (AllB)
set_option linter.unusedVariables false
set_option linter.unusedSimpArgs false
theorem rd_snoc_lt {l:List RecS} {r:RecS} {k:Nat} (h:k < l.length):rd_T53 (l++[r]) (k:Int)=rd_T53 l (k:Int):=by
 unfold rd_T53
 rw [Int.toNat_natCast,List.getD_eq_getElem?_getD,List.getD_eq_getElem?_getD,List.getElem?_append_left h]
theorem rd_snoc_eq {l:List RecS} {r:RecS}:rd_T53 (l++[r]) (l.length:Int)=r:=by
 unfold rd_T53
 rw [Int.toNat_natCast,List.getD_eq_getElem?_getD,List.getElem?_append_right (Nat.le_refl _),Nat.sub_self]
 rfl
theorem LsnOk.snoc {l:List RecS} {r:RecS} (h:LsnOk l) (hr:r.f0=(l.length:Int)+1):LsnOk (l++[r]):=by
 intro k hk
 rw [List.length_append,List.length_singleton] at hk
 by_cases hlt:k < l.length
 ·rw [rd_snoc_lt hlt];exact h k hlt
 ·obtain rfl:k=l.length:=by omega
  rw [rd_snoc_eq];exact hr
theorem Reads.lsn {xs:List Int} {l:List RecS} {u:Nat} (h:Reads xs l u):LsnOk l:=by
 induction h with
 | nil=>intro k hk;simp at hk
 | snoc h hd h1 h2 h3 ih=>exact ih.snoc h1
theorem fromF_all {l:List RecS} {lsn:Int} (h:l.length≤65536) (hl:lsn≤1):fromF l lsn 100000=l:=by
 unfold fromF
 have hm:max lsn 1=1:=by omega
 rw [hm]
 by_cases hz:(l.length:Int) < 1
 ·have:l=[]:=List.length_eq_zero_iff.1 (by omega)
  subst this
  rw [if_pos (.inl (by decide))]
 ·rw [if_neg (by omega),show (min 100000 ((l.length:Int) - 1+1)).toNat=l.length by omega]
  show (l.drop 0).take l.length=l
  rw [List.drop_zero,List.take_length]
end Go.Proofs.Ytgjibcfkjaedfaa.Wal

namespace Go.Proofs.Ytgjibcfkjaedfaa.Wal
open Go.RowKit Go.Proofs.YtgjibcfkjaedfaaW.PrintWords Go.Proofs.YtgjibcfkjaedfaaW.PrintLast Go.Proofs.YtgjibcfkjaedfaaW.PrintMore Go.Proofs.Ytgjibcfkjaedfaa.Wire Go.Proofs.Ytgjibcfkjaedfaa.Pr Go.Proofs.Ytgjibcfkjaedfaa.Rec
open Go.Proofs.Ytgjibcfkjaedfaa.Back (AllB)
set_option linter.unusedVariables false
set_option linter.unusedSimpArgs false
def StAt (w:World) (b:Nat) (kd sn a0 a1 a2 a3 a4 a5:Int) (a6 a7:ByteArray):Prop:=w.heap[b]?=some (.cells #[.int .i64 kd,.int .i64 sn,.int .i64 a0,.int .i64 a1,.int .i64 a2,.int .i64 a3,.int .i64 a4,.int .i64 a5,.string a6,.string a7] 82 (0,0))
section
variable {w w1:World} {b:Nat} {kd sn a0 a1 a2 a3 a4 a5:Int} {a6 a7:ByteArray} {S:Nat→Prop}
theorem StAt.cells (h:StAt w b kd sn a0 a1 a2 a3 a4 a5 a6 a7):w.cell? ⟨b,0,none⟩=some (.int .i64 kd)∧w.cell? ⟨b,1,none⟩=some (.int .i64 sn)∧w.cell? ⟨b,2,none⟩=some (.int .i64 a0)∧w.cell? ⟨b,3,none⟩=some (.int .i64 a1)∧w.cell? ⟨b,4,none⟩=some (.int .i64 a2)∧w.cell? ⟨b,5,none⟩=some (.int .i64 a3)∧w.cell? ⟨b,6,none⟩=some (.int .i64 a4)∧w.cell? ⟨b,7,none⟩=some (.int .i64 a5)∧w.cell? ⟨b,8,none⟩=some (.string a6)∧w.cell? ⟨b,9,none⟩=some (.string a7):=by
 unfold StAt at h
 simp [World.cell?,h]
theorem StAt.chg (h:StAt w b kd sn a0 a1 a2 a3 a4 a5 a6 a7) (hc:Chg w w1 S) (hn:¬ S b):StAt w1 b kd sn a0 a1 a2 a3 a4 a5 a6 a7:=hc.blk h hn
theorem StAt.below (h:StAt w b kd sn a0 a1 a2 a3 a4 a5 a6 a7) (hB:Below w.heap.size w w1):StAt w1 b kd sn a0 a1 a2 a3 a4 a5 a6 a7:=h.chg (Chg.of_below hB (fun _=>False)) (fun h=>h)
theorem StAt.num (h:StAt w b kd sn a0 a1 a2 a3 a4 a5 a6 a7):w.cell? ⟨b,1,none⟩=some (.int .i64 sn):=h.cells.2.1
end
structure LogOk (l:List RecS):Prop where
 len:l.length≤65536
 lsn:LsnOk l
 right:allR l
theorem LogOk.size {l:List RecS} (h:LogOk l):∀ x ∈ l,x.f7.size≤140737488351232:=fun x hx=>by
 have:=(fits_of (h.right x hx)).1.h8
 show (toV x).2.2.2.2.2.2.2.size≤140737488351232
 omega
theorem LogOk.nil:LogOk []:=⟨by simp,fun k hk=>by simp at hk,fun x hx=>by simp at hx⟩
theorem LogOk.app {l:List RecS} (h:LogOk l) (r:RecS):LogOk (appF l r).1:=by
 unfold appF
 by_cases hr:rightV (toV (withLsn r ((l.length:Int)+1)))=true
 ·rw [if_pos hr]
  by_cases he:r.f1 < lastE l
  ·rw [if_pos he];exact h
  ·rw [if_neg he]
   by_cases hf:l.length=65536
   ·rw [if_pos hf];exact h
   ·rw [if_neg hf]
    refine ⟨?_,h.lsn.snoc rfl,allR_snoc h.right hr⟩
    rw [List.length_append,List.length_singleton]
    have:=h.len
    omega
 ·rw [if_neg hr];exact h
theorem rd_take {l:List RecS} {m k:Nat} (h:k < m) (hm:m≤l.length):rd_T53 (l.take m) (k:Int)=rd_T53 l (k:Int):=by
 unfold rd_T53
 rw [Int.toNat_natCast,List.getD_eq_getElem?_getD,List.getD_eq_getElem?_getD,List.getElem?_take_of_lt h]
theorem LogOk.cut {l:List RecS} (h:LogOk l) (fl n:Int):LogOk (cutF l fl n).1:=by
 unfold cutF
 by_cases hb:withinB l.length n=true
 ·rw [if_pos hb]
  have h1:=withinB_iff.1 hb
  have hl:(l.take n.toNat).length=n.toNat:=by rw [List.length_take];omega
  refine ⟨by have:=h.len;rw [hl];omega,?_,fun x hx=>h.right x (List.mem_of_mem_take hx)⟩
  intro k hk
  rw [hl] at hk
  rw [rd_take hk (by omega)]
  exact h.lsn k (by omega)
 ·rw [if_neg hb];exact h
def Two (base:Nat) (W:World) (g g':Nat) (l:List RecS) (fl:Int):Prop :=
 ∃ ok ok':Nat→Prop,LogAt 98 W ok g l fl∧LogAt 37 W ok' g' l fl∧(∀ k,ok k→ok' k→False)∧(∀ k,ok k→base≤k)∧(∀ k,ok' k→base≤k)
theorem Two.below {base:Nat} {W W1:World} {g g':Nat} {l:List RecS} {fl:Int} (h:Two base W g g' l fl) (hB:Below W.heap.size W W1):Two base W1 g g' l fl:=by
 obtain ⟨ok,ok',h1,h2,h3,h4,h5⟩:=h
 exact ⟨ok,ok',h1.below hB,h2.below hB,h3,h4,h5⟩
end Go.Proofs.Ytgjibcfkjaedfaa.Wal

namespace Go.Proofs.Ytgjibcfkjaedfaa.Wal
open Go.RowKit Go.Proofs.YtgjibcfkjaedfaaW.PrintWords Go.Proofs.YtgjibcfkjaedfaaW.PrintLast Go.Proofs.YtgjibcfkjaedfaaW.PrintMore Go.Proofs.Ytgjibcfkjaedfaa.Wire Go.Proofs.Ytgjibcfkjaedfaa.Pr Go.Proofs.Ytgjibcfkjaedfaa.Rec
open Go.Proofs.Ytgjibcfkjaedfaa.Back (AllB)
set_option linter.unusedVariables false
set_option linter.unusedSimpArgs false
def wasF (l:List RecS) (k:Nat):Int:=if k=0 then 0 else (rd_T53 l ((k:Int) - 1)).f1
def EpOk (l:List RecS):Prop:=∀ k:Nat,k < l.length→wasF l k≤(rd_T53 l (k:Int)).f1
theorem wasF_last (l:List RecS):wasF l l.length=lastE l:=rfl
theorem wasF_succ (l:List RecS) (k:Nat):wasF l (k+1)=(rd_T53 l (k:Int)).f1:=by
 unfold wasF
 rw [if_neg (by omega),show ((k+1:Nat):Int) - 1=(k:Int) by omega]
theorem wasF_snoc {l:List RecS} {r:RecS} {k:Nat} (h:k≤l.length):wasF (l++[r]) k=wasF l k:=by
 cases k with
 | zero=>rfl
 | succ k=>rw [wasF_succ,wasF_succ,rd_snoc_lt (by omega)]
theorem wasF_take {l:List RecS} {m k:Nat} (h:k≤m) (hm:m≤l.length):wasF (l.take m) k=wasF l k:=by
 cases k with
 | zero=>rfl
 | succ k=>rw [wasF_succ,wasF_succ,rd_take (by omega) hm]
theorem EpOk.app {l:List RecS} (h:EpOk l) (r:RecS):EpOk (appF l r).1:=by
 unfold appF
 by_cases hr:rightV (toV (withLsn r ((l.length:Int)+1)))=true
 ·rw [if_pos hr]
  by_cases he:r.f1 < lastE l
  ·rw [if_pos he];exact h
  ·rw [if_neg he]
   by_cases hf:l.length=65536
   ·rw [if_pos hf];exact h
   ·rw [if_neg hf]
    intro k hk
    rw [List.length_append,List.length_singleton] at hk
    show wasF (l++[withLsn r ((l.length:Int)+1)]) k≤(rd_T53 (l++[withLsn r ((l.length:Int)+1)]) (k:Int)).f1
    rw [wasF_snoc (by omega)]
    by_cases hlt:k < l.length
    ·rw [rd_snoc_lt hlt];exact h k hlt
    ·obtain rfl:k=l.length:=by omega
     rw [rd_snoc_eq,wasF_last]
     show lastE l≤r.f1
     omega
 ·rw [if_neg hr];exact h
theorem EpOk.cut {l:List RecS} (h:EpOk l) (fl n:Int):EpOk (cutF l fl n).1:=by
 unfold cutF
 by_cases hb:withinB l.length n=true
 ·rw [if_pos hb]
  have h1:=withinB_iff.1 hb
  have hl:(l.take n.toNat).length=n.toNat:=by rw [List.length_take];omega
  intro k hk
  rw [hl] at hk
  show wasF (l.take n.toNat) k≤(rd_T53 (l.take n.toNat) (k:Int)).f1
  rw [wasF_take (by omega) (by omega),rd_take hk (by omega)]
  exact h k (by omega)
 ·rw [if_neg hb];exact h
theorem cutF_len {l l1:List RecS} {fl fl1 n:Int} (h:cutF l fl n=(l1,fl1,0)):(l1.length:Int)=n∧fl1≤n:=by
 unfold cutF at h
 by_cases hb:withinB l.length n=true
 ·rw [if_pos hb] at h
  have h1:=withinB_iff.1 hb
  have e1:=congrArg Prod.fst h
  have e2:=congrArg (fun p=>p.2.1) h
  dsimp only at e1 e2
  rw [← e1,← e2,List.length_take]
  omega
 ·rw [if_neg hb] at h
  have e2:=congrArg (fun p=>p.2.2) h
  dsimp only at e2
  omega
theorem cutF_err (l:List RecS) (fl n:Int):(cutF l fl n).2.2=0∨(cutF l fl n).2.2=1:=by
 unfold cutF
 split
 ·exact .inl rfl
 ·exact .inr rfl
theorem appF_cases (l:List RecS) (r:RecS):(∃ q:Int,q≠0∧appF l r=(l,0,q))∨(appF l r=(l++[withLsn r ((l.length:Int)+1)],(l.length:Int)+1,0)∧lastE l≤r.f1∧rightV (toV (withLsn r ((l.length:Int)+1)))=true):=by
 unfold appF
 by_cases hr:rightV (toV (withLsn r ((l.length:Int)+1)))=true
 ·rw [if_pos hr]
  by_cases he:r.f1 < lastE l
  ·rw [if_pos he];exact .inl ⟨100,by omega,rfl⟩
  ·rw [if_neg he]
   by_cases hf:l.length=65536
   ·rw [if_pos hf];exact .inl ⟨5,by omega,rfl⟩
   ·rw [if_neg hf];exact .inr ⟨rfl,by omega,hr⟩
 ·rw [if_neg hr];exact .inl ⟨90,by omega,rfl⟩
theorem StAt.free2 {w:World} {b:Nat} {kd sn a0 a1 a2 a3 a4 a5:Int} {a6 a7:ByteArray} (h:StAt w b kd sn a0 a1 a2 a3 a4 a5 a6 a7):w.frozen? ⟨b,2,none⟩=false:=blk_frozen h 2
theorem StAt.set2 {w:World} {b:Nat} {kd sn a0 a1 a2 a3 a4 a5:Int} {a6 a7:ByteArray} (h:StAt w b kd sn a0 a1 a2 a3 a4 a5 a6 a7) (y:Int):StAt (w.setCell ⟨b,2,none⟩ (.int .i64 y)) b kd sn y a1 a2 a3 a4 a5 a6 a7:=blk_set h 2 _
def GrowIn (w:World) (n g:Nat) (v20:Value) (wr:World):Prop :=
 ∃ (k:Nat) (l:List RecS) (fl:Int) (ok:Nat→Prop),k≤n∧v20=.int .i64 k∧Aside0 (LogAt 98 wr ok g l fl∧∀ k,ok k→w.heap.size≤k)∧Aside0 (LogOk l∧EpOk l)∧Aside0 (Below w.heap.size w wr)
def GrowRd (W:World) (l:List RecS) (v12 v96:Value) (wr:World):Prop :=
 ∃ k:Nat,k≤l.length∧v96=.int .i64 k∧v12=.int .i64 (wasF l k)∧Aside0 (Below W.heap.size W wr)
set_option maxHeartbeats 16000000 in
set_option maxRecDepth 100000 in
theorem walGrows_ok (A:Option Addr) (c:Nat) (xs:List S82) (w:World) (hr:Kd.C k82 w A xs.length xs) (hv:∀ x ∈ xs,x.f2.f7.size≤140737488351232) :
  Calls Try.prog 11 #[.slice A xs.length c] w fun e w'=>e=.returned (.bool true)∧Below w.heap.size w w':=by
 have hnew:=new_ok w
 have HX:=Aside0.mk hr
 have HV:=Aside0.mk hv
 have hna:xs.length≤9223372036854775807:=hr.2.1
 clear hr hv
 go_enter Try.func11,Try.ntmps11
 go_wp2_with (go_at_call 20;(with_reducible refine hnew.mono ?_);rintro e w1 ⟨rfl,hL,hB⟩;(have HL:=Aside0.mk hL);(have HB:=Aside0.mk hB);clear hL hB hnew)
 go_loopw [20] (fun v20 wr=>GrowIn w xs.length w.heap.size v20 wr) (fun v20 _=>xs.length - (intOf v20).toNat)
 case atStart=>exact ⟨0,[],0,_,by omega,rfl,⟨HL.out,fun k h=>h⟩,⟨LogOk.nil,fun k hk=>by simp at hk⟩,HB⟩
 case round =>
  clear HL HB
  obtain ⟨k,l,fl,ok0,hk,rfl,HLG,HLO,HB⟩:=hrel
  by_cases hlt:k < xs.length
  ·have hltI:(k:Int) < (xs.length:Int):=by omega
   have hk0:(0:Int)≤(k:Int):=by omega
   obtain ⟨ad,rfl,hx0,hx1,hx2,hx3,hx4,hx5,hx6,hx7,hx8,hx9⟩:=at_T82 (Kd.C_below HX.out HB.out) (k:Int) hk0 hltI
   rw [Int.toNat_natCast] at hx0 hx1 hx2 hx3 hx4 hx5 hx6 hx7 hx8 hx9
   have hsz:(rd_T82 xs (k:Int)).f2.f7.size≤140737488351232:=by
    refine HV.out _ ?_
    unfold rd_T82
    rw [Int.toNat_natCast,List.getD_eq_getElem?_getD,List.getElem?_eq_getElem hlt]
    exact List.getElem_mem _
   generalize rd_T82 xs (k:Int)=x at hx0 hx1 hx2 hx3 hx4 hx5 hx6 hx7 hx8 hx9 hsz
   obtain ⟨kd,sn,⟨a0,a1,a2,a3,a4,a5,a6,a7⟩⟩:=x
   dsimp only at hx0 hx1 hx2 hx3 hx4 hx5 hx6 hx7 hx8 hx9 hsz
   have HSZ:=Aside0.mk hsz
   have HBA:=Aside0.mk (below_alloc (Below.refl wr.heap.size wr) (.cells #[.int .i64 kd,.int .i64 sn,.int .i64 a0,.int .i64 a1,.int .i64 a2,.int .i64 a3,.int .i64 a4,.int .i64 a5,.string a6,.string a7] 82))
   obtain ⟨ok,hok⟩:∃ ok:Nat→Prop,∀ k,ok k↔(ok0 k∧k < wr.heap.size):=⟨_,fun _=>Iff.rfl⟩
   have HLB:=Aside0.mk ((HLG.out.1.bound.mono (fun k h=>(hok k).2 h)).below HBA.out)
   have HBO:Aside0 (∀ k,ok k→w.heap.size≤k∧k < wr.heap.size):=⟨fun k h=>⟨HLG.out.2 k ((hok k).1 h).1,((hok k).1 h).2⟩⟩
   have HBX:Aside0 (StAt (wr.alloc (.cells #[.int .i64 kd,.int .i64 sn,.int .i64 a0,.int .i64 a1,.int .i64 a2,.int .i64 a3,.int .i64 a4,.int .i64 a5,.string a6,.string a7] 82)) wr.heap.size kd sn a0 a1 a2 a3 a4 a5 a6 a7):=⟨blk_newN _ _⟩
   have HBR:=Aside0.mk (below_from2 HB.out (Nat.le_refl _) HBA.out)
   have HW0:=Aside0.mk HB.out.size
   have HSW:Aside0 (wr.heap.size < (wr.alloc (.cells #[.int .i64 kd,.int .i64 sn,.int .i64 a0,.int .i64 a1,.int .i64 a2,.int .i64 a3,.int .i64 a4,.int .i64 a5,.string a6,.string a7] 82)).heap.size):=⟨by rw [alloc_size];omega⟩
   clear hok
   have hla:=last_okB HLB.out (by have:=HLO.out.1.len;omega)
   have hln:(l.length:Int)≤65536:=by have:=HLO.out.1.len;omega
   have hl0:(0:Int)≤(l.length:Int):=by omega
   have hw1:IntKind.i64.wrap ((l.length:Int)+1)=(l.length:Int)+1:=by rw [IntKind.wrap_i64];omega
   clear hsz HLG HBA HB
   obtain ⟨b0,b1,b2,b3,b4,b5,b6,b7,b8,b9⟩:=HBX.out.cells
   have ltb:=blk_lt HBX.out
   have fz:=HBX.out.free2
   by_cases h2:kd=2
   ·have d2:(kd==2)=true:=by simp [h2]
    obtain ⟨⟨l1,fl1,q1⟩,hP⟩:∃ P,cutF l fl sn=P:=⟨_,rfl⟩
    have HCT:=Aside0.mk (fun (W:World) (h:LogAt 98 W ok w.heap.size l fl)=>cut_ok h (show l.length≤1759218604441 by have:=HLO.out.1.len;omega) sn)
    have hok1:=HLO.out.1.cut fl sn
    have hep1:=HLO.out.2.cut fl sn
    have hq:=cutF_err l fl sn
    rw [hP] at HCT hok1 hep1 hq
    dsimp only at HCT hok1 hep1 hq
    have HO1:=Aside0.mk (And.intro hok1 hep1)
    clear h2 hok1 hep1
    rcases hq with rfl|rfl
    ·obtain ⟨hcl,hcf⟩:=cutF_len hP
     have d3:(sn != sn)=false:=by simp
     have d4:decide (fl1 > sn)=false:=decide_eq_false (by omega)
     have HCL:=Aside0.mk hcl
     clear hP hcl hcf
     go_wp2_with (first
      | (go_at_call 21;(with_reducible refine hla.mono ?_);rintro e w2 ⟨rfl,hB⟩;(replace HBX:=Aside0.mk (HBX.out.below hB));(replace HLB:=Aside0.mk (HLB.out.below hB));(have HB2:=Aside0.mk (Nat.lt_of_lt_of_le HSW.out hB.size));(have HBR0:=HBR);(replace HBR:=Aside0.mk (below_from2 HBR.out (Nat.le_refl _) hB));clear b0 b1 b2 b3 b4 b5 b6 b7 b8 b9 ltb fz;obtain ⟨b0,b1,b2,b3,b4,b5,b6,b7,b8,b9⟩:=HBX.out.cells;(have ltb:=blk_lt HBX.out);(have fz:=HBX.out.free2);(have hct:=HCT.out _ HLB.out);clear hB hla)
      | (go_at_call 40;(with_reducible refine hct.mono ?_);rintro e w3 ⟨rfl,hL,hC⟩;(replace HBX:=Aside0.mk (HBX.out.chg hC (fun h=>by have:=(HBO.out _ h).2;omega)));(replace HBR:=Aside0.mk (HBR.out.trans (hC.below HBR.out.size (fun k h=>(HBO.out k h).1))));(have HL1:Aside0 (LogAt 98 w3 (fun k=>w.heap.size≤k) w.heap.size l1 fl1):=⟨hL.mono (fun k hk=>hk.elim (fun h=>(HBO.out k h).1) (fun h=>Nat.le_trans (Nat.le_trans HW0.out (Nat.le_of_lt HB2.out)) h))⟩);clear b0 b1 b2 b3 b4 b5 b6 b7 b8 b9 ltb fz;obtain ⟨b0,b1,b2,b3,b4,b5,b6,b7,b8,b9⟩:=HBX.out.cells;(have ltb:=blk_lt HBX.out);(have fz:=HBX.out.free2);(have hl2:=last_okB HL1.out (by have:=HO1.out.1.len;omega));rw [HCL.out] at hl2;clear hL hC hct)
      | (go_at_call 21;(with_reducible refine hl2.mono ?_);rintro e w4 ⟨rfl,hB⟩;(replace HBX:=Aside0.mk (HBX.out.below hB));(replace HL1:=Aside0.mk (HL1.out.below hB));(replace HBR:=Aside0.mk (below_from2 HBR.out (Nat.le_refl _) hB));clear b0 b1 b2 b3 b4 b5 b6 b7 b8 b9 ltb fz;obtain ⟨b0,b1,b2,b3,b4,b5,b6,b7,b8,b9⟩:=HBX.out.cells;(have ltb:=blk_lt HBX.out);(have fz:=HBX.out.free2);(have hfl:=flushed_ok HL1.out);clear hB hl2)
      | (go_at_call 36;(with_reducible refine hfl.mono ?_);rintro e w5 ⟨rfl,hB⟩;(replace HL1:=Aside0.mk (HL1.out.below hB));(replace HBR:=Aside0.mk (below_from2 HBR.out (Nat.le_refl _) hB));clear hB hfl))
     go_roundw
     case rel=>exact ⟨k+1,l1,fl1,_,by omega,by go_num,⟨HL1.out,fun k h=>h⟩,HO1,HBR⟩
     case measure=>simp [intOf];omega
    ·clear hP
     go_wp2_with (first
      | (go_at_call 21;(with_reducible refine hla.mono ?_);rintro e w2 ⟨rfl,hB⟩;(replace HBX:=Aside0.mk (HBX.out.below hB));(replace HLB:=Aside0.mk (HLB.out.below hB));(have HB2:=Aside0.mk (Nat.lt_of_lt_of_le HSW.out hB.size));(have HBR0:=HBR);(replace HBR:=Aside0.mk (below_from2 HBR.out (Nat.le_refl _) hB));clear b0 b1 b2 b3 b4 b5 b6 b7 b8 b9 ltb fz;obtain ⟨b0,b1,b2,b3,b4,b5,b6,b7,b8,b9⟩:=HBX.out.cells;(have ltb:=blk_lt HBX.out);(have fz:=HBX.out.free2);(have hct:=HCT.out _ HLB.out);clear hB hla)
      | (go_at_call 40;(with_reducible refine hct.mono ?_);rintro e w3 ⟨rfl,hL,hC⟩;(replace HBR:=Aside0.mk (HBR.out.trans (hC.below HBR.out.size (fun k h=>(HBO.out k h).1))));(have HL1:Aside0 (LogAt 98 w3 (fun k=>w.heap.size≤k) w.heap.size l1 fl1):=⟨hL.mono (fun k hk=>hk.elim (fun h=>(HBO.out k h).1) (fun h=>Nat.le_trans (Nat.le_trans HW0.out (Nat.le_of_lt HB2.out)) h))⟩);clear hL hC hct))
     go_roundw
     case rel=>exact ⟨k+1,l1,fl1,_,by omega,by go_num,⟨HL1.out,fun k h=>h⟩,HO1,HBR⟩
     case measure=>simp [intOf];omega
   ·have d2:(kd==2)=false:=by simp [h2]
    have HAP:=Aside0.mk (fun (W:World) (h:LogAt 98 W ok w.heap.size l fl)=>append_ok h HLO.out.1.len a0 a1 a2 a3 a4 a5 a6 a7 HSZ.out)
    have hok1:=HLO.out.1.app ⟨a0,a1,a2,a3,a4,a5,a6,a7⟩
    have hep1:=HLO.out.2.app ⟨a0,a1,a2,a3,a4,a5,a6,a7⟩
    clear h2
    rcases appF_cases l ⟨a0,a1,a2,a3,a4,a5,a6,a7⟩ with ⟨q,hq0,hP⟩|⟨hP,hle,hri⟩
    ·rw [hP] at HAP hok1 hep1
     dsimp only at HAP hok1 hep1
     have dq:(q==0)=false:=by simp [hq0]
     have dq2:(q != 0)=true:=by simp [hq0]
     have HO1:=Aside0.mk (And.intro hok1 hep1)
     clear hP hq0 hok1 hep1
     go_wp2_with (first
      | (go_at_call 21;(with_reducible refine hla.mono ?_);rintro e w2 ⟨rfl,hB⟩;(replace HBX:=Aside0.mk (HBX.out.below hB));(replace HLB:=Aside0.mk (HLB.out.below hB));(have HB2:=Aside0.mk (Nat.lt_of_lt_of_le HSW.out hB.size));(have HBR0:=HBR);(replace HBR:=Aside0.mk (below_from2 HBR.out (Nat.le_refl _) hB));clear b0 b1 b2 b3 b4 b5 b6 b7 b8 b9 ltb fz;obtain ⟨b0,b1,b2,b3,b4,b5,b6,b7,b8,b9⟩:=HBX.out.cells;(have ltb:=blk_lt HBX.out);(have fz:=HBX.out.free2);(have hap:=HAP.out _ HLB.out);clear hB hla)
      | (go_at_call 33;(with_reducible refine hap.mono ?_);rintro e w3 ⟨rfl,hL,hC⟩;(replace HBX:=Aside0.mk (HBX.out.chg hC (fun h=>by have:=(HBO.out _ h).2;omega)));(replace HBR:=Aside0.mk (HBR.out.trans (hC.below HBR.out.size (fun k h=>(HBO.out k h).1))));(have HL1:=Aside0.mk hL);clear b0 b1 b2 b3 b4 b5 b6 b7 b8 b9 ltb fz;obtain ⟨b0,b1,b2,b3,b4,b5,b6,b7,b8,b9⟩:=HBX.out.cells;(have ltb:=blk_lt HBX.out);(have fz:=HBX.out.free2);clear hL hC hap))
     go_roundw
     case rel=>exact ⟨k+1,l,fl,_,by omega,by go_num,⟨(HL1.out.chg (Chg.setCell _ _ _) (fun k hk _ h=>by have h:k=wr.heap.size:=h;exact hk.elim (fun h1=>by have:=(HBO.out k h1).2;omega) (fun h1=>by have:=HB2.out;omega))),fun k hk=>hk.elim (fun h=>(HBO.out k h).1) (fun h=>Nat.le_trans (Nat.le_trans HW0.out (Nat.le_of_lt HB2.out)) h)⟩,HO1,⟨HBR.out.setCell HW0.out _⟩⟩
     case measure=>simp [intOf];omega
    ·rw [hP] at HAP hok1 hep1
     dsimp only at HAP hok1 hep1 hle
     obtain ⟨l1,hl1⟩:∃ l1,l++[withLsn ⟨a0,a1,a2,a3,a4,a5,a6,a7⟩ ((l.length:Int)+1)]=l1:=⟨_,rfl⟩
     rw [hl1] at HAP hok1 hep1
     have HO1:=Aside0.mk (And.intro hok1 hep1)
     have HRI:=Aside0.mk (fun W=>refright_ok ((l.length:Int)+1) a1 a2 a3 a4 a5 a6 a7 HSZ.out W)
     have hri':rightB ((l.length:Int)+1) a1 a2 a3 a4 a5 a6 a7=true:=hri
     rw [hri'] at HRI
     have d3:decide (a1 < lastE l)=false:=decide_eq_false (by omega)
     have d5:((l.length:Int)+1 != (l.length:Int)+1)=false:=by simp
     clear hP hok1 hep1 hl1 hri hri'
     go_wp2_with (first
      | (go_at_call 21;(with_reducible refine hla.mono ?_);rintro e w2 ⟨rfl,hB⟩;(replace HBX:=Aside0.mk (HBX.out.below hB));(replace HLB:=Aside0.mk (HLB.out.below hB));(have HB2:=Aside0.mk (Nat.lt_of_lt_of_le HSW.out hB.size));(have HBR0:=HBR);(replace HBR:=Aside0.mk (below_from2 HBR.out (Nat.le_refl _) hB));clear b0 b1 b2 b3 b4 b5 b6 b7 b8 b9 ltb fz;obtain ⟨b0,b1,b2,b3,b4,b5,b6,b7,b8,b9⟩:=HBX.out.cells;(have ltb:=blk_lt HBX.out);(have fz:=HBX.out.free2);(have hap:=HAP.out _ HLB.out);clear hB hla)
      | (go_at_call 33;(with_reducible refine hap.mono ?_);rintro e w3 ⟨rfl,hL,hC⟩;(replace HBX:=Aside0.mk (HBX.out.chg hC (fun h=>by have:=(HBO.out _ h).2;omega)));(replace HBR:=Aside0.mk (HBR.out.trans (hC.below HBR.out.size (fun k h=>(HBO.out k h).1))));(have HL1:=Aside0.mk hL);clear b0 b1 b2 b3 b4 b5 b6 b7 b8 b9 ltb fz;obtain ⟨b0,b1,b2,b3,b4,b5,b6,b7,b8,b9⟩:=HBX.out.cells;(have ltb:=blk_lt HBX.out);(have fz:=HBX.out.free2);clear hL hC hap)
      | (go_at_call 41;(with_reducible refine (HRI.out _).mono ?_);rintro e w4 ⟨rfl,hB⟩;(have HL2:=Aside0.mk ((HL1.out.chg (Chg.setCell _ ⟨wr.heap.size,2,none⟩ (.int .i64 ((l.length:Int)+1))) (fun k hk _ h=>by have h:k=wr.heap.size:=h;exact hk.elim (fun h1=>by have:=(HBO.out k h1).2;omega) (fun h1=>by have:=HB2.out;omega))).below hB));(have HBE:=Aside0.mk (below_from2 (HBR.out.setCell (p:=⟨wr.heap.size,2,none⟩) HW0.out (.int .i64 ((l.length:Int)+1))) (Nat.le_refl _) hB));clear hB))
     go_roundw
     case rel=>exact ⟨k+1,l1,fl,_,by omega,by go_num,⟨HL2.out,fun k hk=>hk.elim (fun h=>(HBO.out k h).1) (fun h=>Nat.le_trans (Nat.le_trans HW0.out (Nat.le_of_lt HB2.out)) h)⟩,HO1,HBE⟩
     case measure=>simp [intOf];omega
  ·have hge:¬ (k:Int) < (xs.length:Int):=by omega
   have hll:=HLO.out.1.len
   have hfr:=from_ok HLG.out.1 (by omega) 1 100000
   rw [fromF_all hll (by omega)] at hfr
   clear hll
   go_wp2_with (go_at_call 18;(with_reducible refine hfr.mono ?_);rintro e w4 ⟨A1,c1,rfl,hR,hB⟩;(have HC1:=Aside0.mk (Kd.R_reads' hR).2.2);(have HB4:=Aside0.mk (below_from2 HB.out (Nat.le_refl _) hB));clear hB hR hfr)
   have hna2:l.length≤65536:=HLO.out.1.len
   go_loopw [12,96] (fun v12 v96 wr=>GrowRd w4 l v12 v96 wr) (fun _ v96 _=>l.length - (intOf v96).toNat)
   case atStart=>exact ⟨0,by omega,rfl,rfl,⟨Below.refl _ _⟩⟩
   case round =>
    obtain ⟨j,hj,rfl,rfl,HBj⟩:=hrel
    by_cases hjl:j < l.length
    ·have hjI:(j:Int) < (l.length:Int):=by omega
     have hj0:(0:Int)≤(j:Int):=by omega
     obtain ⟨ad,rfl,hx0,hx1,hx2,hx3,hx4,hx5,hx6,hx7⟩:=at_T53 (Kd.C_below HC1.out HBj.out) (j:Int) hj0 hjI
     rw [Int.toNat_natCast] at hx0 hx1 hx2 hx3 hx4 hx5 hx6 hx7
     have hls:=HLO.out.1.lsn j hjl
     have hep:=HLO.out.2 j hjl
     have hws:=wasF_succ l j
     generalize rd_T53 l (j:Int)=x at hx0 hx1 hx2 hx3 hx4 hx5 hx6 hx7 hls hep hws
     obtain ⟨a0,a1,a2,a3,a4,a5,a6,a7⟩:=x
     dsimp only at hx0 hx1 hx2 hx3 hx4 hx5 hx6 hx7 hls hep hws
     have hw2:IntKind.i64.wrap ((j:Int)+1)=(j:Int)+1:=by rw [IntKind.wrap_i64];omega
     have d1:(a0 != (j:Int)+1)=false:=by simp [hls]
     have d2:decide (a1 < wasF l j)=false:=decide_eq_false (by omega)
     have HWS:=Aside0.mk hws
     have HBA:=Aside0.mk (below_alloc (Below.refl wr.heap.size wr) (.cells #[.int .i64 a0,.int .i64 a1,.int .i64 a2,.int .i64 a3,.int .i64 a4,.int .i64 a5,.string a6,.string a7] 53))
     generalize wasF l j=wj at d2
     clear hls hep hws
     go_wp2
     go_roundw
     case rel=>exact ⟨j+1,by omega,by go_num,by rw [HWS.out],⟨below_from2 HBj.out (Nat.le_refl _) HBA.out⟩⟩
     case measure=>simp [intOf];omega
    ·have hge2:¬ (j:Int) < (l.length:Int):=by omega
     have HBW:=Aside0.mk (below_from2 HB4.out (Nat.le_refl _) HBj.out)
     have hsp:=speaks10_ok wr
     go_wp2_with (go_at_call 37;(with_reducible refine hsp.mono ?_);rintro e w8 ⟨rfl,hB⟩;(replace HBW:=Aside0.mk (below_from2 HBW.out (Nat.le_refl _) hB));clear hB hsp)
     go_ret
     exact ⟨rfl,HBW.out⟩
end Go.Proofs.Ytgjibcfkjaedfaa.Wal

namespace Go.Proofs.Ytgjibcfkjaedfaa.Pr
open Go.RowKit Go.Proofs.YtgjibcfkjaedfaaW.PrintWords Go.Proofs.YtgjibcfkjaedfaaW.PrintLast Go.Proofs.YtgjibcfkjaedfaaW.PrintMore
attribute [local go_sem] max2_int min2_int max_two min_two max_three min_three max_four min_four
set_option linter.unusedVariables false
set_option linter.unusedSimpArgs false
noncomputable def latticelaw10_WalGrows.f (a0:List S82):Option Bool:=@ite _ (∀ x ∈ a0,x.f2.f7.size≤140737488351232) (Classical.propDecidable _) (some true) none
theorem latticelaw10_WalGrows.calls (A0:Option Addr) (c0:Nat) (a0:List S82) (r:Bool) (w:World) (hr0:Kd.C k82 w A0 a0.length a0) (hc0:a0.length≤c0) (h:latticelaw10_WalGrows.f a0=some r) :
  Calls Try.prog 11 #[.slice A0 a0.length c0] w fun e w'=>e=.returned (.bool r)∧Below w.heap.size w w':=by
 unfold latticelaw10_WalGrows.f at h
 split at h
 ·rename_i hn
  injection h with h
  subst h
  exact Wal.walGrows_ok A0 c0 a0 w hr0 hn
 ·cases h
end Go.Proofs.Ytgjibcfkjaedfaa.Pr

namespace Go.Proofs.Ytgjibcfkjaedfaa.Open
open Go.RowKit Go.ChangeShapes Go.WideShapes Go.Proofs.YtgjibcfkjaedfaaW.PrintWords
abbrev reachN:Nat:=140737488351232
structure Opn (P:Program) (t:TypeId) {α:Type} (d:Kd α) (g:α→Prop) (m:α→Nat):Prop where
 sz:P.cellsOf t=d.sz
 out:∀ (H:Type) (enc:TypeId×Value→H) (W:World) (n:Nat) (cs:List Value) (x:DataW H×List MemPlace),DataW.trod enc P W 0 (fun _=>true) true n t cs=some x →
  (∀ q ∈ x.1.weights P t,q≤reachN)→∃ y:α,d.K W y cs∧g y∧m y≤Rows.uptoBulk x.1
section
variable {P:Program} {t e:TypeId}
theorem opn_int {k:IntKind} (ht:P.underlying t=some (.int k)) (hc:P.cellsOf t=1):Opn P t (Kd.int k) (fun y=>(Lit.int k y).wf=true) (fun _=>1) where
 sz:=hc
 out:=by
  intro H enc W n cs x h _
  obtain ⟨y,rfl,rfl,hw⟩:=DataW.trod_int ht h
  exact ⟨y,rfl,hw,Nat.le_refl _⟩
theorem opn_string (ht:P.underlying t=some .string) (hc:P.cellsOf t=1):Opn P t Kd.string (fun y=>y.size≤reachN) (fun y=>y.size+1) where
 sz:=hc
 out:=by
  intro H enc W n cs x h hq
  obtain ⟨y,rfl,rfl,hw⟩:=DataW.trod_string ht h
  have:=hq y.data.toList.length (by simp [DataW.weights])
  exact ⟨y,rfl,by simpa using this,by simp [Rows.uptoBulk]⟩
theorem list_of {α:Type} (p:Nat→α→Prop):∀ len,(∀ i,i < len→∃ y,p i y)→∃ ys:List α,ys.length=len∧∀ i y,ys[i]?=some y→p i y
 | 0,_=>⟨[],rfl,fun i y h=>by simp at h⟩
 | len+1,h=>by
  obtain ⟨ys,hl,hy⟩:=list_of p len (fun i hi=>h i (by omega))
  obtain ⟨y,hp⟩:=h len (by omega)
  refine ⟨ys++[y],by simp [hl],fun i z hz=>?_⟩
  by_cases hi:i < len
  ·rw [List.getElem?_append_left (by omega)] at hz
   exact hy i z hz
  ·by_cases he:i=len
   ·subst he
    rw [List.getElem?_append_right (by omega),hl] at hz
    simp at hz
    subst hz
    exact hp
   ·rw [List.getElem?_eq_none (by simp;omega)] at hz
    cases hz
theorem bulk_sum {H α:Type} (m:α→Nat):∀ (ys:List α) (es:List (DataW H)),ys.length=es.length→(∀ (i:Nat) (y:α) (x:DataW H),ys[i]?=some y→es[i]?=some x→m y≤Rows.uptoBulk x)→(ys.map m).sum≤Rows.uptoBulkAll es
 | [],[],_,_=>by simp
 | [],_::_,h,_=>by simp at h
 | _::_,[],h,_=>by simp at h
 | y::ys,x::es,h,hm=>by
  have ih:=bulk_sum m ys es (by simpa using h) (fun i a b ha hb=>hm (i+1) a b (by simpa using ha) (by simpa using hb))
  have h0:=hm 0 y x rfl rfl
  simp only [List.map_cons,List.sum_cons,Rows.uptoBulkAll]
  omega
theorem addr_add (a:Addr) (x y:Nat):(a.add x).add y=a.add (x+y):=by
 by_cases hx:x=0
 ·subst hx;simp [Addr.add]
 ·by_cases hy:y=0
  ·subst hy;simp [Addr.add]
  ·simp [Addr.add,hx,hy,Nat.add_assoc]
theorem weights_all {H:Type} {P:Program} {e:TypeId}:∀ (es:List (DataW H)) (x:DataW H),x ∈ es→∀ q ∈ x.weights P e,q ∈ DataW.weightsAll P e es
 | [],_,h=>by simp at h
 | y::r,x,h=>by
  intro q hq
  simp only [DataW.weightsAll,List.mem_append]
  rcases List.mem_cons.1 h with rfl|h
  ·exact .inl hq
  ·exact .inr (weights_all r x h q hq)
theorem opn_slice {α:Type} {d:Kd α} {g:α→Prop} {m:α→Nat} {B:Nat} (ht:P.underlying t=some (.slice e)) (hc:P.cellsOf t=1) (hB:P.bytesOf e=B) (he:Opn P e d g m) :
  Opn P t (Kd.slice e d) (fun xs=>xs.length≤maxLen∧xs.length*B≤reachN∧∀ y ∈ xs,g y) (fun xs=>(xs.map m).sum+1) where
 sz:=hc
 out:=by
  intro H enc W n cs x h hq
  rcases DataW.trod_slice ht h with ⟨rfl,rfl⟩|⟨a,len,cap,elems,rest,n,_,rfl,rfl,hb,hl,hm,hlen,hel,hsp,_⟩
  ·exact ⟨[],⟨none,0,rfl,Nat.le_refl _,Kd.C_nil d W⟩,⟨by simp,by simp,by simp⟩,by simp [Rows.uptoBulk]⟩
  ·have hw:∀ q ∈ DataW.weightsAll P e (elems.map (·.1)),q≤reachN:=fun q hq'=>hq q (by simp only [DataW.weights,ht];exact List.mem_cons_of_mem _ (List.mem_append_left _ hq'))
   have h0:=hq (((elems.map (·.1)).length+(rest.map (·.1)).length)*P.bytesOf e) (by simp only [DataW.weights,ht];exact List.mem_cons_self)
   have each:∀ i,i < len→∃ y:α,∃ c:List Value,∃ z:DataW H×List MemPlace,elems[i]?=some z∧d.K W y c∧g y∧m y≤Rows.uptoBulk z.1∧∀ j u,c[j]?=some u→W.cell? (a.add (i*d.sz+j))=some u:=by
    intro i hi
    have h1:=hel i hi
    rw [List.getElem?_eq_getElem (by omega)] at h1
    obtain ⟨c,hcs,hx⟩:=Option.bind_eq_some_iff.1 h1
    obtain ⟨_,hcl,hcell⟩:=World.cells?_some hcs
    obtain ⟨y,hy,hg,hbk⟩:=he.out H enc W n c _ hx (fun q hq'=>hw q (weights_all _ _ (List.mem_map_of_mem (List.getElem_mem (by omega))) q hq'))
    refine ⟨y,c,_,List.getElem?_eq_getElem (by omega),hy,hg,hbk,fun j u hu=>?_⟩
    have hj:j < P.cellsOf e:=by
     have:=(List.getElem?_eq_some_iff.1 hu).1
     omega
    have h2:=hcell j hj
    rw [hu,he.sz,addr_add] at h2
    exact h2
   obtain ⟨ys,hyl,hys⟩:=list_of _ len each
   have hyl2:ys.length=elems.length:=by omega
   refine ⟨ys,⟨some a,cap,by rw [hyl],by omega,?_⟩,⟨by omega,?_,?_⟩,?_⟩
   ·refine ⟨rfl,by unfold maxLen at hm;omega,fun _=>⟨a,rfl,fun j p hp=>?_⟩⟩
    obtain ⟨c,z,_,hK,_,_,hcell⟩:=hys j p hp
    exact ⟨c,d.K_len hK,hK,hcell⟩
   ·rw [hB] at h0
    simp only [List.length_map] at h0
    have:ys.length*B≤(elems.length+rest.length)*B:=Nat.mul_le_mul_right _ (by omega)
    omega
   ·intro y hy
    obtain ⟨j,hj,rfl⟩:=List.getElem_of_mem hy
    obtain ⟨c,z,_,_,hg,_⟩:=hys j _ (List.getElem?_eq_getElem hj)
    exact hg
   ·have:=bulk_sum m ys (elems.map (·.1)) (by simp [hyl2]) (fun i y z hy hz=>by
     obtain ⟨c,z',h2,_,_,h3,_⟩:=hys i y hy
     rw [List.getElem?_map,h2] at hz
     simp at hz
     subst hz
     exact h3)
    simp only [Rows.uptoBulk]
    omega
structure OpnF (P:Program) (fs:List Field) (o:Nat) {α:Type} (d:Kd α) (g:α→Prop) (m:α→Nat):Prop where
 out:∀ (H:Type) (enc:TypeId×Value→H) (W:World) (n:Nat) (cs:List Value) (xs:List (DataW H×List MemPlace)),cs.length=o+d.sz→xs.length=fs.length →
  (∀ (i:Nat) (f:Field),fs[i]?=some f→DataW.trod enc P W 0 (fun _=>true) true n f.type ((cs.drop f.offset).take (P.cellsOf f.type))=xs[i]?) →
  (∀ q ∈ DataW.weightsEach P (fs.map (·.type)) (xs.map (·.1)),q≤reachN)→∃ y:α,d.K W y (cs.drop o)∧g y∧m y≤Rows.uptoBulkAll (xs.map (·.1))
theorem opnF_last {α:Type} {f:Field} {o:Nat} {d:Kd α} {g:α→Prop} {m:α→Nat} (hf:f.offset=o) (h:Opn P f.type d g m):OpnF P [f] o d g m where
 out:=by
  intro H enc W n cs xs hcs hxs hel hq
  match xs,hxs with
  | [x],_ =>
   have h0:=hel 0 f rfl
   rw [hf,h.sz,List.take_of_length_le (by rw [List.length_drop];omega)] at h0
   obtain ⟨y,hy,hg,hb⟩:=h.out H enc W n _ x (by simpa using h0) (fun q hq'=>hq q (by simp [DataW.weightsEach];exact hq'))
   exact ⟨y,hy,hg,by simp [Rows.uptoBulkAll];exact hb⟩
theorem opnF_cons {α β:Type} {f:Field} {fs:List Field} {o:Nat} {a:Kd α} {b:Kd β} {g:α→Prop} {m:α→Nat} {g':β→Prop} {m':β→Nat} (hf:f.offset=o) (h:Opn P f.type a g m) (hr:OpnF P fs (o+a.sz) b g' m') :
  OpnF P (f::fs) o (Kd.pair a b) (fun y=>g y.1∧g' y.2) (fun y=>m y.1+m' y.2) where
 out:=by
  intro H enc W n cs xs hcs hxs hel hq
  match xs,hxs with
  | x::xs,hxs =>
   have hsz:(Kd.pair a b).sz=a.sz+b.sz:=rfl
   have h0:=hel 0 f rfl
   rw [hf,h.sz] at h0
   obtain ⟨y,hy,hg,hb⟩:=h.out H enc W n _ x (by simpa using h0) (fun q hq'=>hq q (by simp only [List.map_cons,DataW.weightsEach];exact List.mem_append_left _ hq'))
   obtain ⟨z,hz,hg',hb'⟩:=hr.out H enc W n cs xs (by omega) (by simpa using hxs) (fun i f' hf'=>by simpa using hel (i+1) f' (by simpa using hf')) (fun q hq'=>hq q (by simp only [List.map_cons,DataW.weightsEach];exact List.mem_append_right _ hq'))
   refine ⟨(y,z),⟨(cs.drop o).take a.sz,cs.drop (o+a.sz),?_,hy,hz⟩,⟨hg,hg'⟩,?_⟩
   ·rw [← List.drop_drop,List.take_append_drop]
   ·simp only [List.map_cons,Rows.uptoBulkAll]
    omega
theorem opn_struct {α β:Type} {fs:Array Field} {d:Kd α} {g:α→Prop} {m:α→Nat} (ht:P.underlying t=some (.struct fs)) (hc:P.cellsOf t=d.sz) (h:OpnF P fs.toList 0 d g m) (f:β→α) (inv:α→β) (hfi:∀ a,f (inv a)=a) :
  Opn P t (Kd.iso d f) (fun y=>g (f y)) (fun y=>m (f y)+1) where
 sz:=hc
 out:=by
  intro H enc W n cs x hx hq
  obtain ⟨xs,n,_,rfl,hl,hxs,hel⟩:=DataW.trod_struct ht hx
  obtain ⟨y,hy,hg,hb⟩:=h.out H enc W n cs xs (by omega) (by simpa using hxs) (fun i f' hf'=>hel i f' (by simpa using hf')) (fun q hq'=>hq q (by simp only [DataW.weights,ht];exact hq'))
  refine ⟨inv y,?_,?_,?_⟩
  ·show d.K W (f (inv y)) cs
   rw [hfi]
   simpa using hy
  ·rw [hfi];exact hg
  ·rw [hfi];simp only [Rows.uptoBulk];omega
end
theorem weights_at {H:Type} {P:Program} {ts:List TypeId} {ds:List (DataW H)} (h:(DataW.weightsEach P ts ds).all (·≤reachBytes)=true) {j:Nat} {t:TypeId} {d:DataW H} (ht:ts[j]?=some t) (hd:ds[j]?=some d):∀ q ∈ d.weights P t,q≤reachN:=by
 intro q hq
 have h1:=List.all_eq_true.1 h _ (DataW.weights_mem_each ht hd q hq)
 have h2:q≤reachBytes:=by simpa using h1
 exact h2
end Go.Proofs.Ytgjibcfkjaedfaa.Open

namespace Go.Proofs.Ytgjibcfkjaedfaa.Pr
open Go.RowKit
set_option linter.unusedVariables false
def good53 (y:S53):Prop:=(Lit.int .i64 y.f0).wf=true∧(Lit.int .i64 y.f1).wf=true∧(Lit.int .i64 y.f2).wf=true∧(Lit.int .i64 y.f3).wf=true∧(Lit.int .i64 y.f4).wf=true∧(Lit.int .i64 y.f5).wf=true∧y.f6.size≤140737488351232∧y.f7.size≤140737488351232
def bulk53 (y:S53):Nat:=(1+(1+(1+(1+(1+(1+((y.f6.size+1)+(y.f7.size+1))))))))+1
def good82 (y:S82):Prop:=(Lit.int .i64 y.f0).wf=true∧(Lit.int .i64 y.f1).wf=true∧good53 y.f2
def bulk82 (y:S82):Nat:=(1+(1+bulk53 y.f2))+1
end Go.Proofs.Ytgjibcfkjaedfaa.Pr

namespace Go.Proofs.Ytgjibcfkjaedfaa.Pr
open Go.RowKit Go.Proofs.YtgjibcfkjaedfaaW.PrintWords
theorem opn53:Open.Opn Try.prog 53 k53 good53 bulk53 :=
 Open.opn_struct Try.underlying53 (by kernel_rfl) (Open.opnF_cons rfl (Open.opn_int Try.underlying3 (by kernel_rfl)) (Open.opnF_cons rfl (Open.opn_int Try.underlying3 (by kernel_rfl)) (Open.opnF_cons rfl (Open.opn_int Try.underlying3 (by kernel_rfl)) (Open.opnF_cons rfl (Open.opn_int Try.underlying3 (by kernel_rfl)) (Open.opnF_cons rfl (Open.opn_int Try.underlying3 (by kernel_rfl)) (Open.opnF_cons rfl (Open.opn_int Try.underlying3 (by kernel_rfl)) (Open.opnF_cons rfl (Open.opn_string Try.underlying9 (by kernel_rfl)) (Open.opnF_last rfl (Open.opn_string Try.underlying9 (by kernel_rfl)))))))))) (fun x:S53=>(x.f0,x.f1,x.f2,x.f3,x.f4,x.f5,x.f6,x.f7)) (fun p=>⟨p.1,p.2.1,p.2.2.1,p.2.2.2.1,p.2.2.2.2.1,p.2.2.2.2.2.1,p.2.2.2.2.2.2.1,p.2.2.2.2.2.2.2⟩) (fun _=>rfl)
theorem opn82:Open.Opn Try.prog 82 k82 good82 bulk82 :=
 Open.opn_struct Try.underlying82 (by kernel_rfl) (Open.opnF_cons rfl (Open.opn_int Try.underlying3 (by kernel_rfl)) (Open.opnF_cons rfl (Open.opn_int Try.underlying3 (by kernel_rfl)) (Open.opnF_last rfl opn53))) (fun x:S82=>(x.f0,x.f1,x.f2)) (fun p=>⟨p.1,p.2.1,p.2.2⟩) (fun _=>rfl)
end Go.Proofs.Ytgjibcfkjaedfaa.Pr

namespace Go.Proofs.Ytgjibcfkjaedfaa.Pr
open Go.RowKit Go.Proofs.YtgjibcfkjaedfaaW.PrintWords Go.Proofs.YtgjibcfkjaedfaaW.PrintLast
set_option linter.unusedVariables false in
def latticelaw10_WalGrows.Stated:Prop:=∀ (a0:List (S82)),((a0.length≤maxLen∧a0.length*96≤140737488351232∧∀ e ∈ a0,good82 e))→latticelaw10_WalGrows.f a0=some true
end Go.Proofs.Ytgjibcfkjaedfaa.Pr

namespace Go.Proofs.Ytgjibcfkjaedfaa.Pure
open Go.RowKit Go.Proofs.Ytgjibcfkjaedfaa.Pr Go.Proofs.YtgjibcfkjaedfaaW.PrintWords Go.Proofs.YtgjibcfkjaedfaaW.PrintLast
theorem WalGrows:latticelaw10_WalGrows.Stated:=by
 intro a0 h0
 unfold latticelaw10_WalGrows.f
 rw [if_pos]
 intro x hx
 obtain ⟨_,_,_,_,_,_,_,_,_,hv⟩:=h0.2.2 x hx
 exact hv
end Go.Proofs.Ytgjibcfkjaedfaa.Pure

/- The law WalGrows returns true at every input, and each argument reads afterwards as it read before: LSNs follow one another without a gap, and epochs never fall, whatever is appended and cut.
   Conditions: none but those that the row itself prints. Written by a program of this session over the kit's printer. -/
namespace Go.Proofs.Ytgjibcfkjaedfaa.walGrows
open Go.ChangeShapes Go.WideShapes Go.ChangeAt Go.RowKit
open Go.ChangeMaps (open_string shut_string)
set_option linter.unusedVariables false
theorem own:ownKnob Try.prog.godebug=none:=by kernel_rfl
theorem laidOut:laidOutB Try.prog=true:=by kernel_rfl
set_option maxRecDepth 100000 in
theorem lifted (os:Os) (started:os.Started) (H:Type) (enc:TypeId×Value→H) :
  ReturnsInHanded {} Try.checked os 11 .any (Rows.walGrowsSpec.pre6 enc Try.prog Try.f11 Rows.walGrowsRow.domain false) (Rows.walGrowsSpec.post enc Try.prog Try.f11 false true false false):=by
 refine returnsInHanded_of_change_sized (C:=Try.checked) own started (by kernel_rfl) Try.func11
  (ChangeSpec.witness6 (enc:=enc) (C:=Try.checked) false ⟨#[],#[.slice none 0 0],[]⟩ 8 (by kernel_rfl) (by kernel_rfl) (by kernel_rfl) (by kernel_rfl)) ?_
 intro W base args ds gs before hval0 hW hcnd hsz0 _
 have hsz:(DataW.weightsEach Try.prog (Try.f11.params.toList++Rows.walGrowsSpec.plain.varTypes Try.prog) (ds++gs)).all (·≤reachBytes)=true:=hsz0
 have hval:∀ (j:Nat) t v,Try.f11.params[j]?=some t→args[j]?=some v→Value.okWide Try.prog W .any base t v:=hval0
 have hW':=hW
 obtain ⟨p,q,hA0,hV,rfl,hfz,hnd⟩:=hW
 have hA:DataW.TrodAll enc Try.prog W 0 (fun _=>true) true Try.f11.params.toList args.toList ds p:=hA0
 rw [Try.params11] at hA hval hsz
 obtain ⟨v0,vs0,d0,ds0,p0,q0,hargs,rfl,rfl,h0,r0⟩:=trodAll_cons hA
 obtain ⟨rfl,rfl,rfl⟩:=trodAll_nil r0
 obtain rfl:args=#[v0]:=by cases args;simp_all
 obtain ⟨rfl,rfl⟩:=trodVars_none hV
 have k0:=h0
 have lt0:∀ x ∈ p0,x.block < W.heap.size:=by obtain ⟨m,hm⟩:=k0;exact DataW.trod_lt m _ _ _ hm
 obtain ⟨n0,hf0⟩:=h0
 obtain ⟨y0,K0,g0,m0⟩:=(Open.opn_slice (B:=96) Try.underlying80 (by kernel_rfl) (by kernel_rfl) Pr.opn82).out H enc W n0 _ _ hf0 (Open.weights_at hsz (j:=0) (t:=80) rfl rfl)
 obtain ⟨a0,len0,cap0,rfl⟩:=okWide_slice Try.underlying80 (hval 0 80 v0 rfl rfl)
 obtain ⟨A0,c0,e0,hc0,hr0⟩:=K0
 simp only [Value.cells,List.cons.injEq,Value.slice.injEq,and_true] at e0
 obtain ⟨rfl,rfl,rfl⟩:=e0
 clear hA0 hval0 hsz0 hsz
 have hk:=Pure.WalGrows y0 g0
 refine (Pr.latticelaw10_WalGrows.calls _ _ y0 true W hr0 hc0 hk).mono fun e W' ⟨he,bel0⟩=>?_
 have bel:Below W.heap.size W W':=bel0
 subst he
 exact ⟨_,rfl,_,_,_,[],_,[],hW',trodAll_mk1 (shut_bool Try.underlying4 _),(trodAll_cons_mk (Below.trod laidOut (by kernel_rfl) (of_decide_eq_true (by kernel_rfl)) k0 bel lt0) trodAll_mk0),rfl,bel.frame _,fun h=>by cases h⟩
theorem over:Rows.walGrowsRow.holds Try.pinned (OpenSpec.ofChange Rows.walGrowsSpec) :=
 OpenClaim.holds_of_wide 11 Try.f11 rfl rfl rfl rfl rfl rfl rfl ⟨rfl,rfl,rfl,rfl,rfl⟩ rfl rfl rfl rfl rfl (by kernel_rfl) Try.func11 (by kernel_rfl)
  (of_decide_eq_true (by kernel_rfl)) (by unfold Func.isWrapper;first|(rw [if_pos (by decide +kernel)];kernel_rfl)|(rw [if_neg (by decide +kernel)];exact ⟨rfl,rfl⟩))
  (fun os started H enc _=>lifted os started H enc)
theorem proved:Rows.WalGrowsSaid:=over
#print axioms proved
end Go.Proofs.Ytgjibcfkjaedfaa.walGrows
namespace Go.Proofs.Ytgjibcfkjaedfaa
theorem walGrows_holds:Rows.WalGrowsSaid:=walGrows.proved
end Go.Proofs.Ytgjibcfkjaedfaa
