-- Parts melded by a program of this session.
import Derived.Below
import Derived.Deep.Draws
import Derived.Deep.AppendLies
import Derived.Maps.AppendAt
import Derived.OwnWalk
import Derived.Laws.BytesArg
import Derived.Laws.MakeOwn
import Derived.Laws.OwnMore
import Derived.Deep.OwnRows
import Derived.Tactics
import Derived.Lib.ConvBytes
import Derived.Laws.Slices
import Derived.WalkKit
import Derived.KernelRfl
import Derived.RowKit3
import Derived.Deep.LoopGhost
import Derived.Deep.QuietTactic
import Derived.BigQuiet
import Derived.WideLaws
import Derived.Deep.DeepCutAuto
import Derived.Deep.CutBlock
import Derived.Deep.RegionHeld3
import Derived.Laws.Rows
import Derived.Lib.AppendStr
import Derived.ArgAppend
import Derived.Laws.IdiomCopy
import Derived.RowKit
import Derived.Test.YtgjibcfkjaedfaaTSTHWWords
import Derived.OrdersHeld
import Derived.Laws.BitsLemmas
import Derived.Test.YtgjibcfkjaedfaaTSTHWRest
import Derived.Laws.StructEq
import Derived.Test.YtgjibcfkjaedfaaProg
import Derived.Shelf.Abstract
import Derived.Test.YtgjibcfkjaedfaaTSTHPrx0
import Derived.OneCell
import Derived.Lib.SliceRun
import Derived.Test.YtgjibcfkjaedfaaTSTHWire
import Derived.RangeFuncBox
import Derived.RangeFuncLeaves
import Derived.OwnWalkIn
import Derived.TacticsInMore
import Derived.LoopNIn
import Derived.LoopIn
import Derived.Lib.Hide
import Derived.Test.YtgjibcfkjaedfaaTSTHBack
import Derived.Outline
import Derived.Test.YtgjibcfkjaedfaaTSTHRead
import Derived.Test.YtgjibcfkjaedfaaTSTHNdFrom
import Derived.Laws.BitsAllLaws
import Derived.Test.YtgjibcfkjaedfaaTSTHCrc
import Derived.Test.YtgjibcfkjaedfaaTSTHPrx3
import Derived.Test.YtgjibcfkjaedfaaTSTHPrx4
import Derived.Test.YtgjibcfkjaedfaaTSTHPrx5
import Derived.Test.YtgjibcfkjaedfaaTSTHPrx1
import Derived.Test.YtgjibcfkjaedfaaTSTHRefW
import Derived.Test.YtgjibcfkjaedfaaTSTHPrxS
import Derived.Test.YtgjibcfkjaedfaaTSTHPrx15
import Derived.Test.YtgjibcfkjaedfaaTSTHPrx16
import Derived.Test.YtgjibcfkjaedfaaTSTHPureNode
import Derived.Deep.RegionLaw
import Derived.Laws.CopyOwn
import Derived.Test.YtgjibcfkjaedfaaTSTHPageEnc
import Derived.Test.YtgjibcfkjaedfaaTSTHPageFit
import Derived.Test.YtgjibcfkjaedfaaTSTHPageRd
import Derived.Test.YtgjibcfkjaedfaaTSTHPageNode
import Derived.Test.YtgjibcfkjaedfaaTSTHPageDec
import Derived.Test.YtgjibcfkjaedfaaTSTHCrcR
import Derived.Test.YtgjibcfkjaedfaaTSTHPageRt
import Derived.Test.YtgjibcfkjaedfaaTSTHPrx17
import Derived.Test.YtgjibcfkjaedfaaTSTHPagePure
import Derived.Test.YtgjibcfkjaedfaaTSTHRefRd
import Derived.Test.YtgjibcfkjaedfaaTSTHPageRef
import Derived.Test.YtgjibcfkjaedfaaTSTHRecIR
import Derived.Lib.SlBytesConst
import Derived.StillTailTactics
import Derived.Test.YtgjibcfkjaedfaaTSTHRecV
import Derived.Test.YtgjibcfkjaedfaaTSTHRecChkP
import Derived.Test.YtgjibcfkjaedfaaTSTHRecChkA
import Derived.Test.YtgjibcfkjaedfaaTSTHRecChkB
import Derived.Test.YtgjibcfkjaedfaaTSTHRecChkE
import Derived.Test.YtgjibcfkjaedfaaTSTHRecChk
import Derived.Test.YtgjibcfkjaedfaaTSTHRecEnc
import Derived.Test.YtgjibcfkjaedfaaTSTHRecRead
import Derived.Test.YtgjibcfkjaedfaaTSTHRecRight
import Derived.Test.YtgjibcfkjaedfaaTSTHRecLaw
import Derived.Test.YtgjibcfkjaedfaaTSTHRecK
import Derived.Test.YtgjibcfkjaedfaaTSTHRecEncs
import Derived.Test.YtgjibcfkjaedfaaTSWalA
import Derived.Test.YtgjibcfkjaedfaaTSWalApp
import Derived.Test.YtgjibcfkjaedfaaTSRefA
import Derived.WalkMore
import Derived.Test.YtgjibcfkjaedfaaTSWalS
import Derived.Test.YtgjibcfkjaedfaaTSShA
import Derived.Test.YtgjibcfkjaedfaaTSShB
import Derived.Test.YtgjibcfkjaedfaaTSShC
import Derived.Test.YtgjibcfkjaedfaaRows
import Derived.OpenShut
import Derived.SizedLaws
import Derived.ChangeArms
import Derived.ChangeOld
import Derived.DataReads
import Derived.ProofKit
import Derived.ShutString
import Derived.Carry
set_option linter.unusedVariables false
set_option linter.unusedSimpArgs false
namespace Go.Proofs.YtgjibcfkjaedfaaW.PrintWords
open Go.RowKit
theorem LeO.ite {α:Type} {c:Prop} [Decidable c] {a a' b b':Option α} (h:LeO a a') (k:LeO b b'):LeO (if c then a else b) (if c then a' else b'):=by
  split
  · exact h
  · exact k
section
variable {P:Program} {ops:Array Oper} {rest:List Oper} {o:Oper} {a:Act} {Q:Exit→Act→World→Prop}
end
section
variable {P:Program} {ops:Array Oper} {o:Oper} {a:Act} {Q:Exit→Act→World→Prop} {K:Act→World→Prop}
end
section
variable {α:Type} {enc:α→Value} {d:α}
end
section
variable {α:Type} {P:Program} {ops:Array Oper} {rest:List Oper} {o:Oper} {a:Act} {Q:Exit→Act→World→Prop}
end
section
variable {P:Program}
end
section
variable {α:Type} {R R':α→List Value→Prop} {e:TypeId} {size:Nat} {w w1:World} {base:Nat} {v:Value} {ps:List α}
theorem OwnRow.keep (h:OwnRow R e size w base v ps) {g:Nat} {t:TypeId} {cells:Array Value} (hb:w.heap[g]?=some (.cells cells t (0,0))) (ht:e≠t) (hk:KeepBut w w1 g none):OwnRow R e size w1 base v ps:=by
  obtain ⟨inner,ho,hr⟩:=h
  exact ⟨inner,hk.own ho (Ne.symm (own_ne ho hb ht)) (by cases v.ownBlock <;> simp),hr⟩
end
section
variable {P:Program} {ops:Array Oper} {rest:List Oper} {o:Oper} {a:Act} {Q:Exit→Act→World→Prop} {α:Type} {R:α→List Value→Prop}
end
namespace Kd
section
variable {α:Type} {d:Kd α} {e:Nat} {w w1:World} {base:Nat} {ok ok':Nat→Prop} {v:Value} {xs:List α}
end
section
variable {P:Program} {ops:Array Oper} {rest:List Oper} {o:Oper} {a:Act} {Q:Exit→Act→World→Prop} {α:Type}
end
section
variable {P:Program} {ops:Array Oper} {o:Oper} {a:Act} {Q:Exit→Act→World→Prop} {Kc:Act→World→Prop} {α:Type}
end
end Kd
namespace Kd
end Kd
namespace Kd
section
variable {α β:Type} {d:Kd α} {d':Kd β} {e e':Nat} {w w1 W:World} {base b b':Nat} {ok ok' okv oku:Nat→Prop} {v u:Value} {xs:List α} {ys:List β}
theorem R_over (h:d.R e W b ok u xs) (hv:d'.R e' W b' ok' v ys) (ht:∀ q,q ∈ e::d.E→q≠e') (hg:W.grownBy w1 v.ownBlock):d.R e w1 b ok u xs:=by
  obtain ⟨inner,ho⟩:=R_own hv
  refine R_mono (R_move (R_bound h) (fun k hk=>hg.block k hk.2.2.1 (fun he=>?_))) (fun _ hk=>hk.1)
  obtain ⟨_,_,_,q,hq,cells,hc⟩:=hk
  obtain ⟨cells',hc'⟩:=own_typed ho k he.symm
  rw [hc] at hc'
  injection hc' with hc'
  injection hc' with _ hc'
  exact ht q hq hc'
end
section
variable {w W:World} {A:Option Addr} {n:Nat}
end
section
variable {P:Program} {ops:Array Oper} {rest:List Oper} {o:Oper} {a:Act} {Q:Exit→Act→World→Prop}
end
end Kd
section
variable {P:Program}
end
section
variable {w w1:World} {base n size:Nat} {e:TypeId} {v:Value} {xs:List Value}
end
namespace Kd
section
variable {α:Type} {d:Kd α} {e:Nat} {w w1 W:World} {base:Nat} {ok ok':Nat→Prop} {v:Value} {xs:List α}
end
end Kd
namespace Kd
section
variable {α:Type} {d:Kd α} {e e':Nat} {w w1 W:World} {base:Nat} {ok:Nat→Prop} {u v:Value} {xs:List α}
end
end Kd
namespace Kd
section
variable {P:Program} {ops:Array Oper} {rest:List Oper} {o:Oper} {a:Act} {Q:Exit→Act→World→Prop} {α:Type}
end
end Kd
namespace Kd
section
variable {α:Type} {k:Kd α} {w:World} {A:Option Addr} {xs:List α} {m c:Nat}
end
end Kd
section
variable {P:Program}
end
theorem keep_cell {w W:World} {g:Nat} (h:KeepBut w W g none) {a:Addr} {v:Value} (hc:w.cell? a=some v) (hne:a.block≠g):W.cell? a=some v:=by
  have:=h.2 a.block (World.block_lt_of_cell? w a hc) hne (by simp)
  simpa [World.cell?,this] using hc
theorem ReadsInt.keep {w W:World} {k:IntKind} {A:Option Addr} {n g:Nat} {xs:List Int} (h:ReadsInt w k A n xs) (hk:KeepBut w W g none) (hf:∀ ad,A=some ad→0 < n→ad.block≠g):ReadsInt W k A n xs :=
  ⟨h.1,h.2.1,fun hn=>by
    obtain ⟨ad,e,hc⟩:=h.2.2 hn
    exact ⟨ad,e,fun j hj=>keep_cell hk (hc j hj) (by rw [add_block];exact hf ad e hn)⟩⟩
theorem ReadsOf.keep {α:Type} {enc:α→Value} {d:α} {w W:World} {A:Option Addr} {n g:Nat} {xs:List α} (h:ReadsOf enc d w A n xs) (hk:KeepBut w W g none) (hf:∀ ad,A=some ad→0 < n→ad.block≠g):ReadsOf enc d W A n xs :=
  ⟨h.1,h.2.1,fun hn=>by
    obtain ⟨ad,e,hc⟩:=h.2.2 hn
    exact ⟨ad,e,fun j hj=>keep_cell hk (hc j hj) (by rw [add_block];exact hf ad e hn)⟩⟩
section
variable {P:Program} {ops:Array Oper} {rest:List Oper} {o:Oper} {a:Act} {Q:Exit→Act→World→Prop}
end
section
variable {P:Program} {ops:Array Oper} {rest:List Oper} {o:Oper} {a:Act} {Q:Exit→Act→World→Prop} {W:World}
end
end Go.Proofs.YtgjibcfkjaedfaaW.PrintWords

namespace Go.Proofs.YtgjibcfkjaedfaaW.PrintWords
open Go.RowKit
section
variable {w W W2:World} {S S2 S':Nat→Prop}
theorem Kept.keep {g:Nat} (h:KeepBut w W g none) (k:Kept W W2 S2) (hs:∀ k,S2 k→w.heap.size≤k):KeepBut w W2 g none :=
 ⟨Nat.le_trans h.1 k.1,fun i hi hg hr=>(k.2 i (Nat.lt_of_lt_of_le hi h.1) (fun h2=>by have:=hs i h2;omega)).trans (h.2 i hi hg hr)⟩
end
end Go.Proofs.YtgjibcfkjaedfaaW.PrintWords

namespace Go.Proofs.YtgjibcfkjaedfaaW.PrintWords
open Go.RowKit
namespace Foot
variable {P Q:World→Prop} {W W1:World} {ok ok':Nat→Prop}
theorem bound (h:Foot P W ok):Foot P W (fun k=>ok k∧k < W.heap.size):=fun W' hW=>h W' (fun k hk hlt=>hW k ⟨hk,hlt⟩ hlt)
end Foot
namespace Kd
section
variable {α β:Type} {d:Kd α} {e base n n' cc g N:Nat} {ok ok' okp S:Nat→Prop} {w w0 w1 W W1:World} {A A':Option Addr} {u v v1:Value} {xs:List α} {xs':List β} {d':Kd β} {x:α} {c:List Value}
end
end Kd
end Go.Proofs.YtgjibcfkjaedfaaW.PrintWords

namespace Go.Proofs.Ytgjibcfkjaedfaa.Rec
open Go.RowKit Go.Proofs.YtgjibcfkjaedfaaW.PrintWords Go.Proofs.YtgjibcfkjaedfaaW.PrintLast Go.Proofs.YtgjibcfkjaedfaaW.PrintMore Go.Proofs.Ytgjibcfkjaedfaa.Wire Go.Proofs.Ytgjibcfkjaedfaa.Crc Go.Proofs.Ytgjibcfkjaedfaa.Pr Go.Proofs.Ytgjibcfkjaedfaa.Page
open Go.Proofs.Ytgjibcfkjaedfaa.Back (AllB)
open Go.Proofs.Ytgjibcfkjaedfaa.Pure
set_option linter.unusedVariables false
set_option linter.unusedSimpArgs false
theorem byt_E (q:Nat) (hq:q ∈ 5::(Kd.int .u8).E):q=5:=by
 simpa [Kd.int,Kd.scalar] using hq
theorem RRec.over {w w1:World} {b b':Nat} {u v:Value} {xs:List RecS} {ys:List Int} (h:RRec w b u xs) (hv:RByt w b' v ys) (hg:w.grownBy w1 v.ownBlock):RRec w1 b u xs :=
 Kd.R_over h hv (fun q hq=>by rw [rec_E q hq];decide) hg
theorem RByt.over {w w1:World} {b b':Nat} {u v:Value} {xs:List RecS} {ys:List Int} (h:RByt w b v ys) (hv:RRec w b' u xs) (hg:w.grownBy w1 u.ownBlock):RByt w1 b v ys :=
 Kd.R_over h hv (fun q hq=>by rw [byt_E q hq];decide) hg
end Go.Proofs.Ytgjibcfkjaedfaa.Rec

namespace Go.Proofs.Ytgjibcfkjaedfaa.Wal
open Go.RowKit Go.Proofs.YtgjibcfkjaedfaaW.PrintWords Go.Proofs.YtgjibcfkjaedfaaW.PrintLast Go.Proofs.YtgjibcfkjaedfaaW.PrintMore Go.Proofs.Ytgjibcfkjaedfaa.Wire Go.Proofs.Ytgjibcfkjaedfaa.Pr Go.Proofs.Ytgjibcfkjaedfaa.Rec
open Go.Proofs.Ytgjibcfkjaedfaa.Back (AllB)
set_option linter.unusedVariables false
set_option linter.unusedSimpArgs false
abbrev r1S:RecS:=⟨1,1,1,0,0,0,⟨#[]⟩,⟨#[]⟩⟩
theorem len1:(frameB (toV r1S)).length=43:=by
 rw [frame_length,body_length]
 rfl
end Go.Proofs.Ytgjibcfkjaedfaa.Wal

namespace Go.Proofs.Ytgjibcfkjaedfaa.Wal
open Go.RowKit Go.Proofs.YtgjibcfkjaedfaaW.PrintWords Go.Proofs.YtgjibcfkjaedfaaW.PrintLast Go.Proofs.YtgjibcfkjaedfaaW.PrintMore Go.Proofs.Ytgjibcfkjaedfaa.Wire Go.Proofs.Ytgjibcfkjaedfaa.Pr Go.Proofs.Ytgjibcfkjaedfaa.Rec
set_option linter.unusedVariables false
set_option linter.unusedSimpArgs false
abbrev rdN (l:List RecS) (k:Nat):RecS:=l.getD k z53
theorem rdN_eq (l:List RecS) (k:Nat):rd_T53 l (k:Int)=rdN l k:=rfl
theorem rdN_take {l:List RecS} {m k:Nat} (h:k < m):rdN (l.take m) k=rdN l k:=by
 unfold rdN
 rw [List.getD_eq_getElem?_getD,List.getD_eq_getElem?_getD,List.getElem?_take_of_lt h]
theorem rdN_left {l:List RecS} {x:RecS} {k:Nat} (h:k < l.length):rdN (l++[x]) k=rdN l k:=by
 unfold rdN
 rw [List.getD_eq_getElem?_getD,List.getD_eq_getElem?_getD,List.getElem?_append_left h]
theorem rdN_last {l:List RecS} {x:RecS}:rdN (l++[x]) l.length=x:=by
 unfold rdN
 rw [List.getD_eq_getElem?_getD,List.getElem?_append_right (Nat.le_refl _)]
 simp
theorem getF_in {l:List RecS} {n:Nat} (h:n < l.length):getF l ((n:Int)+1)=(rdN l n,0):=by
 unfold getF
 rw [if_pos (by omega),show ((n:Int)+1 - 1)=(n:Int) by omega]
 rfl
theorem getF_out {l:List RecS} {n:Nat} (h:l.length≤n):(getF l ((n:Int)+1)).2≠0:=by
 unfold getF
 rw [if_neg (by omega)]
 exact (by decide:(6:Int)≠0)
theorem cutF_in {l:List RecS} {n:Nat} (h:n≤l.length):(cutF l 0 (n:Int)).1=l.take n:=by
 unfold cutF
 rw [if_pos (withinB_iff.2 (by omega))]
 rfl
theorem take_snoc {l:List RecS} {x:RecS} {n:Nat} (h:n≤l.length):(l++[x]).take n=l.take n:=List.take_append_of_le_length h
end Go.Proofs.Ytgjibcfkjaedfaa.Wal

namespace Go.Proofs.Ytgjibcfkjaedfaa.Wal
open Go.RowKit Go.Proofs.YtgjibcfkjaedfaaW.PrintWords Go.Proofs.YtgjibcfkjaedfaaW.PrintLast Go.Proofs.YtgjibcfkjaedfaaW.PrintMore Go.Proofs.Ytgjibcfkjaedfaa.Wire Go.Proofs.Ytgjibcfkjaedfaa.Pr Go.Proofs.Ytgjibcfkjaedfaa.Rec
set_option linter.unusedVariables false
set_option linter.unusedSimpArgs false
theorem EpOk.nil:EpOk []:=fun k hk=>by simp at hk
theorem logF_epN (rs:List RecS):∀ k,k≤rs.length→EpOk (logF (rs.take k))
 | 0,_=>EpOk.nil
 | k+1,h=>by
  rw [logF_succ (by omega)]
  exact (logF_epN rs k (by omega)).app _
theorem logF_ep (rs:List RecS):EpOk (logF rs):=by
 have h:=logF_epN rs rs.length (Nat.le_refl _)
 rw [List.take_length] at h
 exact h
section
variable {x:List RecS}
theorem lsn_at (h:LogOk x) {k:Nat} (hk:k < x.length):(rdN x k).f0=(k:Int)+1:=h.lsn k hk
theorem ep_at (he:EpOk x) {k:Nat} (hk:k < x.length):wasF x k≤(rdN x k).f1:=he k hk
theorem wasN_succ (x:List RecS) (k:Nat):wasF x (k+1)=(rdN x k).f1:=wasF_succ x k
theorem markF_eq (h:LogOk x) {s:Nat} (hs:s≤x.length):markF x (s:Int)=(wasF x s,(s:Int)):=by
 unfold markF
 cases s with
 | zero=>rw [if_neg (by omega)];rfl
 | succ s =>
  rw [if_pos (by omega),show ((s+1:Nat):Int) - 1=(s:Int) by omega,wasN_succ,rdN_eq,lsn_at h (show s < x.length by omega)]
  rfl
theorem part_cons {s c:Nat} (hs:s < x.length):(x.drop s).take (c+1)=rdN x s::(x.drop (s+1)).take c:=by
 rw [List.drop_eq_getElem_cons hs,List.take_succ_cons]
 congr 1
 unfold rdN
 rw [List.getD_eq_getElem?_getD,List.getElem?_eq_getElem hs]
 rfl
theorem rdN_mem {k:Nat} (hk:k < x.length):rdN x k ∈ x:=rd_rec_mem hk
theorem chain_part (h:LogOk x) (he:EpOk x):∀ c s,s+c≤x.length→chainF (wasF x s) (s:Int) ((x.drop s).take c)=true
 | 0,s,_=>by rw [List.take_zero];rfl
 | c+1,s,hs=>by
  have hl:=lsn_at h (show s < x.length by omega)
  rw [part_cons (by omega)]
  unfold chainF
  rw [if_pos ⟨hl,ep_at he (by omega)⟩]
  have:=chain_part h he c (s+1) (by omega)
  rw [wasN_succ] at this
  rw [hl,show (s:Int)+1=((s+1:Nat):Int) by omega]
  exact this
theorem fromF_part {s:Nat} (hs:s≤x.length) (many:Int):∃ c,s+c≤x.length∧fromF x ((s:Int)+1) many=(x.drop s).take c∧(many=1→s < x.length→c=1)∧((c:Int)≤max many 0)∧(1≤many→c=min many.toNat (x.length - s)):=by
 unfold fromF
 have e1:max ((s:Int)+1) 1=(s:Int)+1:=by omega
 rw [e1]
 by_cases hc:(x.length:Int) < (s:Int)+1∨many < 1
 ·rw [if_pos hc]
  exact ⟨0,by omega,by rw [List.take_zero],fun h1 h2=>by omega,by omega,fun h=>by omega⟩
 ·rw [if_neg hc]
  refine ⟨(min many ((x.length:Int) - ((s:Int)+1)+1)).toNat,by omega,?_,fun h1 h2=>by omega,by omega,fun h=>by omega⟩
  rw [show ((s:Int)+1 - 1).toNat=s by omega]
end
end Go.Proofs.Ytgjibcfkjaedfaa.Wal

namespace Go.Proofs.Ytgjibcfkjaedfaa.Wal
open Go.RowKit Go.Proofs.YtgjibcfkjaedfaaW.PrintWords Go.Proofs.YtgjibcfkjaedfaaW.PrintLast Go.Proofs.YtgjibcfkjaedfaaW.PrintMore Go.Proofs.Ytgjibcfkjaedfaa.Wire Go.Proofs.Ytgjibcfkjaedfaa.Pr Go.Proofs.Ytgjibcfkjaedfaa.Rec
set_option linter.unusedVariables false
set_option linter.unusedSimpArgs false
def stepC (x:List RecS) (S:Int×Int×List RecS):Int×Int×List RecS :=
 if (takeF S.2.2 (markF x (S.1 - 1)).1 (markF x (S.1 - 1)).2 (fromF x S.1 5)).2.2.2=0 then
  ((ackS S.1 S.2.1 (takeF S.2.2 (markF x (S.1 - 1)).1 (markF x (S.1 - 1)).2 (fromF x S.1 5)).2.1).1,(ackS S.1 S.2.1 (takeF S.2.2 (markF x (S.1 - 1)).1 (markF x (S.1 - 1)).2 (fromF x S.1 5)).2.1).2.1,(takeF S.2.2 (markF x (S.1 - 1)).1 (markF x (S.1 - 1)).2 (fromF x S.1 5)).1)
 else ((refS S.1 S.2.1 ((takeF S.2.2 (markF x (S.1 - 1)).1 (markF x (S.1 - 1)).2 (fromF x S.1 5)).1.length:Int)).1,(refS S.1 S.2.1 ((takeF S.2.2 (markF x (S.1 - 1)).1 (markF x (S.1 - 1)).2 (fromF x S.1 5)).1.length:Int)).2.1,(takeF S.2.2 (markF x (S.1 - 1)).1 (markF x (S.1 - 1)).2 (fromF x S.1 5)).1)
def iterC (x:List RecS) (S:Int×Int×List RecS):Nat→Int×Int×List RecS
 | 0=>S
 | k+1=>stepC x (iterC x S k)
def PartsOk (x y:List RecS):Prop:=∀ i,i+1 < x.length→i+1 < y.length→(rdN x i).f1≠(rdN y i).f1→(rdN x (i+1)).f1≠(rdN y (i+1)).f1
structure Agree (x y:List RecS) (d:Nat):Prop where
 dx:d≤x.length
 dy:d≤y.length
 eq:∀ i,i < d→(rdN x i).f1=(rdN y i).f1
 ne:∀ i,d≤i→i < x.length→i < y.length→(rdN x i).f1≠(rdN y i).f1
theorem agree_ex {x y:List RecS} (h:PartsOk x y):∃ d,Agree x y d:=by
 have hn:∀ n,n≤x.length→n≤y.length→∃ d,d≤n∧(∀ i,i < d→(rdN x i).f1=(rdN y i).f1)∧∀ i,d≤i→i < n→(rdN x i).f1≠(rdN y i).f1:=by
  intro n
  induction n with
  | zero=>exact fun _ _=>⟨0,Nat.le_refl _,fun i hi=>by omega,fun i _ hi=>by omega⟩
  | succ n ih =>
   intro hx hy
   obtain ⟨d,hd,he,hne⟩:=ih (by omega) (by omega)
   by_cases hdn:d=n
   ·subst hdn
    by_cases heq:(rdN x d).f1=(rdN y d).f1
    ·refine ⟨d+1,Nat.le_refl _,fun i hi=>?_,fun i h1 h2=>by omega⟩
     by_cases hi2:i < d
     ·exact he i hi2
     ·have:i=d:=by omega
      subst this
      exact heq
    ·refine ⟨d,by omega,he,fun i h1 h2=>?_⟩
     have:i=d:=by omega
     subst this
     exact heq
   ·refine ⟨d,by omega,he,fun i h1 h2=>?_⟩
    by_cases hi2:i < n
    ·exact hne i h1 hi2
    ·have:i=n:=by omega
     subst this
     obtain ⟨k,rfl⟩:∃ k,i=k+1:=⟨i - 1,by omega⟩
     exact h k (by omega) (by omega) (hne k (by omega) (by omega))
 obtain ⟨d,hd,he,hne⟩:=hn (min x.length y.length) (by omega) (by omega)
 exact ⟨d,by omega,by omega,he,fun i h1 h2 h3=>hne i h1 (by omega)⟩
def Ends (x z:List RecS) (q:Nat):Prop:=z.length=q∧∀ i,i < q→(rdN x i).f1=(rdN z i).f1
section
variable {x y z:List RecS} {d q s c M:Nat}
theorem Ends.last (h:Ends x z q):lastE z=wasF x q:=by
 rw [← wasF_last,h.1]
 cases q with
 | zero=>rfl
 | succ k=>rw [wasN_succ,wasN_succ,h.2 k (by omega)]
theorem app_ends (h:LogOk x) (he:EpOk x) (hq:q < x.length) (hz:Ends x z q):appF z (rdN x q)=(z++[rdN x q],(q:Int)+1,0)∧Ends x (z++[rdN x q]) (q+1):=by
 have hw:withLsn (rdN x q) ((q:Int)+1)=rdN x q:=by
  have:=lsn_at h hq
  rw [← this]
  rfl
 have h1:=h.right _ (rdN_mem hq)
 have h2:=h.len
 constructor
 ·unfold appF
  rw [hz.1,hw,if_pos h1,hz.last,if_neg (by have:=ep_at he hq;omega),if_neg (by omega)]
 ·refine ⟨by rw [List.length_append,hz.1,List.length_singleton],fun i hi=>?_⟩
  by_cases hi2:i < q
  ·rw [rdN_left (by have:=hz.1;omega)]
   exact hz.2 i hi2
  ·have:i=z.length:=by have:=hz.1;omega
   subst this
   rw [rdN_last,hz.1]
theorem takeK_ends (h:LogOk x) (he:EpOk x):∀ c q (z:List RecS) (cut:Bool) (last:Int),q+c≤x.length→Ends x z q→∃ z',takeK z cut last ((x.drop q).take c)=(z',(if c=0 then last else ((q+c:Nat):Int)),cut,0)∧Ends x z' (q+c)
 | 0,q,z,cut,last,_,hz=>⟨z,by rw [List.take_zero];rfl,hz⟩
 | c+1,q,z,cut,last,hc,hz=>by
  have hl:=lsn_at h (show q < x.length by omega)
  obtain ⟨ha,hz1⟩:=app_ends h he (show q < x.length by omega) hz
  obtain ⟨z',hk,hz'⟩:=takeK_ends h he c (q+1) (z++[rdN x q]) cut (rdN x q).f0 (by omega) hz1
  have hg:=getF_out (l:=z) (n:=q) (by have:=hz.1;omega)
  rw [← hl] at hg
  refine ⟨z',?_,by rw [show q+(c+1)=q+1+c by omega];exact hz'⟩
  rw [part_cons (by omega)]
  unfold takeK
  rw [takeStep_c (G:=getF z (rdN x q).f0) rfl hg ha]
  dsimp only
  rw [if_pos rfl,Bool.or_false,hk]
  refine Prod.ext rfl (Prod.ext ?_ rfl)
  show (if c=0 then (rdN x q).f0 else ((q+1+c:Nat):Int))=(if c+1=0 then last else ((q+(c+1):Nat):Int))
  rw [if_neg (show ¬ c+1=0 by omega),hl]
  split
  ·omega
  ·omega
theorem Agree.take (h:Agree x y d):Ends x (y.take d) d:=⟨by rw [List.length_take];have:=h.dy;omega,fun i hi=>by rw [rdN_take hi];exact h.eq i hi⟩
theorem takeK_mix (h:LogOk x) (he:EpOk x) (hg:Agree x y d):∀ c s (cut:Bool) (last:Int),s+c≤x.length→s≤d→∃ y' cut',takeK y cut last ((x.drop s).take c)=(y',(if c=0 then last else ((s+c:Nat):Int)),cut',0)∧((s+c≤d∧y'=y)∨(d < s+c∧Ends x y' (s+c)))
 | 0,s,cut,last,_,hs=>⟨y,cut,by rw [List.take_zero];rfl,.inl ⟨hs,rfl⟩⟩
 | c+1,s,cut,last,hc,hs=>by
  have hl:=lsn_at h (show s < x.length by omega)
  have hdy:=hg.dy
  have key:∀ (z:List RecS) (cut2:Bool),takeStep y (rdN x s)=(z,cut2,0)→(∃ y' cut',takeK z (cut || cut2) (rdN x s).f0 ((x.drop (s+1)).take c)=(y',(if c=0 then (rdN x s).f0 else ((s+1+c:Nat):Int)),cut',0)∧((s+1+c≤d∧y'=y)∨(d < s+1+c∧Ends x y' (s+1+c)))) →
    ∃ y' cut',takeK y cut last ((x.drop s).take (c+1))=(y',(if c+1=0 then last else ((s+(c+1):Nat):Int)),cut',0)∧((s+(c+1)≤d∧y'=y)∨(d < s+(c+1)∧Ends x y' (s+(c+1)))):=by
   rintro z cut2 hst ⟨y',cut',hk,hy⟩
   rw [show s+(c+1)=s+1+c by omega]
   refine ⟨y',cut',?_,hy⟩
   rw [part_cons (by omega)]
   unfold takeK
   rw [hst]
   dsimp only
   rw [if_pos rfl,hk]
   refine Prod.ext rfl (Prod.ext ?_ rfl)
   show (if c=0 then (rdN x s).f0 else ((s+1+c:Nat):Int))=(if c+1=0 then last else ((s+1+c:Nat):Int))
   rw [if_neg (show ¬ c+1=0 by omega),hl]
   split
   ·omega
   ·omega
  by_cases hsd:s < d
  ·have hgf:=getF_in (l:=y) (n:=s) (by omega)
   rw [← hl] at hgf
   exact key y false (takeStep_a hgf rfl (hg.eq s hsd).symm) (takeK_mix h he hg c (s+1) _ _ (by omega) (by omega))
  ·have:s=d:=by omega
   subst this
   obtain ⟨ha,hz⟩:=app_ends h he (show s < x.length by omega) hg.take
   by_cases hdl:s < y.length
   ·have hgf:=getF_in (l:=y) (n:=s) hdl
    rw [← hl] at hgf
    have hst:=takeStep_b hgf rfl (fun e=>hg.ne s (Nat.le_refl _) (by omega) hdl e.symm) (q:=(y.take s++[rdN x s],(s:Int)+1,0)) (by rw [hl,show ((s:Int)+1 - 1)=(s:Int) by omega,cutF_in (by omega)];exact ha)
    refine key _ true hst ?_
    obtain ⟨z',hk,hz'⟩:=takeK_ends h he c (s+1) _ (cut || true) (rdN x s).f0 (by omega) hz
    exact ⟨z',_,hk,.inr ⟨by omega,hz'⟩⟩
   ·have hye:y.take s=y:=List.take_of_length_le (by omega)
    rw [hye] at ha hz
    have hgf:=getF_out (l:=y) (n:=s) (by omega)
    rw [← hl] at hgf
    have hst:=takeStep_c (G:=getF y (rdN x s).f0) rfl hgf ha
    refine key _ false hst ?_
    obtain ⟨z',hk,hz'⟩:=takeK_ends h he c (s+1) _ (cut || false) (rdN x s).f0 (by omega) hz
    exact ⟨z',_,hk,.inr ⟨by omega,hz'⟩⟩
theorem takeF_fit (h:LogOk x) (he:EpOk x) (hg:Agree x y d) (hc:s+c≤x.length) (hs:s≤d):∃ y' cut',takeF y (wasF x s) (s:Int) ((x.drop s).take c)=(y',((s+c:Nat):Int),cut',0)∧((s+c≤d∧y'=y)∨(d < s+c∧Ends x y' (s+c))):=by
 have hall:allR ((x.drop s).take c):=fun r hr=>h.right r (List.mem_of_mem_drop (List.mem_of_mem_take hr))
 have hch:=chain_part h he c s hc
 have hdy:=hg.dy
 have hf:fitsF y (wasF x s) (s:Int) ((x.drop s).take c)=true:=by
  unfold fitsF
  rw [if_neg,hch]
  rintro ⟨h0,h1⟩
  obtain ⟨k,rfl⟩:∃ k,s=k+1:=⟨s - 1,by omega⟩
  have hgf:=getF_in (l:=y) (n:=k) (by omega)
  rw [show ((k+1:Nat):Int)=(k:Int)+1 by omega,hgf,wasN_succ] at h1
  rcases h1 with h1|h1
  ·exact h1 rfl
  ·exact h1 (hg.eq k (by omega)).symm
 rw [takeF_go hall (by omega) hf]
 obtain ⟨y',cut',hk,hy⟩:=takeK_mix h he hg c s false (s:Int) hc hs
 refine ⟨y',cut',?_,hy⟩
 rw [hk]
 refine Prod.ext rfl (Prod.ext ?_ rfl)
 show (if c=0 then (s:Int) else ((s+c:Nat):Int))=((s+c:Nat):Int)
 split
 ·omega
 ·rfl
theorem takeF_unfit (h:LogOk x) (hg:Agree x y d) (hs:d < s) (hsx:s≤x.length) (c:Nat):takeF y (wasF x s) (s:Int) ((x.drop s).take c)=(y,0,false,200):=by
 have hall:allR ((x.drop s).take c):=fun r hr=>h.right r (List.mem_of_mem_drop (List.mem_of_mem_take hr))
 refine takeF_gap hall (by omega) ?_
 unfold fitsF
 rw [if_pos]
 obtain ⟨k,rfl⟩:∃ k,s=k+1:=⟨s - 1,by omega⟩
 refine ⟨by omega,?_⟩
 rw [show ((k+1:Nat):Int)=(k:Int)+1 by omega]
 by_cases hk:k < y.length
 ·rw [getF_in hk,wasN_succ]
  exact .inr (fun e=>hg.ne k (by omega) (by omega) hk e.symm)
 ·exact .inl (getF_out (by omega))
def farC (x:List RecS) (X M n:Nat):Nat:=(x.length - M)+(if X=M+1 then 0 else if n < X - 1 then 2 else 1)
structure InvC (x:List RecS) (X M:Nat) (y:List RecS):Prop where
 ag:∃ d,Agree x y d∧M≤d
 lt:M < X
 hi:X≤x.length+1
theorem Ends.agree (h:Ends x y q) (hq:q≤x.length):Agree x y q:=⟨hq,by have:=h.1;omega,h.2,fun i h1 h2 h3=>by have:=h.1;omega⟩
theorem step_inv (h:LogOk x) (he:EpOk x) {X:Nat} (hi:InvC x X M y):∃ (X' M':Nat) (y':List RecS),stepC x ((X:Int),(M:Int),y)=((X':Int),(M':Int),y')∧InvC x X' M' y'∧farC x X' M' y'.length≤farC x X M y.length - 1:=by
 obtain ⟨⟨d,hg,hMd⟩,hlt,hhi⟩:=hi
 obtain ⟨s,rfl⟩:∃ s,X=s+1:=⟨X - 1,by omega⟩
 have hlen:=h.len
 have hdx:=hg.dx
 obtain ⟨c,hc,hfr,_,_,hcm⟩:=fromF_part (x:=x) (s:=s) (by omega) 5
 have hc5:=hcm (by decide)
 have hX:((s+1:Nat):Int) - 1=(s:Int):=by omega
 have hX2:((s+1:Nat):Int)=(s:Int)+1:=by omega
 unfold stepC
 dsimp only
 rw [hX,hX2,hfr,markF_eq h (by omega)]
 dsimp only
 by_cases hs:s≤d
 ·obtain ⟨y',cut',ht,hy⟩:=takeF_fit h he hg hc hs
  rw [ht]
  dsimp only
  rw [if_pos rfl]
  have hag:∃ d',Agree x y' d'∧s+c≤d':=by
   rcases hy with ⟨h1,rfl⟩|⟨h1,h2⟩
   ·exact ⟨d,hg,h1⟩
   ·exact ⟨_,h2.agree hc,Nat.le_refl _⟩
  unfold ackS
  by_cases hn:((s+c:Nat):Int)≤(M:Int)∨(1099511627776:Int)≤((s+c:Nat):Int)
  ·rw [if_pos hn]
   have hML:M=x.length:=by omega
   have hsM:s=M:=by omega
   obtain ⟨d',hd1,hd2⟩:=hag
   refine ⟨s+1,M,y',Prod.ext (by show _=((s+1:Nat):Int);omega) rfl,⟨⟨d',hd1,by omega⟩,by omega,by omega⟩,?_⟩
   unfold farC
   rw [if_pos (by omega),if_pos (by omega)]
   omega
  ·rw [if_neg hn]
   obtain ⟨d',hd1,hd2⟩:=hag
   refine ⟨s+c+1,s+c,y',Prod.ext (by show _=((s+c+1:Nat):Int);omega) rfl,⟨⟨d',hd1,hd2⟩,by omega,by omega⟩,?_⟩
   unfold farC
   rw [if_pos rfl]
   omega
 ·rw [takeF_unfit h hg (by omega) (by omega) c]
  dsimp only
  rw [if_neg (by decide)]
  unfold refS
  rw [if_neg (by omega)]
  by_cases hr:(M:Int) < (y.length:Int)∧(y.length:Int) < (s:Int)+1 - 1
  ·rw [if_pos hr]
   refine ⟨y.length+1,M,y,Prod.ext (by show _=((y.length+1:Nat):Int);omega) rfl,⟨⟨d,hg,hMd⟩,by omega,by omega⟩,?_⟩
   unfold farC
   rw [if_neg (by omega),if_neg (by omega),if_neg (by omega),if_pos (by omega)]
   omega
  ·rw [if_neg hr]
   refine ⟨M+1,M,y,Prod.ext (by show _=((M+1:Nat):Int);omega) rfl,⟨⟨d,hg,hMd⟩,by omega,by omega⟩,?_⟩
   unfold farC
   rw [if_pos rfl,if_neg (by omega)]
   split <;> omega
theorem iter_inv (h:LogOk x) (he:EpOk x) {X:Nat} (hi:InvC x X M y):∀ k,∃ (X' M':Nat) (y':List RecS),iterC x ((X:Int),(M:Int),y) k=((X':Int),(M':Int),y')∧InvC x X' M' y'∧farC x X' M' y'.length≤farC x X M y.length - k
 | 0=>⟨X,M,y,rfl,hi,Nat.le_refl _⟩
 | k+1=>by
  obtain ⟨X1,M1,y1,e1,h1,f1⟩:=iter_inv h he hi k
  obtain ⟨X2,M2,y2,e2,h2,f2⟩:=step_inv h he h1
  exact ⟨X2,M2,y2,by show stepC x (iterC x _ k)=_;rw [e1,e2],h2,by omega⟩
theorem comes_end (h:LogOk x) (he:EpOk x) (hp:PartsOk x y) {X N:Nat} (h1:1≤X) (h2:X≤x.length+1) (hN:x.length+3≤N):∃ (X':Nat) (y':List RecS),iterC x ((X:Int),0,y) N=((X':Int),(x.length:Int),y')∧x.length≤y'.length∧∀ i,i < x.length→(rdN x i).f1=(rdN y' i).f1:=by
 obtain ⟨d,hd⟩:=agree_ex hp
 obtain ⟨X',M',y',e,⟨⟨d',hd',hM⟩,hlt,hhi⟩,f⟩:=iter_inv (M:=0) h he ⟨⟨d,hd,Nat.zero_le _⟩,h1,h2⟩ N
 have hf:farC x X 0 y.length≤x.length+2:=by
  unfold farC
  split
  ·omega
  ·split <;> omega
 have hdx:=hd'.dx
 have h0:farC x X' M' y'.length=0:=by omega
 unfold farC at h0
 have hML:M'=x.length:=by omega
 subst hML
 exact ⟨X',y',e,by have:=hd'.dy;omega,fun i hi=>hd'.eq i (by omega)⟩
end
end Go.Proofs.Ytgjibcfkjaedfaa.Wal

namespace Go.Proofs.Ytgjibcfkjaedfaa.Wal
open Go.RowKit Go.Proofs.YtgjibcfkjaedfaaW.PrintWords Go.Proofs.YtgjibcfkjaedfaaW.PrintLast Go.Proofs.YtgjibcfkjaedfaaW.PrintMore Go.Proofs.Ytgjibcfkjaedfaa.Wire Go.Proofs.Ytgjibcfkjaedfaa.Pr Go.Proofs.Ytgjibcfkjaedfaa.Rec
set_option linter.unusedVariables false
set_option linter.unusedSimpArgs false
def eqE (x y:List RecS) (k:Nat):Bool:=(rdN x k).f1==(rdN y k).f1
def sameE (x y:List RecS):Nat→Bool
  | 0=>true
  | k+1=>eqE x y k
def PartsTo (x y:List RecS) (k:Nat):Prop:=∀ i,i+1 < k→(rdN x i).f1≠(rdN y i).f1→(rdN x (i+1)).f1≠(rdN y (i+1)).f1
theorem PartsTo.step {x y:List RecS} {k:Nat} (h:PartsTo x y k) (hs:¬ (eqE x y k=true∧sameE x y k=false)):PartsTo x y (k+1):=by
  intro i hi hne
  by_cases hik:i+1 < k
  · exact h i hik hne
  · have:k=i+1:=by omega
    subst this
    intro heq
    exact hs ⟨by unfold eqE;rw [heq];exact beq_self_eq_true _,by show eqE x y i=false;unfold eqE;exact beq_eq_false_iff_ne.2 hne⟩
theorem parts_measure {k M:Nat} (h:k < M):M+1 - (intOf (.int .i64 ((k:Int)+1+1))).toNat < M+1 - (intOf (.int .i64 ((k:Int)+1))).toNat:=by
  show M+1 - ((k:Int)+1+1).toNat < M+1 - ((k:Int)+1).toNat
  omega
def PtIn (w:World) (x y:List RecS) (v7 v8:Value) (wr:World):Prop :=
  ∃ k:Nat,v7=.bool (sameE x y k)∧v8=.int .i64 ((k:Int)+1)∧k≤x.length∧k≤y.length∧Aside0 (PartsTo x y k)∧Aside0 (Below w.heap.size w wr)
set_option maxHeartbeats 16000000 in
set_option maxRecDepth 100000 in
theorem parts_ok {w:World} {okx oky:Nat→Prop} {gx gy:Nat} {x y:List RecS} (hx:LogAt 98 w okx gx x 0) (hy:LogAt 98 w oky gy y 0) (hlx:x.length≤65536) (hly:y.length≤65536) :
    Calls Try.prog 31 #[.pointer (some ⟨gx,0,none⟩),.pointer (some ⟨gy,0,none⟩),.int .i64 (x.length:Int)] w fun e w'=>(∃ b:Bool,e=.returned (.bool b)∧(b=true→PartsOk x y))∧Below w.heap.size w w':=by
  have HGX:=Aside0.mk (fun (W:World) (hB:Below w.heap.size w W) (n:Int)=>get_ok (hx.below hB) (by omega) n)
  have HGY:=Aside0.mk (fun (W:World) (hB:Below w.heap.size w W) (n:Int)=>get_ok (hy.below hB) (by omega) n)
  have HLX:=Aside0.mk hlx
  have HB:=Aside0.mk (Below.refl w.heap.size w)
  clear hx hy hlx hly
  go_enter Try.func31,Try.ntmps31
  go_wp2
  go_loopw [7,8] (fun v7 v8 wr=>PtIn w x y v7 v8 wr) (fun _ v8 _=>x.length+1 - (intOf v8).toNat)
  case atStart=>exact ⟨0,rfl,rfl,Nat.zero_le _,Nat.zero_le _,⟨fun i hi=>by omega⟩,HB⟩
  case round =>
    clear HB
    obtain ⟨k,rfl,rfl,hkx,hky,HP,HB⟩:=hrel
    by_cases hlt:k < x.length
    · have g1:decide ((k:Int)+1≤(x.length:Int))=true:=decide_eq_true (by omega)
      have g1':(k:Int)+1≤(x.length:Int):=by omega
      have hw:IntKind.i64.wrap ((k:Int)+1+1)=(k:Int)+1+1:=by have:=HLX.out;rw [IntKind.wrap_i64];omega
      have hgx:=HGX.out _ HB.out ((k:Int)+1)
      rw [getF_in hlt] at hgx
      have HEP:=Aside0.mk (PartsTo.step (k:=k) HP.out)
      have HSM:Aside0 (sameE x y (k+1)=eqE x y k):=⟨rfl⟩
      generalize hsm:sameE x y k=sm at HEP
      by_cases hlty:k < y.length
      · have HGY2:=Aside0.mk (fun (W:World) (hB:Below w.heap.size w W)=>HGY.out W hB ((k:Int)+1))
        rw [getF_in hlty] at HGY2
        have heq:eqE x y k=((rdN x k).f1==(rdN y k).f1):=rfl
        rw [heq] at HEP HSM
        generalize rdN x k=a at hgx HEP HSM
        generalize rdN y k=b at HGY2 HEP HSM
        obtain ⟨a0,a1,a2,a3,a4,a5,a6,a7⟩:=a
        obtain ⟨b0,b1,b2,b3,b4,b5,b6,b7⟩:=b
        dsimp only at hgx HGY2 HEP HSM
        have HK:=Aside0.mk (And.intro hlt hlty)
        generalize hq:(a1==b1)=q at HEP HSM
        clear heq hlty hlt hkx hky hsm
        cases q
        all_goals cases sm
        all_goals
          go_wp2_with (first
            | (go_at_call 47;(with_reducible refine hgx.mono ?_);rintro e w2 ⟨rfl,hB⟩;(have HRX:=Aside0.mk (rc_new w2 a0 a1 a2 a3 a4 a5 a6 a7));(replace HB:=Aside0.mk (below_from2 HB.out (Nat.le_refl _) (below_alloc hB (.cells #[.int .i64 a0,.int .i64 a1,.int .i64 a2,.int .i64 a3,.int .i64 a4,.int .i64 a5,.string a6,.string a7] 53))));(have hgy:=HGY2.out _ HB.out);clear hB hgx)
            | (go_at_call 47;(with_reducible refine hgy.mono ?_);rintro e w3 ⟨rfl,hB⟩;(have HRY:=Aside0.mk (rc_new w3 b0 b1 b2 b3 b4 b5 b6 b7));(have hB2:=below_alloc hB (.cells #[.int .i64 b0,.int .i64 b1,.int .i64 b2,.int .i64 b3,.int .i64 b4,.int .i64 b5,.string b6,.string b7] 53));(replace HRX:=Aside0.mk (HRX.out.below hB2));(replace HB:=Aside0.mk (below_from2 HB.out (Nat.le_refl _) hB2));obtain ⟨⟨c0,c1,c2,c3,c4,c5,c6,c7⟩,_⟩:=HRX.out.cells;obtain ⟨⟨d0,d1,d2,d3,d4,d5,d6,d7⟩,_⟩:=HRY.out.cells;clear hB hB2 hgy))
          first
            | (go_ret
               exact ⟨⟨false,rfl,fun h=>absurd h (by decide)⟩,HB.out⟩)
            | (go_roundw
               case rel=>exact ⟨k+1,by rw [HSM.out],by show Value.int .i64 ((k:Int)+1+1)=Value.int .i64 (((k+1:Nat):Int)+1);congr 1,by have:=HK.out.1;omega,by have:=HK.out.2;omega,⟨HEP.out (by decide)⟩,HB⟩
               case measure=>exact parts_measure HK.out.1)
      · have HGY2:=Aside0.mk (fun (W:World) (hB:Below w.heap.size w W)=>HGY.out W hB ((k:Int)+1))
        have hout:=getF_out (l:=y) (n:=k) (by omega)
        generalize getF y ((k:Int)+1)=G at HGY2 hout
        obtain ⟨⟨b0,b1,b2,b3,b4,b5,b6,b7⟩,ge⟩:=G
        dsimp only at HGY2 hout
        have e1:(ge==0)=false:=beq_eq_false_iff_ne.2 hout
        have e1n:(ge != 0)=true:=by simp [bne,e1]
        generalize rdN x k=a at hgx
        obtain ⟨a0,a1,a2,a3,a4,a5,a6,a7⟩:=a
        dsimp only at hgx
        have HPO:Aside0 (PartsOk x y):=⟨fun i h1 h2=>HP.out i (by omega)⟩
        clear hout hlty hlt hkx hky hsm
        go_wp2_with (first
          | (go_at_call 47;(with_reducible refine hgx.mono ?_);rintro e w2 ⟨rfl,hB⟩;(replace HB:=Aside0.mk (below_from2 HB.out (Nat.le_refl _) (below_alloc hB (.cells #[.int .i64 a0,.int .i64 a1,.int .i64 a2,.int .i64 a3,.int .i64 a4,.int .i64 a5,.string a6,.string a7] 53))));(have hgy:=HGY2.out _ HB.out);clear hB hgx)
          | (go_at_call 47;(with_reducible refine hgy.mono ?_);rintro e w3 ⟨rfl,hB⟩;(replace HB:=Aside0.mk (below_from2 HB.out (Nat.le_refl _) (below_alloc hB (.cells #[.int .i64 b0,.int .i64 b1,.int .i64 b2,.int .i64 b3,.int .i64 b4,.int .i64 b5,.string b6,.string b7] 53))));clear hB hgy))
        go_ret
        exact ⟨⟨true,rfl,fun _=>HPO.out⟩,HB.out⟩
    · have g1:decide ((k:Int)+1≤(x.length:Int))=false:=decide_eq_false (by omega)
      have g1':¬ (k:Int)+1≤(x.length:Int):=by omega
      have HPO:Aside0 (PartsOk x y):=⟨fun i h1 h2=>HP.out i (by omega)⟩
      go_wp2
      go_ret
      first
        | exact ⟨⟨true,rfl,fun _=>HPO.out⟩,HB.out⟩
        | exact ⟨.inr ⟨rfl,HPO.out⟩,HB.out⟩
def LnIn (w:World) (n:Nat) (v7:Value) (wr:World):Prop:=∃ k:Nat,v7=.int .i64 ((k:Int)+1)∧k≤n∧Aside0 (Below w.heap.size w wr)
set_option maxHeartbeats 16000000 in
set_option maxRecDepth 100000 in
theorem line_ok {w:World} {okx oky:Nat→Prop} {gx gy:Nat} {x y:List RecS} (hx:LogAt 98 w okx gx x 0) (hy:LogAt 98 w oky gy y 0) (hlx:x.length≤65536) (hly:y.length≤65536) (hxy:x.length≤y.length) (hep:∀ i,i < x.length→(rdN x i).f1=(rdN y i).f1) :
    Calls Try.prog 32 #[.pointer (some ⟨gx,0,none⟩),.pointer (some ⟨gy,0,none⟩),.int .i64 (x.length:Int)] w fun e w'=>e=.returned (.bool true)∧Below w.heap.size w w':=by
  have HGX:=Aside0.mk (fun (W:World) (hB:Below w.heap.size w W) (n:Int)=>get_ok (hx.below hB) (by omega) n)
  have HGY:=Aside0.mk (fun (W:World) (hB:Below w.heap.size w W) (n:Int)=>get_ok (hy.below hB) (by omega) n)
  have HLX:=Aside0.mk (And.intro hlx hxy)
  have HEP:=Aside0.mk hep
  have HB:=Aside0.mk (Below.refl w.heap.size w)
  clear hx hy hlx hly hxy hep
  go_enter Try.func32,Try.ntmps32
  go_wp2
  go_loopw [7] (fun v7 wr=>LnIn w x.length v7 wr) (fun v7 _=>x.length+1 - (intOf v7).toNat)
  case atStart=>exact ⟨0,rfl,Nat.zero_le _,HB⟩
  case round =>
    clear HB
    obtain ⟨k,rfl,hkx,HB⟩:=hrel
    by_cases hlt:k < x.length
    · have g1:decide ((k:Int)+1≤(x.length:Int))=true:=decide_eq_true (by omega)
      have g1':(k:Int)+1≤(x.length:Int):=by omega
      have hw:IntKind.i64.wrap ((k:Int)+1+1)=(k:Int)+1+1:=by have:=HLX.out.1;rw [IntKind.wrap_i64];omega
      have hgx:=HGX.out _ HB.out ((k:Int)+1)
      rw [getF_in hlt] at hgx
      have HGY2:=Aside0.mk (fun (W:World) (hB:Below w.heap.size w W)=>HGY.out W hB ((k:Int)+1))
      rw [getF_in (by have:=HLX.out.2;omega)] at HGY2
      have heq:=HEP.out k hlt
      generalize rdN x k=a at hgx heq
      generalize rdN y k=b at HGY2 heq
      obtain ⟨a0,a1,a2,a3,a4,a5,a6,a7⟩:=a
      obtain ⟨b0,b1,b2,b3,b4,b5,b6,b7⟩:=b
      dsimp only at hgx HGY2 heq
      subst heq
      have HK:=Aside0.mk hlt
      have q1:(a1==a1)=true:=by simp
      have q1n:(a1 != a1)=false:=by simp
      clear hlt hkx
      go_wp2_with (first
        | (go_at_call 47;(with_reducible refine hgx.mono ?_);rintro e w2 ⟨rfl,hB⟩;(have HRX:=Aside0.mk (rc_new w2 a0 a1 a2 a3 a4 a5 a6 a7));(replace HB:=Aside0.mk (below_from2 HB.out (Nat.le_refl _) (below_alloc hB (.cells #[.int .i64 a0,.int .i64 a1,.int .i64 a2,.int .i64 a3,.int .i64 a4,.int .i64 a5,.string a6,.string a7] 53))));(have hgy:=HGY2.out _ HB.out);clear hB hgx)
        | (go_at_call 47;(with_reducible refine hgy.mono ?_);rintro e w3 ⟨rfl,hB⟩;(have HRY:=Aside0.mk (rc_new w3 b0 a1 b2 b3 b4 b5 b6 b7));(have hB2:=below_alloc hB (.cells #[.int .i64 b0,.int .i64 a1,.int .i64 b2,.int .i64 b3,.int .i64 b4,.int .i64 b5,.string b6,.string b7] 53));(replace HRX:=Aside0.mk (HRX.out.below hB2));(replace HB:=Aside0.mk (below_from2 HB.out (Nat.le_refl _) hB2));obtain ⟨⟨c0,c1,c2,c3,c4,c5,c6,c7⟩,_⟩:=HRX.out.cells;obtain ⟨⟨d0,d1,d2,d3,d4,d5,d6,d7⟩,_⟩:=HRY.out.cells;clear hB hB2 hgy))
      go_roundw
      case rel=>exact ⟨k+1,by show Value.int .i64 ((k:Int)+1+1)=Value.int .i64 (((k+1:Nat):Int)+1);congr 1,by have:=HK.out;omega,HB⟩
      case measure=>exact parts_measure HK.out
    · have g1:decide ((k:Int)+1≤(x.length:Int))=false:=decide_eq_false (by omega)
      have g1':¬ (k:Int)+1≤(x.length:Int):=by omega
      go_wp2
      go_ret
      exact ⟨rfl,HB.out⟩
end Go.Proofs.Ytgjibcfkjaedfaa.Wal

namespace Go.Proofs.Ytgjibcfkjaedfaa.Wal
open Go.RowKit Go.Proofs.YtgjibcfkjaedfaaW.PrintWords Go.Proofs.YtgjibcfkjaedfaaW.PrintLast Go.Proofs.YtgjibcfkjaedfaaW.PrintMore Go.Proofs.Ytgjibcfkjaedfaa.Wire Go.Proofs.Ytgjibcfkjaedfaa.Pr Go.Proofs.Ytgjibcfkjaedfaa.Rec
set_option linter.unusedVariables false
set_option linter.unusedSimpArgs false
structure Cs (w W:World) (okx:Nat→Prop) (gx gy base sg:Nat) (x y:List RecS) (nx mt:Int):Prop where
 lx:LogAt 98 W okx gx x 0
 ly:LogAt 98 W (fun k=>base≤k∧k≠sg) gy y 0
 sn:SnAt 101 W sg nx mt
 bx:∀ k,okx k→k < base
 bs:base≤sg
 b0:w.heap.size≤base
 bw:Below w.heap.size w W
section
variable {w W W1:World} {okx:Nat→Prop} {gx gy base sg:Nat} {x y y1:List RecS} {nx mt a b:Int}
theorem Cs.below (h:Cs w W okx gx gy base sg x y nx mt) (hB:Below W.heap.size W W1):Cs w W1 okx gx gy base sg x y nx mt:=⟨h.lx.below hB,h.ly.below hB,h.sn.below hB,h.bx,h.bs,h.b0,below_from2 h.bw (Nat.le_refl _) hB⟩
theorem Cs.onY {ok:Nat→Prop} (h:Cs w W okx gx gy base sg x y nx mt) (hk:∀ k,ok k→base≤k∧k≠sg) (hL:LogAt 98 W1 (fun k=>ok k∨W.heap.size≤k) gy y1 0) (hC:Chg W W1 ok):Cs w W1 okx gx gy base sg x y1 nx mt:=by
 have hs:=h.sn.lt
 refine ⟨h.lx.chg hC (fun k hx _ hs=>?_),hL.mono (fun k hs=>?_),h.sn.chg hC (fun e=>(hk _ e).2 rfl),h.bx,h.bs,h.b0,h.bw.trans (hC.below h.bw.size (fun k hs=>Nat.le_trans h.b0 (hk k hs).1))⟩
 ·have:=h.bx k hx
  have:=(hk k hs).1
  omega
 ·rcases hs with hs|hs
  ·exact hk k hs
  ·have:=h.bs
   exact ⟨by omega,by omega⟩
theorem Cs.onS (h:Cs w W okx gx gy base sg x y nx mt) (hS:SnAt 101 W1 sg a b) (hC:Chg W W1 (fun k=>k=sg)):Cs w W1 okx gx gy base sg x y a b :=
 ⟨h.lx.chg hC (fun k hx _ e=>by have:=h.bx k hx;have:=h.bs;omega),h.ly.chg hC (fun k hk _ e=>hk.2 e),hS,h.bx,h.bs,h.b0,h.bw.trans (hC.below h.bw.size (fun k hs=>by rw [hs];exact Nat.le_trans h.b0 h.bs))⟩
end
def CmIn (w:World) (n:Nat) (S0:Int×Int×List RecS) (okx:Nat→Prop) (gx gy base sg:Nat) (x:List RecS) (v17:Value) (wr:World):Prop :=
 ∃ (i:Nat) (nx mt:Int) (y:List RecS),v17=.int .i64 i∧i≤n∧Aside0 (iterC x S0 i=(nx,mt,y))∧Aside0 (SnOk nx mt)∧Aside0 (LogOk y)∧Aside0 (Cs w wr okx gx gy base sg x y nx mt)
theorem comes_measure {i M:Nat} (h:i < M):M - (intOf (.int .i64 ((i:Int)+1))).toNat < M - (intOf (.int .i64 (i:Int))).toNat:=by
 show M - ((i:Int)+1).toNat < M - ((i:Int)).toNat
 omega
set_option maxHeartbeats 16000000 in
set_option maxRecDepth 100000 in
theorem shipComes_ok (A0:Option Addr) (c0:Nat) (rs:List RecS) (A1:Option Addr) (c1:Nat) (ot:List RecS) (nx0:Int) (w:World) (hr0:Kd.C kRec w A0 rs.length rs) (hv0:∀ x ∈ rs,x.f7.size≤140737488351232) (hr1:Kd.C kRec w A1 ot.length ot) (hv1:∀ x ∈ ot,x.f7.size≤140737488351232) :
  Calls Try.prog 8 #[.slice A0 rs.length c0,.slice A1 ot.length c1,.int .i64 nx0] w fun e w'=>e=.returned (.bool true)∧Below w.heap.size w w':=by
 have hbo:=both_ok A0 c0 rs w hr0 hv0
 have HBO2:=Aside0.mk (fun (W:World) (hB:Below w.heap.size w W)=>both_ok A1 c1 ot W (Kd.C_below hr1 hB) hv1)
 have HLO:=Aside0.mk (logF_ok rs)
 have HEP:=Aside0.mk (logF_ep rs)
 have HLY:=Aside0.mk (logF_ok ot)
 generalize logF rs=x at hbo HLO HEP
 generalize logF ot=y at HBO2 HLY
 have HLA:=Aside0.mk (fun (W:World) (ok:Nat→Prop) (g:Nat) (h:LogAt 98 W ok g x 0)=>last_okB h (by have:=HLO.out.len;omega))
 have HLB:=Aside0.mk (fun (W:World) (ok:Nat→Prop) (g:Nat) (h:LogAt 98 W ok g y 0)=>last_okB h (by have:=HLY.out.len;omega))
 clear hr0 hv0 hr1 hv1
 go_enter Try.func8,Try.ntmps8
 go_upto_region 5 with (first
  | (go_at_call 14;(with_reducible refine hbo.mono ?_);rintro e w1 ⟨gx,gx',rfl,hT,hB⟩;(have HB:=Aside0.mk hB);obtain ⟨ok0,ok0',q1,q2,q3,q4,q5⟩:=hT;(have HQ1:=Aside0.mk q1.bound);(have hbo2:=HBO2.out _ hB);clear hB hbo q1 q2 q3 q4 q5)
  | (go_at_call 14;(with_reducible refine hbo2.mono ?_);rintro e w2 ⟨gy,gy',rfl,hT,hB⟩;obtain ⟨ok1,ok1',q1,q2,q3,q4,q5⟩:=hT;(have HQ2:=Aside0.mk (q1.mono (ok':=fun k=>w1.heap.size≤k) q4));(replace HQ1:=Aside0.mk (HQ1.out.below hB));(have HS1:=Aside0.mk HB.out.size);(have HS2:=Aside0.mk hB.size);(replace HB:=Aside0.mk (below_from2 HB.out (Nat.le_refl _) hB));(have hla:=HLA.out _ _ _ HQ1.out);clear hB hbo2 q1 q2 q3 q4 q5)
  | (go_at_call 21;(with_reducible refine hla.mono ?_);rintro e w3 ⟨rfl,hB⟩;(replace HQ1:=Aside0.mk (HQ1.out.below hB));(replace HQ2:=Aside0.mk (HQ2.out.below hB));(replace HS2:=Aside0.mk (Nat.le_trans HS2.out hB.size));(replace HB:=Aside0.mk (below_from2 HB.out (Nat.le_refl _) hB));(have hlb:=HLB.out _ _ _ HQ2.out);clear hB hla)
  | (go_at_call 21;(with_reducible refine hlb.mono ?_);rintro e w4 ⟨rfl,hB⟩;(replace HQ1:=Aside0.mk (HQ1.out.below hB));(replace HQ2:=Aside0.mk (HQ2.out.below hB));(replace HS2:=Aside0.mk (Nat.le_trans HS2.out hB.size));(replace HB:=Aside0.mk (below_from2 HB.out (Nat.le_refl _) hB));clear hB hlb))
 obtain ⟨Lx,hLx⟩:∃ n,x.length=n:=⟨_,rfl⟩
 obtain ⟨Ly,hLy⟩:∃ n,y.length=n:=⟨_,rfl⟩
 have HLX:=Aside0.mk hLx
 have HLY2:=Aside0.mk hLy
 have hx1:=HLO.out.len
 have hy1:=HLY.out.len
 have hpa:=parts_ok HQ1.out HQ2.out hx1 hy1
 rw [hLx] at hpa hx1 ⊢
 rw [hLy] at hy1 ⊢
 have hw1:IntKind.i64.wrap ((Lx:Int)+(Ly:Int))=(Lx:Int)+(Ly:Int):=by rw [IntKind.wrap_i64];omega
 have hw2:IntKind.i64.wrap ((Lx:Int)+(Ly:Int)+3)=(Lx:Int)+(Ly:Int)+3:=by rw [IntKind.wrap_i64];omega
 have hw3:IntKind.i64.wrap ((Lx:Int)+1)=(Lx:Int)+1:=by rw [IntKind.wrap_i64];omega
 have HLL:=Aside0.mk (And.intro hx1 hy1)
 generalize lastE x=ex
 generalize lastE y=ey
 clear hLx hLy hx1 hy1
 by_cases e1:(Lx:Int)+(Ly:Int) > 2000
 ·have d1:decide ((Lx:Int)+(Ly:Int) > 2000)=true:=decide_eq_true e1
  go_wp2_with (go_at_call 19;(with_reducible refine (speaks20_ok _).mono ?_);rintro e w7 ⟨rfl,hB⟩;(replace HB:=Aside0.mk (below_from2 HB.out (Nat.le_refl _) hB));clear hB)
  go_ret
  exact ⟨rfl,HB.out⟩
 ·have d1:decide ((Lx:Int)+(Ly:Int) > 2000)=false:=decide_eq_false e1
  by_cases e2:ey > ex
  ·have d2:decide (ey > ex)=true:=decide_eq_true e2
   go_wp2_with (go_at_call 19;(with_reducible refine (speaks20_ok _).mono ?_);rintro e w7 ⟨rfl,hB⟩;(replace HB:=Aside0.mk (below_from2 HB.out (Nat.le_refl _) hB));clear hB)
   go_ret
   exact ⟨rfl,HB.out⟩
  ·have d2:decide (ey > ex)=false:=decide_eq_false e2
   by_cases hnx:nx0 < 1∨1099511627776 < nx0
   ·have HNX:=Aside0.mk hnx
    clear hnx
    go_wp2_with (first
     | (go_at_call 31;(with_reducible refine hpa.mono ?_);rintro e w5 ⟨⟨pb,rfl,hpb⟩,hB⟩;(replace HB:=Aside0.mk (below_from2 HB.out (Nat.le_refl _) hB));cases pb <;> clear hB hpa hpb)
     | (go_at_call 22;(with_reducible refine (snew_no nx0 HNX.out _).mono ?_);rintro e w6 ⟨rfl,hB⟩;(replace HB:=Aside0.mk (below_from2 HB.out (Nat.le_refl _) hB));clear hB)
     | (go_at_call 19;(with_reducible refine (speaks20_ok _).mono ?_);rintro e w7 ⟨rfl,hB⟩;(replace HB:=Aside0.mk (below_from2 HB.out (Nat.le_refl _) hB));clear hB))
    all_goals
     go_ret
     exact ⟨rfl,HB.out⟩
   ·have HNX:=Aside0.mk (show 1≤nx0∧nx0≤1099511627776 by omega)
    clear hnx
    go_wp2_with (first
     | (go_at_call 31;(with_reducible refine hpa.mono ?_);rintro e w5 ⟨⟨pb,rfl,hpb⟩,hB⟩;(replace HQ1:=Aside0.mk (HQ1.out.below hB));(replace HQ2:=Aside0.mk (HQ2.out.below hB));(replace HS2:=Aside0.mk (Nat.le_trans HS2.out hB.size));(replace HB:=Aside0.mk (below_from2 HB.out (Nat.le_refl _) hB));(have HPB:=Aside0.mk hpb);cases pb <;> clear hB hpa hpb)
     | (go_at_call 22;(with_reducible refine (snew_ok nx0 HNX.out.1 HNX.out.2 _).mono ?_);rintro e w6 ⟨rfl,hS,hB⟩;(have HC:=Aside0.mk (show Cs w w6 (fun k=>ok0 k∧k < w1.heap.size) gx gy w1.heap.size w5.heap.size x y nx0 0 from ⟨HQ1.out.below hB,(HQ2.out.bound.below hB).mono (fun k hk=>⟨hk.1,fun e=>by have:=hk.2;omega⟩),hS,fun k hk=>hk.2,HS2.out,HS1.out,below_from2 HB.out (Nat.le_refl _) hB⟩));clear hS hB)
     | (go_at_call 19;(with_reducible refine (speaks20_ok _).mono ?_);rintro e w7 ⟨rfl,hB⟩;(replace HB:=Aside0.mk (below_from2 HB.out (Nat.le_refl _) hB));clear hB))
    ·go_ret
     exact ⟨rfl,HB.out⟩
    ·have HPO:Aside0 (PartsOk x y):=⟨HPB.out (by simp)⟩
     clear HPB HB HQ1 HQ2 HS1 HS2 d1 d2 e1 e2
     generalize hbase:w1.heap.size=base at HC
     generalize w5.heap.size=sg at HC ⊢
     generalize (fun k=>ok0 k∧k < base)=okx at HC
     clear hbase
     go_loopw [17] (fun v17 wr=>CmIn w (Lx+Ly+3) (nx0,0,y) okx gx gy base sg x v17 wr) (fun v17 _=>Lx+Ly+3 - (intOf v17).toNat)
     case atStart=>exact ⟨0,nx0,0,y,rfl,Nat.zero_le _,⟨rfl⟩,⟨⟨by decide,by have:=HNX.out;omega,HNX.out.2⟩⟩,HLY,HC⟩
     case round =>
      clear HC
      obtain ⟨i,nx,mt,y2,rfl,hi,HIT,HSO,HLO2,HC⟩:=hrel
      by_cases hlt:i < Lx+Ly+3
      ·have g1:decide ((i:Int) < (Lx:Int)+(Ly:Int)+3)=true:=decide_eq_true (by omega)
       have g1':(i:Int) < (Lx:Int)+(Ly:Int)+3:=by omega
       have hw6:IntKind.i64.wrap ((i:Int)+1)=(i:Int)+1:=by have:=HLL.out;rw [IntKind.wrap_i64];omega
       have hstep:stepC x (nx,mt,y2)=iterC x (nx0,0,y) (i+1):=by show stepC x (nx,mt,y2)=stepC x (iterC x (nx0,0,y) i);rw [HIT.out]
       have hlk:=HLO2.out.takeF (markF x (nx - 1)).1 (markF x (nx - 1)).2 (fromF x nx 5)
       unfold stepC at hstep
       dsimp only at hstep
       have HFV:Aside0 (∀ r ∈ fromF x nx 5,r.f7.size≤140737488351232):=⟨fun r hr=>HLO.out.size r (by
        unfold fromF at hr
        split at hr
        ·simp at hr
        ·exact List.mem_of_mem_drop (List.mem_of_mem_take hr))⟩
       have HSN:=Aside0.mk (fun (W:World) (h:Cs w W okx gx gy base sg x y2 nx mt)=>ssend_far (most:=5) h.sn HSO.out h.lx HLO.out.len)
       obtain ⟨⟨mk1,mk2⟩,hmk⟩:∃ q,markF x (nx - 1)=q:=⟨_,rfl⟩
       obtain ⟨fs,hfs⟩:∃ q,fromF x nx 5=q:=⟨_,rfl⟩
       rw [hmk,hfs] at hstep hlk HSN
       rw [hfs] at HFV
       dsimp only at hstep hlk HSN
       obtain ⟨⟨y3,n3,cut3,f3⟩,htk⟩:∃ q,takeF y2 mk1 mk2 fs=q:=⟨_,rfl⟩
       rw [htk] at hstep hlk
       dsimp only at hstep hlk
       have HTK:=Aside0.mk htk
       have HLO3:=Aside0.mk hlk
       have HSNX:=Aside0.mk (HSN.out _ HC.out)
       have hsd:=HSN.out _ HC.out
       have HLYB:=Aside0.mk HC.out.ly.bound
       have HLTQ:=Aside0.mk hlt
       have HY3:=Aside0.mk (fun (W:World) (ok:Nat→Prop) (g:Nat) (h:LogAt 98 W ok g y3 0)=>last_okB h (by have:=HLO3.out.len;omega))
       by_cases hf:f3=0
       ·have k1:(f3==0)=true:=by simp [hf]
        rw [if_pos hf] at hstep
        obtain ⟨⟨nx3,mt3,a3⟩,hak⟩:∃ q,ackS nx mt n3=q:=⟨_,rfl⟩
        have HAK:=Aside0.mk (fun (W:World) (h:Cs w W okx gx gy base sg x y3 nx mt)=>sack_ok h.sn HSO.out n3)
        have hso:=HSO.out.ack n3
        rw [hak] at hstep HAK hso
        dsimp only at hstep HAK hso
        have HST:=Aside0.mk hstep.symm
        have HSO3:=Aside0.mk hso
        clear hf hstep hlk hmk hfs htk hso hak hi hlt
        go_wp2_with (first
         | (go_at_call 23;(with_reducible refine hsd.mono ?_);rintro e w5 ⟨A3,c3,rfl,hc3,hC3,hB,B,hB0,hR⟩;(have hB2:=below_alloc hB (.cells #[.int .i64 mk1,.int .i64 mk2] 24));(have hR2:=Kd.R_below hR (below_alloc (Below.refl w5.heap.size w5) (.cells #[.int .i64 mk1,.int .i64 mk2] 24)));(replace HC:=Aside0.mk (HC.out.below hB2));(replace HLYB:=Aside0.mk (HLYB.out.below hB2));(have HM:=Aside0.mk (show SnAt 24 (w5.alloc (.cells #[.int .i64 mk1,.int .i64 mk2] 24)) w5.heap.size mk1 mk2 from blk_newN _ _));obtain ⟨p0,p1,pf0,pf1⟩:=HM.out.cells;(have htk:=stake_ok HLYB.out (fun k hk=>Nat.lt_of_lt_of_le hk.2 hB2.size) HLO2.out mk1 mk2 A3 c3 fs (fun W hC=>sent_stays hR2 hC (fun k hk=>hk.2) hB0) HFV.out);rw [HTK.out] at htk;dsimp only at htk;clear hB hB2 hR hR2 hC3 hc3 hB0 hsd)
         | (go_at_call 15;(with_reducible refine htk.mono ?_);rintro e w6 ⟨rfl,hL,hC⟩;clear p0 p1 pf0 pf1;(replace HC:=Aside0.mk (HC.out.onY (fun k hk=>hk.1) hL hC));clear hL hC htk)
         | (go_at_call 25;(with_reducible refine (HAK.out _ HC.out).mono ?_);rintro e w7 ⟨rfl,hS,hC⟩;(replace HC:=Aside0.mk (HC.out.onS hS hC));clear hS hC))
        go_roundw
        case rel=>exact ⟨i+1,nx3,mt3,y3,by go_num,by have:=HLTQ.out;omega,HST,HSO3,HLO3,HC⟩
        case measure=>exact comes_measure HLTQ.out
       ·have k1:(f3==0)=false:=beq_eq_false_iff_ne.2 hf
        rw [if_neg hf] at hstep
        obtain ⟨⟨nx3,mt3,a3⟩,hak⟩:∃ q,refS nx mt (y3.length:Int)=q:=⟨_,rfl⟩
        have HAK:=Aside0.mk (fun (W:World) (h:Cs w W okx gx gy base sg x y3 nx mt)=>srefu_ok h.sn HSO.out (y3.length:Int))
        have hso:=HSO.out.ref (y3.length:Int)
        rw [hak] at hstep HAK hso
        dsimp only at hstep HAK hso
        have HST:=Aside0.mk hstep.symm
        have HSO3:=Aside0.mk hso
        clear hf hstep hlk hmk hfs htk hso hak hi hlt
        go_wp2_with (first
         | (go_at_call 23;(with_reducible refine hsd.mono ?_);rintro e w5 ⟨A3,c3,rfl,hc3,hC3,hB,B,hB0,hR⟩;(have hB2:=below_alloc hB (.cells #[.int .i64 mk1,.int .i64 mk2] 24));(have hR2:=Kd.R_below hR (below_alloc (Below.refl w5.heap.size w5) (.cells #[.int .i64 mk1,.int .i64 mk2] 24)));(replace HC:=Aside0.mk (HC.out.below hB2));(replace HLYB:=Aside0.mk (HLYB.out.below hB2));(have HM:=Aside0.mk (show SnAt 24 (w5.alloc (.cells #[.int .i64 mk1,.int .i64 mk2] 24)) w5.heap.size mk1 mk2 from blk_newN _ _));obtain ⟨p0,p1,pf0,pf1⟩:=HM.out.cells;(have htk:=stake_ok HLYB.out (fun k hk=>Nat.lt_of_lt_of_le hk.2 hB2.size) HLO2.out mk1 mk2 A3 c3 fs (fun W hC=>sent_stays hR2 hC (fun k hk=>hk.2) hB0) HFV.out);rw [HTK.out] at htk;dsimp only at htk;clear hB hB2 hR hR2 hC3 hc3 hB0 hsd)
         | (go_at_call 15;(with_reducible refine htk.mono ?_);rintro e w6 ⟨rfl,hL,hC⟩;clear p0 p1 pf0 pf1;(replace HC:=Aside0.mk (HC.out.onY (fun k hk=>hk.1) hL hC));clear hL hC htk)
         | (go_at_call 21;(with_reducible refine (HY3.out _ _ _ HC.out.ly).mono ?_);rintro e w7 ⟨rfl,hB⟩;(replace HC:=Aside0.mk (HC.out.below hB));clear hB)
         | (go_at_call 27;(with_reducible refine (HAK.out _ HC.out).mono ?_);rintro e w8 ⟨rfl,hS,hC⟩;(replace HC:=Aside0.mk (HC.out.onS hS hC));clear hS hC))
        go_roundw
        case rel=>exact ⟨i+1,nx3,mt3,y3,by go_num,by have:=HLTQ.out;omega,HST,HSO3,HLO3,HC⟩
        case measure=>exact comes_measure HLTQ.out
      ·have g1:decide ((i:Int) < (Lx:Int)+(Ly:Int)+3)=false:=decide_eq_false (by omega)
       have g1':¬ (i:Int) < (Lx:Int)+(Ly:Int)+3:=by omega
       have hiN:i=Lx+Ly+3:=by omega
       have hat:=sat_ok HC.out.sn
       by_cases hbig:nx0 > (Lx:Int)+1
       ·have g2:decide (nx0 > (Lx:Int)+1)=true:=decide_eq_true hbig
        clear hiN hlt hi
        go_wp2_with (first
         | (go_at_call 30;(with_reducible refine hat.mono ?_);rintro e w7 ⟨rfl,hB⟩;(replace HC:=Aside0.mk (HC.out.below hB));clear hB hat)
         | (go_at_call 19;(with_reducible refine (speaks20_ok _).mono ?_);rintro e w7 ⟨rfl,hB⟩;(replace HC:=Aside0.mk (HC.out.below hB));clear hB))
        go_ret
        exact ⟨rfl,HC.out.bw⟩
       ·have g2:decide (nx0 > (Lx:Int)+1)=false:=decide_eq_false hbig
        obtain ⟨X,hX⟩:∃ X:Nat,nx0=(X:Int):=⟨nx0.toNat,by have:=HNX.out;omega⟩
        have hce:=comes_end HLO.out HEP.out HPO.out (X:=X) (N:=i) (by have:=HNX.out;omega) (by have:=HLX.out;omega) (by have:=HLX.out;omega)
        obtain ⟨X',y',hit,hle,hag⟩:=hce
        rw [← hX,HIT.out] at hit
        injection hit with hn hit
        injection hit with hm hy
        subst hy
        have hmt:mt=(Lx:Int):=by rw [hm,HLX.out]
        subst hmt
        have b1:((Lx:Int)==(Lx:Int))=true:=by simp
        have HLN:=Aside0.mk (fun (W:World) (h:Cs w W okx gx gy base sg x y2 nx (Lx:Int))=>line_ok h.lx h.ly HLO.out.len HLO2.out.len hle hag)
        rw [HLX.out] at HLN
        clear hiN hlt hi hn hm hX hle hag
        go_wp2_with (first
         | (go_at_call 30;(with_reducible refine hat.mono ?_);rintro e w7 ⟨rfl,hB⟩;(replace HC:=Aside0.mk (HC.out.below hB));clear hB hat)
         | (go_at_call 32;(with_reducible refine (HLN.out _ HC.out).mono ?_);rintro e w7 ⟨rfl,hB⟩;(replace HC:=Aside0.mk (HC.out.below hB));clear hB)
         | (go_at_call 19;(with_reducible refine (speaks20_ok _).mono ?_);rintro e w7 ⟨rfl,hB⟩;(replace HC:=Aside0.mk (HC.out.below hB));clear hB))
        go_ret
        exact ⟨rfl,HC.out.bw⟩
end Go.Proofs.Ytgjibcfkjaedfaa.Wal

namespace Go.Proofs.Ytgjibcfkjaedfaa.Pr
open Go.RowKit Go.Proofs.YtgjibcfkjaedfaaW.PrintWords Go.Proofs.YtgjibcfkjaedfaaW.PrintLast Go.Proofs.YtgjibcfkjaedfaaW.PrintMore
attribute [local go_sem] max2_int min2_int max_two min_two max_three min_three max_four min_four
set_option linter.unusedVariables false
set_option linter.unusedSimpArgs false
noncomputable def latticelaw20_ShipComes.f (a0:List S53) (a1:List S53) (a2:Int):Option Bool:=@ite _ ((∀ x ∈ a0,x.f7.size≤140737488351232)∧(∀ x ∈ a1,x.f7.size≤140737488351232)) (Classical.propDecidable _) (some true) none
theorem latticelaw20_ShipComes.calls (A0:Option Addr) (c0:Nat) (a0:List S53) (A1:Option Addr) (c1:Nat) (a1:List S53) (a2:Int) (r:Bool) (w:World) (hr0:Kd.C k53 w A0 a0.length a0) (hc0:a0.length≤c0) (hr1:Kd.C k53 w A1 a1.length a1) (hc1:a1.length≤c1) (h:latticelaw20_ShipComes.f a0 a1 a2=some r) :
  Calls Try.prog 8 #[.slice A0 a0.length c0,.slice A1 a1.length c1,.int .i64 a2] w fun e w'=>e=.returned (.bool r)∧Below w.heap.size w w':=by
 unfold latticelaw20_ShipComes.f at h
 split at h
 ·rename_i hn
  injection h with h
  subst h
  exact Wal.shipComes_ok A0 c0 a0 A1 c1 a1 a2 w hr0 hn.1 hr1 hn.2
 ·cases h
end Go.Proofs.Ytgjibcfkjaedfaa.Pr

namespace Go.Proofs.Ytgjibcfkjaedfaa.Open
open Go.RowKit Go.ChangeShapes Go.WideShapes Go.Proofs.YtgjibcfkjaedfaaW.PrintWords
abbrev reachN:Nat:=140737488351232
structure Opn (P:Program) (t:TypeId) {α:Type} (d:Kd α) (g:α→Prop) (m:α→Nat):Prop where
 sz:P.cellsOf t=d.sz
 out:∀ (H:Type) (enc:TypeId×Value→H) (W:World) (n:Nat) (cs:List Value) (x:DataW H×List MemPlace),DataW.trod enc P W 0 (fun _=>true) true n t cs=some x →
  (∀ q ∈ x.1.weights P t,q≤reachN)→∃ y:α,d.K W y cs∧g y∧m y≤Rows.uptoBulk x.1
section
variable {P:Program} {t e:TypeId}
theorem opn_int {k:IntKind} (ht:P.underlying t=some (.int k)) (hc:P.cellsOf t=1):Opn P t (Kd.int k) (fun y=>(Lit.int k y).wf=true) (fun _=>1) where
 sz:=hc
 out:=by
  intro H enc W n cs x h _
  obtain ⟨y,rfl,rfl,hw⟩:=DataW.trod_int ht h
  exact ⟨y,rfl,hw,Nat.le_refl _⟩
theorem opn_string (ht:P.underlying t=some .string) (hc:P.cellsOf t=1):Opn P t Kd.string (fun y=>y.size≤reachN) (fun y=>y.size+1) where
 sz:=hc
 out:=by
  intro H enc W n cs x h hq
  obtain ⟨y,rfl,rfl,hw⟩:=DataW.trod_string ht h
  have:=hq y.data.toList.length (by simp [DataW.weights])
  exact ⟨y,rfl,by simpa using this,by simp [Rows.uptoBulk]⟩
theorem list_of {α:Type} (p:Nat→α→Prop):∀ len,(∀ i,i < len→∃ y,p i y)→∃ ys:List α,ys.length=len∧∀ i y,ys[i]?=some y→p i y
 | 0,_=>⟨[],rfl,fun i y h=>by simp at h⟩
 | len+1,h=>by
  obtain ⟨ys,hl,hy⟩:=list_of p len (fun i hi=>h i (by omega))
  obtain ⟨y,hp⟩:=h len (by omega)
  refine ⟨ys++[y],by simp [hl],fun i z hz=>?_⟩
  by_cases hi:i < len
  ·rw [List.getElem?_append_left (by omega)] at hz
   exact hy i z hz
  ·by_cases he:i=len
   ·subst he
    rw [List.getElem?_append_right (by omega),hl] at hz
    simp at hz
    subst hz
    exact hp
   ·rw [List.getElem?_eq_none (by simp;omega)] at hz
    cases hz
theorem bulk_sum {H α:Type} (m:α→Nat):∀ (ys:List α) (es:List (DataW H)),ys.length=es.length→(∀ (i:Nat) (y:α) (x:DataW H),ys[i]?=some y→es[i]?=some x→m y≤Rows.uptoBulk x)→(ys.map m).sum≤Rows.uptoBulkAll es
 | [],[],_,_=>by simp
 | [],_::_,h,_=>by simp at h
 | _::_,[],h,_=>by simp at h
 | y::ys,x::es,h,hm=>by
  have ih:=bulk_sum m ys es (by simpa using h) (fun i a b ha hb=>hm (i+1) a b (by simpa using ha) (by simpa using hb))
  have h0:=hm 0 y x rfl rfl
  simp only [List.map_cons,List.sum_cons,Rows.uptoBulkAll]
  omega
theorem addr_add (a:Addr) (x y:Nat):(a.add x).add y=a.add (x+y):=by
 by_cases hx:x=0
 ·subst hx;simp [Addr.add]
 ·by_cases hy:y=0
  ·subst hy;simp [Addr.add]
  ·simp [Addr.add,hx,hy,Nat.add_assoc]
theorem weights_all {H:Type} {P:Program} {e:TypeId}:∀ (es:List (DataW H)) (x:DataW H),x ∈ es→∀ q ∈ x.weights P e,q ∈ DataW.weightsAll P e es
 | [],_,h=>by simp at h
 | y::r,x,h=>by
  intro q hq
  simp only [DataW.weightsAll,List.mem_append]
  rcases List.mem_cons.1 h with rfl|h
  ·exact .inl hq
  ·exact .inr (weights_all r x h q hq)
theorem opn_slice {α:Type} {d:Kd α} {g:α→Prop} {m:α→Nat} {B:Nat} (ht:P.underlying t=some (.slice e)) (hc:P.cellsOf t=1) (hB:P.bytesOf e=B) (he:Opn P e d g m) :
  Opn P t (Kd.slice e d) (fun xs=>xs.length≤maxLen∧xs.length*B≤reachN∧∀ y ∈ xs,g y) (fun xs=>(xs.map m).sum+1) where
 sz:=hc
 out:=by
  intro H enc W n cs x h hq
  rcases DataW.trod_slice ht h with ⟨rfl,rfl⟩|⟨a,len,cap,elems,rest,n,_,rfl,rfl,hb,hl,hm,hlen,hel,hsp,_⟩
  ·exact ⟨[],⟨none,0,rfl,Nat.le_refl _,Kd.C_nil d W⟩,⟨by simp,by simp,by simp⟩,by simp [Rows.uptoBulk]⟩
  ·have hw:∀ q ∈ DataW.weightsAll P e (elems.map (·.1)),q≤reachN:=fun q hq'=>hq q (by simp only [DataW.weights,ht];exact List.mem_cons_of_mem _ (List.mem_append_left _ hq'))
   have h0:=hq (((elems.map (·.1)).length+(rest.map (·.1)).length)*P.bytesOf e) (by simp only [DataW.weights,ht];exact List.mem_cons_self)
   have each:∀ i,i < len→∃ y:α,∃ c:List Value,∃ z:DataW H×List MemPlace,elems[i]?=some z∧d.K W y c∧g y∧m y≤Rows.uptoBulk z.1∧∀ j u,c[j]?=some u→W.cell? (a.add (i*d.sz+j))=some u:=by
    intro i hi
    have h1:=hel i hi
    rw [List.getElem?_eq_getElem (by omega)] at h1
    obtain ⟨c,hcs,hx⟩:=Option.bind_eq_some_iff.1 h1
    obtain ⟨_,hcl,hcell⟩:=World.cells?_some hcs
    obtain ⟨y,hy,hg,hbk⟩:=he.out H enc W n c _ hx (fun q hq'=>hw q (weights_all _ _ (List.mem_map_of_mem (List.getElem_mem (by omega))) q hq'))
    refine ⟨y,c,_,List.getElem?_eq_getElem (by omega),hy,hg,hbk,fun j u hu=>?_⟩
    have hj:j < P.cellsOf e:=by
     have:=(List.getElem?_eq_some_iff.1 hu).1
     omega
    have h2:=hcell j hj
    rw [hu,he.sz,addr_add] at h2
    exact h2
   obtain ⟨ys,hyl,hys⟩:=list_of _ len each
   have hyl2:ys.length=elems.length:=by omega
   refine ⟨ys,⟨some a,cap,by rw [hyl],by omega,?_⟩,⟨by omega,?_,?_⟩,?_⟩
   ·refine ⟨rfl,by unfold maxLen at hm;omega,fun _=>⟨a,rfl,fun j p hp=>?_⟩⟩
    obtain ⟨c,z,_,hK,_,_,hcell⟩:=hys j p hp
    exact ⟨c,d.K_len hK,hK,hcell⟩
   ·rw [hB] at h0
    simp only [List.length_map] at h0
    have:ys.length*B≤(elems.length+rest.length)*B:=Nat.mul_le_mul_right _ (by omega)
    omega
   ·intro y hy
    obtain ⟨j,hj,rfl⟩:=List.getElem_of_mem hy
    obtain ⟨c,z,_,_,hg,_⟩:=hys j _ (List.getElem?_eq_getElem hj)
    exact hg
   ·have:=bulk_sum m ys (elems.map (·.1)) (by simp [hyl2]) (fun i y z hy hz=>by
     obtain ⟨c,z',h2,_,_,h3,_⟩:=hys i y hy
     rw [List.getElem?_map,h2] at hz
     simp at hz
     subst hz
     exact h3)
    simp only [Rows.uptoBulk]
    omega
structure OpnF (P:Program) (fs:List Field) (o:Nat) {α:Type} (d:Kd α) (g:α→Prop) (m:α→Nat):Prop where
 out:∀ (H:Type) (enc:TypeId×Value→H) (W:World) (n:Nat) (cs:List Value) (xs:List (DataW H×List MemPlace)),cs.length=o+d.sz→xs.length=fs.length →
  (∀ (i:Nat) (f:Field),fs[i]?=some f→DataW.trod enc P W 0 (fun _=>true) true n f.type ((cs.drop f.offset).take (P.cellsOf f.type))=xs[i]?) →
  (∀ q ∈ DataW.weightsEach P (fs.map (·.type)) (xs.map (·.1)),q≤reachN)→∃ y:α,d.K W y (cs.drop o)∧g y∧m y≤Rows.uptoBulkAll (xs.map (·.1))
theorem opnF_last {α:Type} {f:Field} {o:Nat} {d:Kd α} {g:α→Prop} {m:α→Nat} (hf:f.offset=o) (h:Opn P f.type d g m):OpnF P [f] o d g m where
 out:=by
  intro H enc W n cs xs hcs hxs hel hq
  match xs,hxs with
  | [x],_ =>
   have h0:=hel 0 f rfl
   rw [hf,h.sz,List.take_of_length_le (by rw [List.length_drop];omega)] at h0
   obtain ⟨y,hy,hg,hb⟩:=h.out H enc W n _ x (by simpa using h0) (fun q hq'=>hq q (by simp [DataW.weightsEach];exact hq'))
   exact ⟨y,hy,hg,by simp [Rows.uptoBulkAll];exact hb⟩
theorem opnF_cons {α β:Type} {f:Field} {fs:List Field} {o:Nat} {a:Kd α} {b:Kd β} {g:α→Prop} {m:α→Nat} {g':β→Prop} {m':β→Nat} (hf:f.offset=o) (h:Opn P f.type a g m) (hr:OpnF P fs (o+a.sz) b g' m') :
  OpnF P (f::fs) o (Kd.pair a b) (fun y=>g y.1∧g' y.2) (fun y=>m y.1+m' y.2) where
 out:=by
  intro H enc W n cs xs hcs hxs hel hq
  match xs,hxs with
  | x::xs,hxs =>
   have hsz:(Kd.pair a b).sz=a.sz+b.sz:=rfl
   have h0:=hel 0 f rfl
   rw [hf,h.sz] at h0
   obtain ⟨y,hy,hg,hb⟩:=h.out H enc W n _ x (by simpa using h0) (fun q hq'=>hq q (by simp only [List.map_cons,DataW.weightsEach];exact List.mem_append_left _ hq'))
   obtain ⟨z,hz,hg',hb'⟩:=hr.out H enc W n cs xs (by omega) (by simpa using hxs) (fun i f' hf'=>by simpa using hel (i+1) f' (by simpa using hf')) (fun q hq'=>hq q (by simp only [List.map_cons,DataW.weightsEach];exact List.mem_append_right _ hq'))
   refine ⟨(y,z),⟨(cs.drop o).take a.sz,cs.drop (o+a.sz),?_,hy,hz⟩,⟨hg,hg'⟩,?_⟩
   ·rw [← List.drop_drop,List.take_append_drop]
   ·simp only [List.map_cons,Rows.uptoBulkAll]
    omega
theorem opn_struct {α β:Type} {fs:Array Field} {d:Kd α} {g:α→Prop} {m:α→Nat} (ht:P.underlying t=some (.struct fs)) (hc:P.cellsOf t=d.sz) (h:OpnF P fs.toList 0 d g m) (f:β→α) (inv:α→β) (hfi:∀ a,f (inv a)=a) :
  Opn P t (Kd.iso d f) (fun y=>g (f y)) (fun y=>m (f y)+1) where
 sz:=hc
 out:=by
  intro H enc W n cs x hx hq
  obtain ⟨xs,n,_,rfl,hl,hxs,hel⟩:=DataW.trod_struct ht hx
  obtain ⟨y,hy,hg,hb⟩:=h.out H enc W n cs xs (by omega) (by simpa using hxs) (fun i f' hf'=>hel i f' (by simpa using hf')) (fun q hq'=>hq q (by simp only [DataW.weights,ht];exact hq'))
  refine ⟨inv y,?_,?_,?_⟩
  ·show d.K W (f (inv y)) cs
   rw [hfi]
   simpa using hy
  ·rw [hfi];exact hg
  ·rw [hfi];simp only [Rows.uptoBulk];omega
end
theorem weights_at {H:Type} {P:Program} {ts:List TypeId} {ds:List (DataW H)} (h:(DataW.weightsEach P ts ds).all (·≤reachBytes)=true) {j:Nat} {t:TypeId} {d:DataW H} (ht:ts[j]?=some t) (hd:ds[j]?=some d):∀ q ∈ d.weights P t,q≤reachN:=by
 intro q hq
 have h1:=List.all_eq_true.1 h _ (DataW.weights_mem_each ht hd q hq)
 have h2:q≤reachBytes:=by simpa using h1
 exact h2
end Go.Proofs.Ytgjibcfkjaedfaa.Open

namespace Go.Proofs.Ytgjibcfkjaedfaa.Pr
open Go.RowKit
set_option linter.unusedVariables false
def good53 (y:S53):Prop:=(Lit.int .i64 y.f0).wf=true∧(Lit.int .i64 y.f1).wf=true∧(Lit.int .i64 y.f2).wf=true∧(Lit.int .i64 y.f3).wf=true∧(Lit.int .i64 y.f4).wf=true∧(Lit.int .i64 y.f5).wf=true∧y.f6.size≤140737488351232∧y.f7.size≤140737488351232
def bulk53 (y:S53):Nat:=(1+(1+(1+(1+(1+(1+((y.f6.size+1)+(y.f7.size+1))))))))+1
end Go.Proofs.Ytgjibcfkjaedfaa.Pr

namespace Go.Proofs.Ytgjibcfkjaedfaa.Pr
open Go.RowKit Go.Proofs.YtgjibcfkjaedfaaW.PrintWords
theorem opn53:Open.Opn Try.prog 53 k53 good53 bulk53 :=
 Open.opn_struct Try.underlying53 (by kernel_rfl) (Open.opnF_cons rfl (Open.opn_int Try.underlying3 (by kernel_rfl)) (Open.opnF_cons rfl (Open.opn_int Try.underlying3 (by kernel_rfl)) (Open.opnF_cons rfl (Open.opn_int Try.underlying3 (by kernel_rfl)) (Open.opnF_cons rfl (Open.opn_int Try.underlying3 (by kernel_rfl)) (Open.opnF_cons rfl (Open.opn_int Try.underlying3 (by kernel_rfl)) (Open.opnF_cons rfl (Open.opn_int Try.underlying3 (by kernel_rfl)) (Open.opnF_cons rfl (Open.opn_string Try.underlying9 (by kernel_rfl)) (Open.opnF_last rfl (Open.opn_string Try.underlying9 (by kernel_rfl)))))))))) (fun x:S53=>(x.f0,x.f1,x.f2,x.f3,x.f4,x.f5,x.f6,x.f7)) (fun p=>⟨p.1,p.2.1,p.2.2.1,p.2.2.2.1,p.2.2.2.2.1,p.2.2.2.2.2.1,p.2.2.2.2.2.2.1,p.2.2.2.2.2.2.2⟩) (fun _=>rfl)
end Go.Proofs.Ytgjibcfkjaedfaa.Pr

namespace Go.Proofs.Ytgjibcfkjaedfaa.Pr
open Go.RowKit Go.Proofs.YtgjibcfkjaedfaaW.PrintWords Go.Proofs.YtgjibcfkjaedfaaW.PrintLast
set_option linter.unusedVariables false in
def latticelaw20_ShipComes.Stated:Prop:=∀ (a0:List (S53)) (a1:List (S53)) (a2:Int),((a0.length≤maxLen∧a0.length*80≤140737488351232∧∀ e ∈ a0,good53 e))→((a1.length≤maxLen∧a1.length*80≤140737488351232∧∀ e ∈ a1,good53 e))→((Lit.int .i64 a2).wf=true)→latticelaw20_ShipComes.f a0 a1 a2=some true
end Go.Proofs.Ytgjibcfkjaedfaa.Pr

namespace Go.Proofs.Ytgjibcfkjaedfaa.Pure
open Go.RowKit Go.Proofs.Ytgjibcfkjaedfaa.Pr Go.Proofs.YtgjibcfkjaedfaaW.PrintWords Go.Proofs.YtgjibcfkjaedfaaW.PrintLast
theorem ShipComes:latticelaw20_ShipComes.Stated:=by
 intro a0 a1 a2 h0 h1 _
 unfold latticelaw20_ShipComes.f
 rw [if_pos]
 constructor
 ·intro x hx
  obtain ⟨_,_,_,_,_,_,_,hv⟩:=h0.2.2 x hx
  exact hv
 ·intro x hx
  obtain ⟨_,_,_,_,_,_,_,hv⟩:=h1.2.2 x hx
  exact hv
end Go.Proofs.Ytgjibcfkjaedfaa.Pure

/- The law ShipComes returns true at every input, and each argument reads afterwards as it read before: IT COMES TO THE END: a sender, whatever it begins with, and a receiver, whatever its log, that answer one another, come to one log within as many turns as both have records, and three; of logs that have no epoch in common at one LSN behind where they part.
   Conditions: none but those that the row itself prints. Written by a program of this session over the kit's printer. -/
namespace Go.Proofs.Ytgjibcfkjaedfaa.shipComes
open Go.ChangeShapes Go.WideShapes Go.ChangeAt Go.RowKit
open Go.ChangeMaps (open_string shut_string)
set_option linter.unusedVariables false
theorem own:ownKnob Try.prog.godebug=none:=by kernel_rfl
theorem laidOut:laidOutB Try.prog=true:=by kernel_rfl
set_option maxRecDepth 100000 in
theorem lifted (os:Os) (started:os.Started) (H:Type) (enc:TypeId×Value→H) :
  ReturnsInHanded {} Try.checked os 8 .any (Rows.shipComesSpec.pre6 enc Try.prog Try.f8 Rows.shipComesRow.domain false) (Rows.shipComesSpec.post enc Try.prog Try.f8 false true false false):=by
 refine returnsInHanded_of_change_sized (C:=Try.checked) own started (by kernel_rfl) Try.func8
  (ChangeSpec.witness6 (enc:=enc) (C:=Try.checked) false ⟨#[],#[.slice none 0 0,.slice none 0 0,.int .i64 0],[]⟩ 8 (by kernel_rfl) (by kernel_rfl) (by kernel_rfl) (by kernel_rfl)) ?_
 intro W base args ds gs before hval0 hW hcnd hsz0 _
 have hsz:(DataW.weightsEach Try.prog (Try.f8.params.toList++Rows.shipComesSpec.plain.varTypes Try.prog) (ds++gs)).all (·≤reachBytes)=true:=hsz0
 have hval:∀ (j:Nat) t v,Try.f8.params[j]?=some t→args[j]?=some v→Value.okWide Try.prog W .any base t v:=hval0
 have hW':=hW
 obtain ⟨p,q,hA0,hV,rfl,hfz,hnd⟩:=hW
 have hA:DataW.TrodAll enc Try.prog W 0 (fun _=>true) true Try.f8.params.toList args.toList ds p:=hA0
 rw [Try.params8] at hA hval hsz
 obtain ⟨v0,vs0,d0,ds0,p0,q0,hargs,rfl,rfl,h0,r0⟩:=trodAll_cons hA
 obtain ⟨v1,vs1,d1,ds1,p1,q1,rfl,rfl,rfl,h1,r1⟩:=trodAll_cons r0
 obtain ⟨v2,vs2,d2,ds2,p2,q2,rfl,rfl,rfl,h2,r2⟩:=trodAll_cons r1
 obtain ⟨rfl,rfl,rfl⟩:=trodAll_nil r2
 obtain rfl:args=#[v0,v1,v2]:=by cases args;simp_all
 obtain ⟨rfl,rfl⟩:=trodVars_none hV
 have k0:=h0
 have lt0:∀ x ∈ p0,x.block < W.heap.size:=by obtain ⟨m,hm⟩:=k0;exact DataW.trod_lt m _ _ _ hm
 obtain ⟨n0,hf0⟩:=h0
 obtain ⟨y0,K0,g0,m0⟩:=(Open.opn_slice (B:=80) Try.underlying22 (by kernel_rfl) (by kernel_rfl) Pr.opn53).out H enc W n0 _ _ hf0 (Open.weights_at hsz (j:=0) (t:=22) rfl rfl)
 obtain ⟨a0,len0,cap0,rfl⟩:=okWide_slice Try.underlying22 (hval 0 22 v0 rfl rfl)
 obtain ⟨A0,c0,e0,hc0,hr0⟩:=K0
 simp only [Value.cells,List.cons.injEq,Value.slice.injEq,and_true] at e0
 obtain ⟨rfl,rfl,rfl⟩:=e0
 have k1:=h1
 have lt1:∀ x ∈ p1,x.block < W.heap.size:=by obtain ⟨m,hm⟩:=k1;exact DataW.trod_lt m _ _ _ hm
 obtain ⟨n1,hf1⟩:=h1
 obtain ⟨y1,K1,g1,m1⟩:=(Open.opn_slice (B:=80) Try.underlying22 (by kernel_rfl) (by kernel_rfl) Pr.opn53).out H enc W n1 _ _ hf1 (Open.weights_at hsz (j:=1) (t:=22) rfl rfl)
 obtain ⟨a1,len1,cap1,rfl⟩:=okWide_slice Try.underlying22 (hval 1 22 v1 rfl rfl)
 obtain ⟨A1,c1,e1,hc1,hr1⟩:=K1
 simp only [Value.cells,List.cons.injEq,Value.slice.injEq,and_true] at e1
 obtain ⟨rfl,rfl,rfl⟩:=e1
 have k2:=h2
 obtain ⟨y2,rfl,rfl,rfl,g2⟩:=open_int Try.underlying3 (hval 2 3 v2 rfl rfl) h2
 clear hA0 hval0 hsz0 hsz
 have hk:=Pure.ShipComes y0 y1 y2 g0 g1 g2
 refine (Pr.latticelaw20_ShipComes.calls _ _ y0 _ _ y1 y2 true W hr0 hc0 hr1 hc1 hk).mono fun e W' ⟨he,bel0⟩=>?_
 have bel:Below W.heap.size W W':=bel0
 subst he
 exact ⟨_,rfl,_,_,_,[],_,[],hW',trodAll_mk1 (shut_bool Try.underlying4 _),(trodAll_cons_mk (Below.trod laidOut (by kernel_rfl) (of_decide_eq_true (by kernel_rfl)) k0 bel lt0) (trodAll_cons_mk (Below.trod laidOut (by kernel_rfl) (of_decide_eq_true (by kernel_rfl)) k1 bel lt1) (trodAll_cons_mk (shut_int Try.underlying3 g2) trodAll_mk0))),rfl,bel.frame _,fun h=>by cases h⟩
theorem over:Rows.shipComesRow.holds Try.pinned (OpenSpec.ofChange Rows.shipComesSpec) :=
 OpenClaim.holds_of_wide 8 Try.f8 rfl rfl rfl rfl rfl rfl rfl ⟨rfl,rfl,rfl,rfl,rfl⟩ rfl rfl rfl rfl rfl (by kernel_rfl) Try.func8 (by kernel_rfl)
  (of_decide_eq_true (by kernel_rfl)) (by unfold Func.isWrapper;first|(rw [if_pos (by decide +kernel)];kernel_rfl)|(rw [if_neg (by decide +kernel)];exact ⟨rfl,rfl⟩))
  (fun os started H enc _=>lifted os started H enc)
theorem proved:Rows.ShipComesSaid:=over
#print axioms proved
end Go.Proofs.Ytgjibcfkjaedfaa.shipComes
namespace Go.Proofs.Ytgjibcfkjaedfaa
theorem shipComes_holds:Rows.ShipComesSaid:=shipComes.proved
end Go.Proofs.Ytgjibcfkjaedfaa
