-- Parts melded by a program of this session.
import Derived.Below
import Derived.Deep.Draws
import Derived.Deep.AppendLies
import Derived.Maps.AppendAt
import Derived.OwnWalk
import Derived.Laws.BytesArg
import Derived.Laws.MakeOwn
import Derived.Laws.OwnMore
import Derived.Deep.OwnRows
import Derived.Tactics
import Derived.Lib.ConvBytes
import Derived.Laws.Slices
import Derived.WalkKit
import Derived.KernelRfl
import Derived.RowKit3
import Derived.Deep.LoopGhost
import Derived.Deep.QuietTactic
import Derived.BigQuiet
import Derived.WideLaws
import Derived.Deep.DeepCutAuto
import Derived.Deep.CutBlock
import Derived.Deep.RegionHeld3
import Derived.Laws.Rows
import Derived.Lib.AppendStr
import Derived.ArgAppend
import Derived.Laws.IdiomCopy
import Derived.RowKit
import Derived.Test.YtgjibcfkjaedfaaTSTHWWords
import Derived.OrdersHeld
import Derived.Laws.BitsLemmas
import Derived.Test.YtgjibcfkjaedfaaTSTHWRest
import Derived.Laws.StructEq
import Derived.Test.YtgjibcfkjaedfaaProg
import Derived.Shelf.Abstract
import Derived.Test.YtgjibcfkjaedfaaTSTHPrx0
import Derived.OneCell
import Derived.Lib.SliceRun
import Derived.Test.YtgjibcfkjaedfaaTSTHWire
import Derived.RangeFuncBox
import Derived.RangeFuncLeaves
import Derived.OwnWalkIn
import Derived.TacticsInMore
import Derived.LoopNIn
import Derived.LoopIn
import Derived.Lib.Hide
import Derived.Test.YtgjibcfkjaedfaaTSTHBack
import Derived.Outline
import Derived.Test.YtgjibcfkjaedfaaTSTHRead
import Derived.Test.YtgjibcfkjaedfaaTSTHNdFrom
import Derived.Laws.BitsAllLaws
import Derived.Test.YtgjibcfkjaedfaaTSTHCrc
import Derived.Test.YtgjibcfkjaedfaaTSTHPrx3
import Derived.Test.YtgjibcfkjaedfaaTSTHPrx4
import Derived.Test.YtgjibcfkjaedfaaTSTHPrx5
import Derived.Test.YtgjibcfkjaedfaaTSTHPrx1
import Derived.Test.YtgjibcfkjaedfaaTSTHRefW
import Derived.Test.YtgjibcfkjaedfaaTSTHPrxS
import Derived.Test.YtgjibcfkjaedfaaTSTHPrx15
import Derived.Test.YtgjibcfkjaedfaaTSTHPrx16
import Derived.Test.YtgjibcfkjaedfaaTSTHPureNode
import Derived.Deep.RegionLaw
import Derived.Laws.CopyOwn
import Derived.Test.YtgjibcfkjaedfaaTSTHPageEnc
import Derived.Test.YtgjibcfkjaedfaaTSTHPageFit
import Derived.Test.YtgjibcfkjaedfaaTSTHPageRd
import Derived.Test.YtgjibcfkjaedfaaTSTHPageNode
import Derived.Test.YtgjibcfkjaedfaaTSTHPageDec
import Derived.Test.YtgjibcfkjaedfaaTSTHCrcR
import Derived.Test.YtgjibcfkjaedfaaTSTHPageRt
import Derived.Test.YtgjibcfkjaedfaaTSTHPrx17
import Derived.Test.YtgjibcfkjaedfaaTSTHPagePure
import Derived.Test.YtgjibcfkjaedfaaTSTHRefRd
import Derived.Test.YtgjibcfkjaedfaaTSTHPageRef
import Derived.Test.YtgjibcfkjaedfaaTSTHRecIR
import Derived.Lib.SlBytesConst
import Derived.StillTailTactics
import Derived.Test.YtgjibcfkjaedfaaTSTHRecV
import Derived.Test.YtgjibcfkjaedfaaTSTHRecChkP
import Derived.Test.YtgjibcfkjaedfaaTSTHRecChkA
import Derived.Test.YtgjibcfkjaedfaaTSTHRecChkB
import Derived.Test.YtgjibcfkjaedfaaTSTHRecChkE
import Derived.Test.YtgjibcfkjaedfaaTSTHRecChk
import Derived.Test.YtgjibcfkjaedfaaTSTHRecEnc
import Derived.Test.YtgjibcfkjaedfaaTSTHRecRead
import Derived.Test.YtgjibcfkjaedfaaTSTHRecRight
import Derived.Test.YtgjibcfkjaedfaaTSTHRecLaw
import Derived.Test.YtgjibcfkjaedfaaTSTHRecK
import Derived.Test.YtgjibcfkjaedfaaTSTHRecEncs
import Derived.Test.YtgjibcfkjaedfaaTSWalA
import Derived.Test.YtgjibcfkjaedfaaTSWalApp
import Derived.Test.YtgjibcfkjaedfaaTSRefA
import Derived.WalkMore
import Derived.Test.YtgjibcfkjaedfaaTSWalS
import Derived.Test.YtgjibcfkjaedfaaTSShA
import Derived.Test.YtgjibcfkjaedfaaTSShB
import Derived.Test.YtgjibcfkjaedfaaTSShC
import Derived.Test.YtgjibcfkjaedfaaRows
import Derived.OpenShut
import Derived.SizedLaws
import Derived.ChangeArms
import Derived.ChangeOld
import Derived.DataReads
import Derived.ProofKit
import Derived.ShutString
import Derived.Carry
set_option linter.unusedVariables false
set_option linter.unusedSimpArgs false
namespace Go.Proofs.YtgjibcfkjaedfaaW.PrintWords
open Go.RowKit
theorem LeO.ite {α:Type} {c:Prop} [Decidable c] {a a' b b':Option α} (h:LeO a a') (k:LeO b b'):LeO (if c then a else b) (if c then a' else b'):=by
  split
  · exact h
  · exact k
section
variable {P:Program} {ops:Array Oper} {rest:List Oper} {o:Oper} {a:Act} {Q:Exit→Act→World→Prop}
end
section
variable {P:Program} {ops:Array Oper} {o:Oper} {a:Act} {Q:Exit→Act→World→Prop} {K:Act→World→Prop}
end
section
variable {α:Type} {enc:α→Value} {d:α}
end
section
variable {α:Type} {P:Program} {ops:Array Oper} {rest:List Oper} {o:Oper} {a:Act} {Q:Exit→Act→World→Prop}
end
section
variable {P:Program}
end
section
variable {α:Type} {R R':α→List Value→Prop} {e:TypeId} {size:Nat} {w w1:World} {base:Nat} {v:Value} {ps:List α}
theorem OwnRow.keep (h:OwnRow R e size w base v ps) {g:Nat} {t:TypeId} {cells:Array Value} (hb:w.heap[g]?=some (.cells cells t (0,0))) (ht:e≠t) (hk:KeepBut w w1 g none):OwnRow R e size w1 base v ps:=by
  obtain ⟨inner,ho,hr⟩:=h
  exact ⟨inner,hk.own ho (Ne.symm (own_ne ho hb ht)) (by cases v.ownBlock <;> simp),hr⟩
end
section
variable {P:Program} {ops:Array Oper} {rest:List Oper} {o:Oper} {a:Act} {Q:Exit→Act→World→Prop} {α:Type} {R:α→List Value→Prop}
end
namespace Kd
section
variable {α:Type} {d:Kd α} {e:Nat} {w w1:World} {base:Nat} {ok ok':Nat→Prop} {v:Value} {xs:List α}
end
section
variable {P:Program} {ops:Array Oper} {rest:List Oper} {o:Oper} {a:Act} {Q:Exit→Act→World→Prop} {α:Type}
end
section
variable {P:Program} {ops:Array Oper} {o:Oper} {a:Act} {Q:Exit→Act→World→Prop} {Kc:Act→World→Prop} {α:Type}
end
end Kd
namespace Kd
end Kd
namespace Kd
section
variable {α β:Type} {d:Kd α} {d':Kd β} {e e':Nat} {w w1 W:World} {base b b':Nat} {ok ok' okv oku:Nat→Prop} {v u:Value} {xs:List α} {ys:List β}
theorem R_over (h:d.R e W b ok u xs) (hv:d'.R e' W b' ok' v ys) (ht:∀ q,q ∈ e::d.E→q≠e') (hg:W.grownBy w1 v.ownBlock):d.R e w1 b ok u xs:=by
  obtain ⟨inner,ho⟩:=R_own hv
  refine R_mono (R_move (R_bound h) (fun k hk=>hg.block k hk.2.2.1 (fun he=>?_))) (fun _ hk=>hk.1)
  obtain ⟨_,_,_,q,hq,cells,hc⟩:=hk
  obtain ⟨cells',hc'⟩:=own_typed ho k he.symm
  rw [hc] at hc'
  injection hc' with hc'
  injection hc' with _ hc'
  exact ht q hq hc'
end
section
variable {w W:World} {A:Option Addr} {n:Nat}
end
section
variable {P:Program} {ops:Array Oper} {rest:List Oper} {o:Oper} {a:Act} {Q:Exit→Act→World→Prop}
end
end Kd
section
variable {P:Program}
end
section
variable {w w1:World} {base n size:Nat} {e:TypeId} {v:Value} {xs:List Value}
end
namespace Kd
section
variable {α:Type} {d:Kd α} {e:Nat} {w w1 W:World} {base:Nat} {ok ok':Nat→Prop} {v:Value} {xs:List α}
end
end Kd
namespace Kd
section
variable {α:Type} {d:Kd α} {e e':Nat} {w w1 W:World} {base:Nat} {ok:Nat→Prop} {u v:Value} {xs:List α}
end
end Kd
namespace Kd
section
variable {P:Program} {ops:Array Oper} {rest:List Oper} {o:Oper} {a:Act} {Q:Exit→Act→World→Prop} {α:Type}
end
end Kd
namespace Kd
section
variable {α:Type} {k:Kd α} {w:World} {A:Option Addr} {xs:List α} {m c:Nat}
end
end Kd
section
variable {P:Program}
end
theorem keep_cell {w W:World} {g:Nat} (h:KeepBut w W g none) {a:Addr} {v:Value} (hc:w.cell? a=some v) (hne:a.block≠g):W.cell? a=some v:=by
  have:=h.2 a.block (World.block_lt_of_cell? w a hc) hne (by simp)
  simpa [World.cell?,this] using hc
theorem ReadsInt.keep {w W:World} {k:IntKind} {A:Option Addr} {n g:Nat} {xs:List Int} (h:ReadsInt w k A n xs) (hk:KeepBut w W g none) (hf:∀ ad,A=some ad→0 < n→ad.block≠g):ReadsInt W k A n xs :=
  ⟨h.1,h.2.1,fun hn=>by
    obtain ⟨ad,e,hc⟩:=h.2.2 hn
    exact ⟨ad,e,fun j hj=>keep_cell hk (hc j hj) (by rw [add_block];exact hf ad e hn)⟩⟩
theorem ReadsOf.keep {α:Type} {enc:α→Value} {d:α} {w W:World} {A:Option Addr} {n g:Nat} {xs:List α} (h:ReadsOf enc d w A n xs) (hk:KeepBut w W g none) (hf:∀ ad,A=some ad→0 < n→ad.block≠g):ReadsOf enc d W A n xs :=
  ⟨h.1,h.2.1,fun hn=>by
    obtain ⟨ad,e,hc⟩:=h.2.2 hn
    exact ⟨ad,e,fun j hj=>keep_cell hk (hc j hj) (by rw [add_block];exact hf ad e hn)⟩⟩
section
variable {P:Program} {ops:Array Oper} {rest:List Oper} {o:Oper} {a:Act} {Q:Exit→Act→World→Prop}
end
section
variable {P:Program} {ops:Array Oper} {rest:List Oper} {o:Oper} {a:Act} {Q:Exit→Act→World→Prop} {W:World}
end
end Go.Proofs.YtgjibcfkjaedfaaW.PrintWords

namespace Go.Proofs.YtgjibcfkjaedfaaW.PrintWords
open Go.RowKit
section
variable {w W W2:World} {S S2 S':Nat→Prop}
theorem Kept.keep {g:Nat} (h:KeepBut w W g none) (k:Kept W W2 S2) (hs:∀ k,S2 k→w.heap.size≤k):KeepBut w W2 g none :=
 ⟨Nat.le_trans h.1 k.1,fun i hi hg hr=>(k.2 i (Nat.lt_of_lt_of_le hi h.1) (fun h2=>by have:=hs i h2;omega)).trans (h.2 i hi hg hr)⟩
end
end Go.Proofs.YtgjibcfkjaedfaaW.PrintWords

namespace Go.Proofs.YtgjibcfkjaedfaaW.PrintWords
open Go.RowKit
namespace Foot
variable {P Q:World→Prop} {W W1:World} {ok ok':Nat→Prop}
theorem bound (h:Foot P W ok):Foot P W (fun k=>ok k∧k < W.heap.size):=fun W' hW=>h W' (fun k hk hlt=>hW k ⟨hk,hlt⟩ hlt)
end Foot
namespace Kd
section
variable {α β:Type} {d:Kd α} {e base n n' cc g N:Nat} {ok ok' okp S:Nat→Prop} {w w0 w1 W W1:World} {A A':Option Addr} {u v v1:Value} {xs:List α} {xs':List β} {d':Kd β} {x:α} {c:List Value}
end
end Kd
end Go.Proofs.YtgjibcfkjaedfaaW.PrintWords

namespace Go.Proofs.Ytgjibcfkjaedfaa.Rec
open Go.RowKit Go.Proofs.YtgjibcfkjaedfaaW.PrintWords Go.Proofs.YtgjibcfkjaedfaaW.PrintLast Go.Proofs.YtgjibcfkjaedfaaW.PrintMore Go.Proofs.Ytgjibcfkjaedfaa.Wire Go.Proofs.Ytgjibcfkjaedfaa.Crc Go.Proofs.Ytgjibcfkjaedfaa.Pr Go.Proofs.Ytgjibcfkjaedfaa.Page
open Go.Proofs.Ytgjibcfkjaedfaa.Back (AllB)
open Go.Proofs.Ytgjibcfkjaedfaa.Pure
set_option linter.unusedVariables false
set_option linter.unusedSimpArgs false
theorem byt_E (q:Nat) (hq:q ∈ 5::(Kd.int .u8).E):q=5:=by
 simpa [Kd.int,Kd.scalar] using hq
theorem RRec.over {w w1:World} {b b':Nat} {u v:Value} {xs:List RecS} {ys:List Int} (h:RRec w b u xs) (hv:RByt w b' v ys) (hg:w.grownBy w1 v.ownBlock):RRec w1 b u xs :=
 Kd.R_over h hv (fun q hq=>by rw [rec_E q hq];decide) hg
theorem RByt.over {w w1:World} {b b':Nat} {u v:Value} {xs:List RecS} {ys:List Int} (h:RByt w b v ys) (hv:RRec w b' u xs) (hg:w.grownBy w1 u.ownBlock):RByt w1 b v ys :=
 Kd.R_over h hv (fun q hq=>by rw [byt_E q hq];decide) hg
end Go.Proofs.Ytgjibcfkjaedfaa.Rec

namespace Go.Proofs.Ytgjibcfkjaedfaa.Wal
open Go.RowKit Go.Proofs.YtgjibcfkjaedfaaW.PrintWords Go.Proofs.YtgjibcfkjaedfaaW.PrintLast Go.Proofs.YtgjibcfkjaedfaaW.PrintMore Go.Proofs.Ytgjibcfkjaedfaa.Wire Go.Proofs.Ytgjibcfkjaedfaa.Pr Go.Proofs.Ytgjibcfkjaedfaa.Rec
open Go.Proofs.Ytgjibcfkjaedfaa.Back (AllB)
set_option linter.unusedVariables false
set_option linter.unusedSimpArgs false
abbrev r2S:RecS:=⟨2,3,1,0,0,0,⟨#[]⟩,⟨#[]⟩⟩
theorem len2:(frameB (toV r2S)).length=43:=by
 rw [frame_length,body_length]
 rfl
end Go.Proofs.Ytgjibcfkjaedfaa.Wal

namespace Go.Proofs.Ytgjibcfkjaedfaa.Wal
open Go.RowKit Go.Proofs.YtgjibcfkjaedfaaW.PrintWords Go.Proofs.YtgjibcfkjaedfaaW.PrintLast Go.Proofs.YtgjibcfkjaedfaaW.PrintMore Go.Proofs.Ytgjibcfkjaedfaa.Wire Go.Proofs.Ytgjibcfkjaedfaa.Pr Go.Proofs.Ytgjibcfkjaedfaa.Rec
set_option linter.unusedVariables false
set_option linter.unusedSimpArgs false
abbrev rdN (l:List RecS) (k:Nat):RecS:=l.getD k z53
theorem rdN_eq (l:List RecS) (k:Nat):rd_T53 l (k:Int)=rdN l k:=rfl
theorem rdN_take {l:List RecS} {m k:Nat} (h:k < m):rdN (l.take m) k=rdN l k:=by
 unfold rdN
 rw [List.getD_eq_getElem?_getD,List.getD_eq_getElem?_getD,List.getElem?_take_of_lt h]
theorem rdN_left {l:List RecS} {x:RecS} {k:Nat} (h:k < l.length):rdN (l++[x]) k=rdN l k:=by
 unfold rdN
 rw [List.getD_eq_getElem?_getD,List.getD_eq_getElem?_getD,List.getElem?_append_left h]
theorem rdN_last {l:List RecS} {x:RecS}:rdN (l++[x]) l.length=x:=by
 unfold rdN
 rw [List.getD_eq_getElem?_getD,List.getElem?_append_right (Nat.le_refl _)]
 simp
theorem getF_in {l:List RecS} {n:Nat} (h:n < l.length):getF l ((n:Int)+1)=(rdN l n,0):=by
 unfold getF
 rw [if_pos (by omega),show ((n:Int)+1 - 1)=(n:Int) by omega]
 rfl
theorem getF_out {l:List RecS} {n:Nat} (h:l.length≤n):(getF l ((n:Int)+1)).2≠0:=by
 unfold getF
 rw [if_neg (by omega)]
 exact (by decide:(6:Int)≠0)
theorem cutF_in {l:List RecS} {n:Nat} (h:n≤l.length):(cutF l 0 (n:Int)).1=l.take n:=by
 unfold cutF
 rw [if_pos (withinB_iff.2 (by omega))]
 rfl
theorem appF_zero {l:List RecS} {r:RecS} (h:(appF l r).2.2=0):(appF l r).1=l++[withLsn r ((l.length:Int)+1)]:=by
 unfold appF at h ⊢
 split
 ·rename_i h1
  rw [if_pos h1] at h
  split
  ·rename_i h2
   rw [if_pos h2] at h
   exact absurd h (show ¬ (100:Int)=0 by decide)
  ·rename_i h2
   rw [if_neg h2] at h
   split
   ·rename_i h3
    rw [if_pos h3] at h
    exact absurd h (show ¬ (5:Int)=0 by decide)
   ·rfl
 ·rename_i h1
  rw [if_neg h1] at h
  exact absurd h (show ¬ (90:Int)=0 by decide)
theorem chain_lsn:∀ {rs:List RecS} {e a:Int},chainF e a rs=true→∀ k,k < rs.length→(rdN rs k).f0=a+(k:Int)+1
 | [],_,_,_,k,hk=>by simp at hk
 | r::rs,e,a,h,k,hk=>by
  unfold chainF at h
  split at h
  ·rename_i h1
   cases k with
   | zero=>show r.f0=_;omega
   | succ k =>
    have:=chain_lsn h k (by simpa using hk)
    show (rdN rs k).f0=_
    omega
  ·exact absurd h (by decide)
structure CutInv (l0:List RecS) (p k:Nat) (l:List RecS) (cut:Bool) (rs:List RecS):Prop where
 le:p+k≤l.length
 base:p≤l0.length
 pre:l.take p=l0.take p
 eps:∀ i,i < k→(rdN l (p+i)).f1=(rdN rs i).f1
 nc:cut=false→l.take l0.length=l0∧(l.length≤l0.length∨l.length=p+k)
 yc:cut=true→∃ j,p≤j∧j < p+k∧j < l0.length∧l.take j=l0.take j∧(rdN l j).f1≠(rdN l0 j).f1
theorem CutInv.first {l0:List RecS} {p:Nat} (h:p≤l0.length) (rs:List RecS):CutInv l0 p 0 l0 false rs :=
 ⟨h,h,rfl,fun i hi=>by omega,fun _=>⟨List.take_length,.inl (Nat.le_refl _)⟩,fun h=>by cases h⟩
theorem take_snoc {l:List RecS} {x:RecS} {n:Nat} (h:n≤l.length):(l++[x]).take n=l.take n:=List.take_append_of_le_length h
theorem CutInv.step {l0:List RecS} {p k:Nat} {l:List RecS} {cut:Bool} {rs:List RecS} (h:CutInv l0 p k l cut rs) (r:RecS) (hr:rdN rs k=r) (hl:r.f0=(p:Int)+(k:Int)+1) (he:(takeStep l r).2.2=0) :
  CutInv l0 p (k+1) (takeStep l r).1 (cut || (takeStep l r).2.1) rs:=by
 have e1:r.f0=((p+k:Nat):Int)+1:=by omega
 have hle:=h.le
 by_cases hin:p+k < l.length
 ·have hg:=getF_in hin
  rw [← e1] at hg
  by_cases hs:(rdN l (p+k)).f1=r.f1
  ·rw [takeStep_a hg rfl hs]
   dsimp only
   rw [Bool.or_false]
   refine ⟨by omega,h.base,h.pre,fun i hi=>?_,fun hc=>⟨(h.nc hc).1,?_⟩,fun hc=>?_⟩
   ·by_cases hi2:i < k
    ·exact h.eps i hi2
    ·have:i=k:=by omega
     subst this
     rw [hr,hs]
   ·rcases (h.nc hc).2 with h2|h2
    ·exact .inl h2
    ·omega
   ·obtain ⟨j,h1,h2,h3⟩:=h.yc hc
    exact ⟨j,h1,by omega,h3⟩
  ·have hst:=takeStep_b hg rfl hs (q:=appF (l.take (p+k)) r) (by rw [e1,show (((p+k:Nat):Int)+1 - 1)=((p+k:Nat):Int) by omega,cutF_in (by omega)])
   rw [hst] at he ⊢
   dsimp only at he ⊢
   rw [Bool.or_true,appF_zero he]
   have hlt:(l.take (p+k)).length=p+k:=by rw [List.length_take];omega
   obtain ⟨x,hx⟩:∃ x,withLsn r (((l.take (p+k)).length:Int)+1)=x:=⟨_,rfl⟩
   have hxe:x.f1=r.f1:=by rw [← hx];rfl
   rw [hx]
   have hlast:rdN (l.take (p+k)++[x]) (p+k)=x:=by
    have:=rdN_last (l:=l.take (p+k)) (x:=x)
    rwa [hlt] at this
   have hkeep:∀ i,i < p+k→rdN (l.take (p+k)++[x]) i=rdN l i:=fun i hi=>by
    rw [rdN_left (by omega),rdN_take hi]
   have htk:∀ j,j≤p+k→(l.take (p+k)++[x]).take j=l.take j:=fun j hj=>by
    rw [take_snoc (by omega),List.take_take,Nat.min_eq_left hj]
   refine ⟨by rw [List.length_append,hlt,List.length_singleton];omega,h.base,?_,fun i hi=>?_,(fun hc=>by cases hc),fun _=>?_⟩
   ·rw [htk p (by omega)]
    exact h.pre
   ·by_cases hi2:i < k
    ·rw [hkeep _ (by omega)]
     exact h.eps i hi2
    ·have:i=k:=by omega
     subst this
     rw [hlast,hr,hxe]
   ·cases hc:cut with
    | true =>
     obtain ⟨j,h1,h2,h3,h4,h5⟩:=h.yc hc
     exact ⟨j,h1,by omega,h3,by rw [htk j (by omega)];exact h4,by rw [hkeep j h2];exact h5⟩
    | false =>
     obtain ⟨n1,n2⟩:=h.nc hc
     have hll:l.length≤l0.length:=by
      rcases n2 with n2|n2
      ·exact n2
      ·omega
     rw [List.take_of_length_le hll] at n1
     subst n1
     refine ⟨p+k,by omega,by omega,hin,by rw [htk _ (Nat.le_refl _)],?_⟩
     rw [hlast,hxe]
     exact fun e=>hs e.symm
 ·have hg:=getF_out (l:=l) (n:=p+k) (by omega)
  rw [← e1] at hg
  have hst:=takeStep_c (G:=getF l r.f0) rfl hg (q:=appF l r) rfl
  rw [hst] at he ⊢
  dsimp only at he ⊢
  rw [Bool.or_false,appF_zero he]
  refine ⟨by rw [List.length_append,List.length_singleton];omega,h.base,?_,fun i hi=>?_,fun hc=>⟨?_,.inr (by rw [List.length_append,List.length_singleton];omega)⟩,fun hc=>?_⟩
  ·rw [take_snoc (by omega)]
   exact h.pre
  ·by_cases hi2:i < k
   ·rw [rdN_left (by omega)]
    exact h.eps i hi2
   ·have:i=k:=by omega
    subst this
    rw [show p+i=l.length by omega,rdN_last,hr]
    rfl
  ·have h1:=(h.nc hc).1
   have h2:l0.length≤l.length:=by
    have:=congrArg List.length h1
    rw [List.length_take] at this
    omega
   rw [take_snoc h2]
   exact h1
  ·obtain ⟨j,h1,h2,h3,h4,h5⟩:=h.yc hc
   exact ⟨j,h1,by omega,h3,by rw [take_snoc (by omega)];exact h4,by rw [rdN_left (by omega)];exact h5⟩
theorem takeK_cut {l0 rs:List RecS} {p:Nat} (hch:∀ k,k < rs.length→(rdN rs k).f0=(p:Int)+(k:Int)+1):∀ (d k:Nat) (l:List RecS) (cut:Bool) (last:Int),k+d=rs.length→CutInv l0 p k l cut rs→last=(p:Int)+(k:Int)→∀ q,takeK l cut last (rs.drop k)=q →
  (q.2.2.2=0∧CutInv l0 p rs.length q.1 q.2.2.1 rs∧q.2.1=(p:Int)+(rs.length:Int))∨(q.2.1=0∧q.2.2.1=false∧q.2.2.2=5)
 | 0,k,l,cut,last,hk,h,hl,q,hq=>by
  have:k=rs.length:=by omega
  subst this
  rw [List.drop_length] at hq
  subst hq
  exact .inl ⟨rfl,h,hl⟩
 | d+1,k,l,cut,last,hk,h,hl,q,hq=>by
  rw [takeK_drop (show k < rs.length by omega)] at hq
  have hr:=hch k (by omega)
  split at hq
  ·rename_i he
   exact takeK_cut hch d (k+1) _ _ _ (by omega) (h.step _ rfl hr he) (by show (rdN rs k).f0=_;omega) q hq
  ·subst hq
   exact .inr ⟨rfl,rfl,rfl⟩
theorem takeF_cut {l0:List RecS} {ep p:Int} {more l1:List RecS} {n e:Int} {cut:Bool} (hq:takeF l0 ep p more=(l1,n,cut,e)) :
  (e≠0→n=0∧cut=false∧(e=5∨l1=l0))∧(e=0→∃ P:Nat,p=(P:Int)∧CutInv l0 P more.length l1 cut more∧n=(P:Int)+(more.length:Int)):=by
 unfold takeF at hq
 by_cases hw:wrongF l0 ep p more=0
 ·rw [if_pos hw] at hq
  have hall:allR more:=by
   by_cases h1:more.all (fun r=>rightV (toV r))=true
   ·rw [List.all_eq_true] at h1
    exact h1
   ·unfold wrongF at hw
    rw [if_pos (.inl (by simpa using h1))] at hw
    exact absurd hw (by decide)
  have hp:0≤p:=by
   by_cases hp:p < 0
   ·unfold wrongF at hw
    rw [if_pos (.inr hp)] at hw
    exact absurd hw (by decide)
   ·omega
  rw [wrongF_fits hall hp] at hw
  have hf:fitsF l0 ep p more=true:=by
   cases hf:fitsF l0 ep p more
   ·rw [hf] at hw
    exact absurd hw (by decide)
   ·rfl
  unfold fitsF at hf
  split at hf
  ·exact absurd hf (by decide)
  ·rename_i hg
   obtain ⟨P,hP⟩:∃ P:Nat,p=(P:Int):=⟨p.toNat,by omega⟩
   subst hP
   have hPl:P≤l0.length:=by
    by_cases h0:(P:Int)=0
    ·omega
    ·have h2:(getF l0 (P:Int)).2=0:=by
      by_cases h2:(getF l0 (P:Int)).2=0
      ·exact h2
      ·exact absurd ⟨h0,.inl h2⟩ hg
     have:=getF_err h2
     omega
   have hk:=takeK_cut (l0:=l0) (chain_lsn hf) more.length 0 l0 false (P:Int) (by omega) (CutInv.first hPl more) (by omega) _ hq
   rcases hk with ⟨h1,h2,h3⟩|⟨h1,h2,h3⟩
   ·exact ⟨fun h=>absurd h1 h,fun _=>⟨P,rfl,h2,h3⟩⟩
   ·exact ⟨fun _=>⟨h1,h2,.inl h3⟩,fun h=>by rw [show e=5 from h3] at h;exact absurd h (by decide)⟩
 ·rw [if_neg hw] at hq
  injection hq with h1 h2
  injection h2 with h2 h3
  injection h3 with h3 h4
  exact ⟨fun _=>⟨h2.symm,h3.symm,.inr h1.symm⟩,fun h=>absurd (h4.trans h) hw⟩
end Go.Proofs.Ytgjibcfkjaedfaa.Wal

namespace Go.Proofs.Ytgjibcfkjaedfaa.Wal
open Go.RowKit Go.Proofs.YtgjibcfkjaedfaaW.PrintWords Go.Proofs.YtgjibcfkjaedfaaW.PrintLast Go.Proofs.YtgjibcfkjaedfaaW.PrintMore Go.Proofs.Ytgjibcfkjaedfaa.Wire Go.Proofs.Ytgjibcfkjaedfaa.Pr Go.Proofs.Ytgjibcfkjaedfaa.Rec
set_option linter.unusedVariables false
set_option linter.unusedSimpArgs false
theorem neRc (W:World) (a1 a2 a3 a4 a5 a6:Int) (a7 a8:ByteArray) (b1 b2 b3 b4 b5 b6:Int) (b7 b8:ByteArray) (h:a2≠b2):(binOp .neq 53 (.agg #[.int .i64 a1,.int .i64 a2,.int .i64 a3,.int .i64 a4,.int .i64 a5,.int .i64 a6,.string a7,.string a8]) (.agg #[.int .i64 b1,.int .i64 b2,.int .i64 b3,.int .i64 b4,.int .i64 b5,.int .i64 b6,.string b7,.string b8])).run Try.prog W=.ok (.bool true) W:=by
 rw [run_neq_struct,eqA_of (d:=9999) (r:=(a1==b1&&(a2==b2&&(a3==b3&&(a4==b4&&(a5==b5&&(a6==b6&&(a7==b7&&a8==b8)))))))) Try.underlying53 (by kernel_rfl)]
 ·have:(a2==b2)=false:=beq_eq_false_iff_ne.2 h
  simp [this]
 ·exact eqf_cons (a:=.int .i64 a1) (b:=.int .i64 b1) (by decide) (by kernel_rfl) (by kernel_rfl) (by kernel_rfl) (eqf_cons (a:=.int .i64 a2) (b:=.int .i64 b2) (by decide) (by kernel_rfl) (by kernel_rfl) (by kernel_rfl) (eqf_cons (a:=.int .i64 a3) (b:=.int .i64 b3) (by decide) (by kernel_rfl) (by kernel_rfl) (by kernel_rfl) (eqf_cons (a:=.int .i64 a4) (b:=.int .i64 b4) (by decide) (by kernel_rfl) (by kernel_rfl) (by kernel_rfl) (eqf_cons (a:=.int .i64 a5) (b:=.int .i64 b5) (by decide) (by kernel_rfl) (by kernel_rfl) (by kernel_rfl) (eqf_cons (a:=.int .i64 a6) (b:=.int .i64 b6) (by decide) (by kernel_rfl) (by kernel_rfl) (by kernel_rfl) (eqf_cons (a:=.string a7) (b:=.string b7) (by decide) (by kernel_rfl) (by kernel_rfl) (by kernel_rfl) (eqf_last (a:=.string a8) (b:=.string b8) (by decide) (by kernel_rfl) (by kernel_rfl) (by kernel_rfl))))))))
structure Cq (w W:World) (mb:Nat) (ep p:Int) (B1 B2:Option Addr) (l0 l1:List RecS):Prop where
 bf:Kd.C kRec W B1 l0.length l0
 af:Kd.C kRec W B2 l1.length l1
 hd:SnAt 24 W mb ep p
 bw:Below w.heap.size w W
section
variable {w W W1:World} {mb:Nat} {ep p:Int} {B1 B2:Option Addr} {l0 l1:List RecS}
theorem Cq.below (h:Cq w W mb ep p B1 B2 l0 l1) (hB:Below W.heap.size W W1):Cq w W1 mb ep p B1 B2 l0 l1:=⟨Kd.C_below h.bf hB,Kd.C_below h.af hB,h.hd.below hB,below_from2 h.bw (Nat.le_refl _) hB⟩
theorem Cq.num (h:Cq w W mb ep p B1 B2 l0 l1):W.cell? ⟨mb,1,none⟩=some (.int .i64 p):=h.hd.cells.2.1
theorem Cq.at1 {a1 a2:Addr} (h:Cq w W mb ep p (some a1) (some a2) l0 l1) {i:Nat} (h0:i < l0.length) (h1:i < l1.length):(W.cell? ⟨(a2.add (i*8)).block,(a2.add (i*8)).off+1,none⟩=some (.int .i64 (rdN l1 i).f1)∧W.cell? ⟨(a1.add (i*8)).block,(a1.add (i*8)).off+1,none⟩=some (.int .i64 (rdN l0 i).f1))∧W.cell? ⟨mb,1,none⟩=some (.int .i64 p):=by
 obtain ⟨ad,hA,_,hx1,_⟩:=at_T53 h.af (i:Int) (by omega) (by omega)
 obtain ⟨ad2,hA2,_,hy1,_⟩:=at_T53 h.bf (i:Int) (by omega) (by omega)
 injection hA with hA
 injection hA2 with hA2
 subst hA
 subst hA2
 rw [Int.toNat_natCast,rdN_eq] at hx1 hy1
 exact ⟨⟨hx1,hy1⟩,h.num⟩
end
def CqIn (w:World) (m mb:Nat) (ep p:Int) (B1 B2:Option Addr) (l0 l1:List RecS) (v:Value) (wr:World):Prop :=
 ∃ k:Nat,k≤m∧v=.int .i64 k∧Aside0 (Cq w wr mb ep p B1 B2 l0 l1)
theorem row_fresh {w1 W:World} {B n c:Nat} {A:Option Addr} {xs:List RecS} {S ok:Nat→Prop} (h:Kd.R kRec 53 w1 B ok (.slice A n c) xs) (hC:Chg w1 W S) (hS:∀ k,S k→k < B):Kd.C kRec W A xs.length xs :=
 (Kd.R_reads' (Kd.R_step (Kd.R_mono (Kd.R_bound h) (ok':=fun k=>B≤k) (fun k hk=>hk.2.1)) (fun k hk hl=>hC.block k hl (fun hs=>by have:=hS k hs;omega)))).2.2
set_option maxHeartbeats 16000000 in
set_option maxRecDepth 100000 in
theorem shipCut_ok (A0:Option Addr) (c0:Nat) (rs:List RecS) (ep p:Int) (A1:Option Addr) (c1:Nat) (more:List RecS) (w:World) (hr0:Kd.C kRec w A0 rs.length rs) (hv0:∀ x ∈ rs,x.f7.size≤140737488351232) (hr1:Kd.C kRec w A1 more.length more) (hv1:∀ x ∈ more,x.f7.size≤140737488351232) :
  Calls Try.prog 5 #[.slice A0 rs.length c0,.agg #[.int .i64 ep,.int .i64 p],.slice A1 more.length c1] w fun e w'=>e=.returned (.bool true)∧Below w.heap.size w w':=by
 have HB:=Aside0.mk (below_alloc (Below.refl w.heap.size w) (.cells #[.int .i64 ep,.int .i64 p] 24))
 have HN:=Aside0.mk (show SnAt 24 (w.alloc (.cells #[.int .i64 ep,.int .i64 p] 24)) w.heap.size ep p from blk_newN _ _)
 have hbo:=both_ok A0 c0 rs (w.alloc (.cells #[.int .i64 ep,.int .i64 p] 24)) (Kd.C_below hr0 HB.out) hv0
 rw [alloc_size] at hbo
 have HX:=Aside0.mk hr1
 have hna:more.length≤9223372036854775807:=hr1.2.1
 have HLO:=Aside0.mk (logF_ok rs)
 have HLT:=Aside0.mk ((logF_ok rs).takeF ep p more)
 obtain ⟨⟨l1,n1,cut1,e1⟩,hq⟩:∃ q,takeF (logF rs) ep p more=q:=⟨_,rfl⟩
 have HT1:=Aside0.mk (fun (W:World) (g:Nat) (ok:Nat→Prop) (h:LogAt 98 W ok g (logF rs) 0) (hok:∀ k,ok k→k < W.heap.size) (hst:∀ W',Chg W W' ok→Kd.C kRec W' A1 more.length more)=>stake_ok h hok HLO.out ep p A1 c1 more hst hv1)
 have hcq:=takeF_cut hq
 rw [hq] at HT1 HLT
 dsimp only at HT1 HLT
 generalize logF rs=l0 at hbo HT1 HLO hcq
 have HF1:=Aside0.mk (fun (W:World) (g:Nat) (ok:Nat→Prop) (h:LogAt 98 W ok g l0 0)=>from_ok h (by have:=HLO.out.len;omega) 1 100000)
 rw [fromF_all HLO.out.len (by decide)] at HF1
 have HF2:=Aside0.mk (fun (W:World) (g:Nat) (ok:Nat→Prop) (h:LogAt 98 W ok g l1 0)=>from_ok h (by have:=HLT.out.len;omega) 1 100000)
 rw [fromF_all HLT.out.len (by decide)] at HF2
 have HCQ:=Aside0.mk hcq
 obtain ⟨m0,m1,mf0,mf1⟩:=HN.out.cells
 clear hr0 hv0 hr1 hv1 hq hcq
 go_enter Try.func5,Try.ntmps5
 go_upto_region 5 with (first
  | (go_at_call 14;(with_reducible refine hbo.mono ?_);rintro e w1 ⟨g,g',rfl,hT,hB⟩;rw [← alloc_size w (.cells #[.int .i64 ep,.int .i64 p] 24)] at hB;clear m0 m1 mf0 mf1;(replace HN:=Aside0.mk (HN.out.below hB));(replace HB:=Aside0.mk (below_from2 HB.out (Nat.le_refl _) hB));obtain ⟨m0,m1,mf0,mf1⟩:=HN.out.cells;obtain ⟨ok0,ok0',q1,q2,q3,q4,q5⟩:=hT;(have HQ1:=Aside0.mk q1.bound);(have HQ4:=Aside0.mk q4);(have hf1:=HF1.out _ _ _ HQ1.out);clear hB hbo q1 q2 q3 q4 q5)
  | (go_at_call 18;(with_reducible refine hf1.mono ?_);rintro e w2 ⟨B1,d1,rfl,hR,hB⟩;(have HR1:=Aside0.mk hR);(have HRC:=Aside0.mk (Kd.R_reads' hR).2.1);clear m0 m1 mf0 mf1;(replace HN:=Aside0.mk (HN.out.below hB));(have HQ2:=Aside0.mk (HQ1.out.below hB));(replace HB:=Aside0.mk (below_from2 HB.out (Nat.le_refl _) hB));obtain ⟨m0,m1,mf0,mf1⟩:=HN.out.cells;(have hs:=HT1.out _ _ _ HQ2.out (fun k hk=>Nat.lt_of_lt_of_le hk.2 hB.size) (fun W' hC=>Kd.C_below HX.out (HB.out.trans (hC.below HB.out.size (fun k hk=>Nat.le_of_succ_le (HQ4.out k hk.1))))));clear hB hR hf1)
  | (go_at_call 15;(with_reducible refine hs.mono ?_);rintro e w3 ⟨rfl,hL,hC⟩;clear m0 m1 mf0 mf1;(have HBF:=Aside0.mk (row_fresh HR1.out hC (fun k hk=>hk.2)));(replace HN:=Aside0.mk (HN.out.chg hC (fun h=>by have:=HQ4.out _ h.1;omega)));obtain ⟨m0,m1,mf0,mf1⟩:=HN.out.cells;(replace HB:=Aside0.mk (HB.out.trans (hC.below HB.out.size (fun k hk=>Nat.le_of_succ_le (HQ4.out k hk.1)))));(have hf2:=HF2.out _ _ _ hL);clear hL hC hs)
  | (go_at_call 18;(with_reducible refine hf2.mono ?_);rintro e w4 ⟨B2,d2,rfl,hR,hB⟩;clear m0 m1 mf0 mf1;(have HRD:=Aside0.mk (Kd.R_reads' hR).2.1);(have HC:=Aside0.mk (show Cq w w4 w.heap.size ep p B1 B2 l0 l1 from ⟨Kd.C_below HBF.out hB,(Kd.R_reads' hR).2.2,HN.out.below hB,below_from2 HB.out (Nat.le_refl _) hB⟩));clear hB hR hf2))
 clear HR1 HQ1 HQ2 HQ4 HBF HN HB HT1 HF1 HF2
 by_cases he:e1=0
 ·obtain ⟨P,hP,hinv,hn⟩:=HCQ.out.2 he
  subst hP
  have hle:=hinv.le
  have hba:=hinv.base
  have hl1:=HLT.out.len
  have hl0:=HLO.out.len
  have HI:=Aside0.mk hinv
  have g0:(e1==0)=true:=by simp [he]
  have g0n:(e1 != 0)=false:=by simp [bne,g0]
  have g1:decide (n1 > (l1.length:Int))=false:=decide_eq_false (by omega)
  have g1':¬ n1 > (l1.length:Int):=by omega
  have g2:decide ((P:Int) > (l0.length:Int))=false:=decide_eq_false (by omega)
  have g2':¬ (P:Int) > (l0.length:Int):=by omega
  have hcut1:∀ W:World,(Instr.slice 22 (.slice B2 l1.length d2) none (some (.int .i64 (P:Int))) none).run Try.prog W=.ok (.slice B2 P d2) W:=by
   intro W
   have hrd:=HRD.out
   have h:=cut_to (P:=Try.prog) 22 53 .i64 Try.underlying22 (info_parts infoRec).choose_spec.1 B2 l1.length d2 (P:Int) (by omega) (by omega) (by omega) W
   rw [Int.toNat_natCast] at h
   exact h
  have hcut2:∀ W:World,(Instr.slice 22 (.slice B1 l0.length d1) none (some (.int .i64 (P:Int))) none).run Try.prog W=.ok (.slice B1 P d1) W:=by
   intro W
   have hrd:=HRC.out
   have h:=cut_to (P:=Try.prog) 22 53 .i64 Try.underlying22 (info_parts infoRec).choose_spec.1 B1 l0.length d1 (P:Int) (by omega) (by omega) (by omega) W
   rw [Int.toNat_natCast] at h
   exact h
  have HRS:Aside0 (∀ W:World,Cq w W w.heap.size ep (P:Int) B1 B2 l0 l1→Calls Try.prog 17 #[.slice B2 P d2,.slice B1 P d1] W fun e w'=>e=.returned (.bool true)∧Below W.heap.size W w'):=⟨fun W h=>by
   have hlen:(l1.take P).length=P:=by rw [List.length_take];omega
   have hrd:=HRD.out
   have hrc:=HRC.out
   have h1:=Kd.C_take h.af (show P≤l1.length by omega)
   have h2:=Kd.C_take h.bf (show P≤l0.length by omega)
   rw [← hinv.pre] at h2
   have:=records_same B2 d2 B1 d1 (l1.take P) W h1 (by omega) h2 (by omega) (by omega)
   rw [hlen] at this
   exact this⟩
  have hcl:=HC.out.num
  clear he hn hle hba hinv HCQ
  go_upto_region 7 with (fail)
  go_region_held3 (fun W=>W.cell? ⟨w.heap.size,1,none⟩=some (.int .i64 (P:Int)))
   (first|(with_reducible exact HC.out.num)|(with_reducible exact (HC.out.below (below_drew (Below.refl _ _))).num))
   (first
    | (go_at_call 17;(with_reducible refine (HRS.out _ (HC.out.below (below_drew (Below.refl _ _)))).mono ?_);rintro e w5 ⟨rfl,hB⟩;(replace hB:=below_pastC hB);clear hcl;(replace HC:=Aside0.mk (HC.out.below hB));(have hcl:=HC.out.num);clear hB))
  all_goals
   clear hcut1 hcut2 hcl
   go_wp2
   go_loopw [79] (fun v79 wr=>CqIn w more.length w.heap.size ep (P:Int) B1 B2 l0 l1 v79 wr) (fun v79 _=>more.length - (intOf v79).toNat)
   case atStart=>exact ⟨0,by omega,rfl,HC⟩
   case round =>
    clear HC
    obtain ⟨k,hk,rfl,HC⟩:=hrel
    by_cases hlt:k < more.length
    ·have hltI:(k:Int) < (more.length:Int):=by omega
     have hk0:(0:Int)≤(k:Int):=by omega
     have hle:=HI.out.le
     have hPk:((P+k:Nat):Int) < (l1.length:Int):=by omega
     have hPk0:(0:Int)≤((P+k:Nat):Int):=by omega
     have hw:IntKind.i64.wrap ((P:Int)+(k:Int))=((P+k:Nat):Int):=by rw [IntKind.wrap_i64];omega
     have hw2:wrap64 ((P:Int)+(k:Int))=((P+k:Nat):Int):=by unfold wrap64;omega
     have hep:=HI.out.eps k hlt
     obtain ⟨ad,rfl,hx0,hx1,hx2,hx3,hx4,hx5,hx6,hx7⟩:=at_T53 (Kd.C_below HX.out HC.out.bw) (k:Int) hk0 hltI
     rw [Int.toNat_natCast] at hx0 hx1 hx2 hx3 hx4 hx5 hx6 hx7
     rw [rdN_eq] at hx0 hx1 hx2 hx3 hx4 hx5 hx6 hx7
     generalize rdN more k=x at hx0 hx1 hx2 hx3 hx4 hx5 hx6 hx7 hep
     obtain ⟨x0,x1,x2,x3,x4,x5,x6,x7⟩:=x
     dsimp only at hx0 hx1 hx2 hx3 hx4 hx5 hx6 hx7 hep
     have HBX:=Aside0.mk (rc_new wr x0 x1 x2 x3 x4 x5 x6 x7)
     obtain ⟨⟨b0,b1,b2,b3,b4,b5,b6,b7⟩,_⟩:=HBX.out.cells
     have HCB:=Aside0.mk (HC.out.below (below_alloc (Below.refl wr.heap.size wr) (.cells #[.int .i64 x0,.int .i64 x1,.int .i64 x2,.int .i64 x3,.int .i64 x4,.int .i64 x5,.string x6,.string x7] 53)))
     obtain ⟨ad2,hB2,hy0,hy1,hy2,hy3,hy4,hy5,hy6,hy7⟩:=at_T53 HCB.out.af ((P+k:Nat):Int) hPk0 hPk
     rw [Int.toNat_natCast,rdN_eq,hep] at hy1
     have hcl:=HCB.out.num
     have g3:(x1==x1)=true:=by simp
     have g3n:(x1 != x1)=false:=by simp
     subst hB2
     clear HC hep hy0 hy2 hy3 hy4 hy5 hy6 hy7 hle
     go_wp2
     repeat (go_quiet (fail);try go_wp2)
     go_roundw
     case rel=>exact ⟨k+1,by omega,by go_num,⟨HCB.out.below (Drawn0.below (by repeat (first|exact Drawn0.refl _|apply Drawn0.step)))⟩⟩
     case measure=>simp [intOf];omega
    ·have hge:¬ (k:Int) < (more.length:Int):=by omega
     clear hlt
     cases cut1 with
     | false =>
      obtain ⟨hnc,_⟩:=HI.out.nc rfl
      have hll:l0.length≤l1.length:=by
       have:=congrArg List.length hnc
       rw [List.length_take] at this
       omega
      have g4:decide ((l1.length:Int)≥(l0.length:Int))=true:=decide_eq_true (by omega)
      have g4':(l1.length:Int)≥(l0.length:Int):=by omega
      have hcut:∀ W:World,(Instr.slice 22 (.slice B2 l1.length d2) none (some (.int .i64 (l0.length:Int))) none).run Try.prog W=.ok (.slice B2 l0.length d2) W:=by
       intro W
       have hrd:=HRD.out
       have h:=cut_to (P:=Try.prog) 22 53 .i64 Try.underlying22 (info_parts infoRec).choose_spec.1 B2 l1.length d2 (l0.length:Int) (by omega) (by omega) (by omega) W
       rw [Int.toNat_natCast] at h
       exact h
      have HRT:Aside0 (∀ W:World,Cq w W w.heap.size ep (P:Int) B1 B2 l0 l1→Calls Try.prog 17 #[.slice B2 l0.length d2,.slice B1 l0.length d1] W fun e w'=>e=.returned (.bool true)∧Below W.heap.size W w'):=⟨fun W h=>by
       have hrd:=HRD.out
       have h1:=Kd.C_take h.af hll
       rw [hnc] at h1
       exact records_same B2 d2 B1 d1 l0 W h1 (by omega) h.bf HRC.out (by omega)⟩
      clear hnc hll
      go_wp2_with (first
       | (go_at_call 17;(with_reducible refine (HRT.out _ HC.out).mono ?_);rintro e w6 ⟨rfl,hB⟩;(replace HC:=Aside0.mk (HC.out.below hB));clear hB)
       | (go_at_call 19;(with_reducible refine (speaks20_ok _).mono ?_);rintro e w7 ⟨rfl,hB⟩;(replace HC:=Aside0.mk (HC.out.below hB));clear hB))
      go_ret
      exact ⟨rfl,HC.out.bw⟩
     | true =>
      obtain ⟨j,hj1,hj2,hj3,hj4,hj5⟩:=HI.out.yc rfl
      have hle:=HI.out.le
      have HJ4:=Aside0.mk hj4
      have HJ5:=Aside0.mk hj5
      have hj6:j < l1.length:=by omega
      clear hj4 hj5 hle
      go_wp2
      go_loopw [116] (fun v116 wr=>CqIn w j w.heap.size ep (P:Int) B1 B2 l0 l1 v116 wr) (fun v116 _=>l1.length - (intOf v116).toNat)
      case atStart=>exact ⟨0,by omega,rfl,HC⟩
      case round =>
       clear HC
       obtain ⟨i,hi,rfl,HC⟩:=hrel
       have hi0:(0:Int)≤(i:Int):=by omega
       have hi1:(i:Int) < (l1.length:Int):=by omega
       have hi2:(i:Int) < (l0.length:Int):=by omega
       have d1':decide ((i:Int) < (l0.length:Int))=true:=decide_eq_true hi2
       obtain ⟨ad,hA,hx0,hx1,hx2,hx3,hx4,hx5,hx6,hx7⟩:=at_T53 HC.out.af (i:Int) hi0 hi1
       obtain ⟨ad2,hA2,hy0,hy1,hy2,hy3,hy4,hy5,hy6,hy7⟩:=at_T53 HC.out.bf (i:Int) hi0 hi2
       rw [Int.toNat_natCast] at hx0 hx1 hx2 hx3 hx4 hx5 hx6 hx7 hy0 hy1 hy2 hy3 hy4 hy5 hy6 hy7
       rw [rdN_eq] at hx0 hx1 hx2 hx3 hx4 hx5 hx6 hx7 hy0 hy1 hy2 hy3 hy4 hy5 hy6 hy7
       subst hA
       subst hA2
       have hcl:=HC.out.num
       by_cases hij:i < j
       ·have hsame:rdN l1 i=rdN l0 i:=by
         have h1:=rdN_take (l:=l1) hij
         rw [HJ4.out,rdN_take hij] at h1
         exact h1.symm
        rw [hsame] at hx0 hx1 hx2 hx3 hx4 hx5 hx6 hx7
        generalize rdN l0 i=x at hx0 hx1 hx2 hx3 hx4 hx5 hx6 hx7 hy0 hy1 hy2 hy3 hy4 hy5 hy6 hy7
        obtain ⟨x0,x1,x2,x3,x4,x5,x6,x7⟩:=x
        dsimp only at hx0 hx1 hx2 hx3 hx4 hx5 hx6 hx7 hy0 hy1 hy2 hy3 hy4 hy5 hy6 hy7
        have hne:=fun W=>neqRc W x0 x1 x2 x3 x4 x5 x6 x7
        clear hsame
        go_wp2
        repeat (go_quiet (fail);try go_wp2)
        go_roundw
        case rel=>exact ⟨i+1,by omega,by go_num,⟨HC.out.below (Drawn0.below (by repeat (first|exact Drawn0.refl _|apply Drawn0.step)))⟩⟩
        case measure=>simp [intOf];omega
       ·have hji:i=j:=by omega
        subst hji
        have h5:=HJ5.out
        have HCS:=Aside0.mk (fun (W:World) (h:Cq w W w.heap.size ep (P:Int) (some ad2) (some ad) l0 l1)=>h.at1 hj3 hj6)
        generalize rdN l0 i=x at HCS hy0 hy1 hy2 hy3 hy4 hy5 hy6 hy7 h5
        generalize rdN l1 i=y at HCS hx0 hx1 hx2 hx3 hx4 hx5 hx6 hx7 h5
        obtain ⟨x0,x1,x2,x3,x4,x5,x6,x7⟩:=x
        obtain ⟨y0,y1,y2,y3,y4,y5,y6,y7⟩:=y
        dsimp only at hx0 hx1 hx2 hx3 hx4 hx5 hx6 hx7 hy0 hy1 hy2 hy3 hy4 hy5 hy6 hy7 h5 HCS
        have hne:=fun W=>neRc W y0 y1 y2 y3 y4 y5 y6 y7 x0 x1 x2 x3 x4 x5 x6 x7 h5
        have g6:(y1==x1)=false:=beq_eq_false_iff_ne.2 h5
        have g6n:(y1 != x1)=true:=by simp [bne,g6]
        have g7:decide ((i:Int)≥(P:Int))=true:=decide_eq_true (by omega)
        have g7':(i:Int)≥(P:Int):=by omega
        clear h5 hij
        go_wp2
        go_quiet (fail)
        have HCw:=Aside0.mk (HC.out.below (Drawn0.below ((Drawn0.refl wr).step (nq+1))))
        replace HC:=Aside0.mk (HC.out.below (Drawn0.below ((Drawn0.refl wr).step nq)))
        clear hx0 hx1 hx2 hx3 hx4 hx5 hx6 hx7 hy0 hy1 hy2 hy3 hy4 hy5 hy6 hy7 hcl
        go_upto_region 21 with (fail)
        go_region_held3 (fun W=>(W.cell? ⟨(ad.add (i*8)).block,(ad.add (i*8)).off+1,none⟩=some (.int .i64 y1)∧W.cell? ⟨(ad2.add (i*8)).block,(ad2.add (i*8)).off+1,none⟩=some (.int .i64 x1))∧W.cell? ⟨w.heap.size,1,none⟩=some (.int .i64 (P:Int)))
         (first|(with_reducible exact HCS.out _ HC.out)|(with_reducible exact HCS.out _ (HC.out.below (below_drew (Below.refl _ _)))))
         (first
          | (go_at_call 19;(with_reducible refine (speaks20_ok _).mono ?_);rintro e w7 ⟨rfl,hB⟩;(replace HC:=Aside0.mk (HCw.out.below hB));clear hB))
        all_goals
         go_wp2
         go_ret
         exact ⟨rfl,HC.out.bw⟩
 ·obtain ⟨hn0,hc0,h5⟩:=HCQ.out.1 he
  subst hn0
  subst hc0
  have g0:(e1==0)=false:=by simp [he]
  have g0n:(e1 != 0)=true:=by simp [bne,g0]
  by_cases h55:e1=5
  ·have g5:(e1==5)=true:=by simp [h55]
   clear he h55 h5 HCQ
   go_wp2_with (go_at_call 19;(with_reducible refine (speaks20_ok _).mono ?_);rintro e w7 ⟨rfl,hB⟩;(replace HC:=Aside0.mk (HC.out.below hB));clear hB)
   go_ret
   exact ⟨rfl,HC.out.bw⟩
  ·have g5:(e1==5)=false:=by simp [h55]
   have hl:=h5.resolve_left h55
   subst hl
   have hrs:=records_same B1 d1 B2 d2 l1 w4 HC.out.bf HRC.out HC.out.af HRD.out (by have:=HLT.out.len;omega)
   clear he h55 h5 HCQ
   go_wp2_with (first
    | (go_at_call 17;(with_reducible refine hrs.mono ?_);rintro e w6 ⟨rfl,hB⟩;(replace HC:=Aside0.mk (HC.out.below hB));clear hB hrs)
    | (go_at_call 19;(with_reducible refine (speaks20_ok _).mono ?_);rintro e w7 ⟨rfl,hB⟩;(replace HC:=Aside0.mk (HC.out.below hB));clear hB))
   go_ret
   exact ⟨rfl,HC.out.bw⟩
end Go.Proofs.Ytgjibcfkjaedfaa.Wal

namespace Go.Proofs.Ytgjibcfkjaedfaa.Pr
open Go.RowKit Go.Proofs.YtgjibcfkjaedfaaW.PrintWords Go.Proofs.YtgjibcfkjaedfaaW.PrintLast Go.Proofs.YtgjibcfkjaedfaaW.PrintMore
attribute [local go_sem] max2_int min2_int max_two min_two max_three min_three max_four min_four
set_option linter.unusedVariables false
set_option linter.unusedSimpArgs false
noncomputable def latticelaw20_ShipCut.f (a0:List S53) (a1_0 a1_1:Int) (a2:List S53):Option Bool:=@ite _ ((∀ x ∈ a0,x.f7.size≤140737488351232)∧(∀ x ∈ a2,x.f7.size≤140737488351232)) (Classical.propDecidable _) (some true) none
theorem latticelaw20_ShipCut.calls (A0:Option Addr) (c0:Nat) (a0:List S53) (a1_0 a1_1:Int) (A2:Option Addr) (c2:Nat) (a2:List S53) (r:Bool) (w:World) (hr0:Kd.C k53 w A0 a0.length a0) (hc0:a0.length≤c0) (hr2:Kd.C k53 w A2 a2.length a2) (hc2:a2.length≤c2) (h:latticelaw20_ShipCut.f a0 a1_0 a1_1 a2=some r) :
  Calls Try.prog 5 #[.slice A0 a0.length c0,.agg #[.int .i64 a1_0,.int .i64 a1_1],.slice A2 a2.length c2] w fun e w'=>e=.returned (.bool r)∧Below w.heap.size w w':=by
 unfold latticelaw20_ShipCut.f at h
 split at h
 ·rename_i hn
  injection h with h
  subst h
  exact Wal.shipCut_ok A0 c0 a0 a1_0 a1_1 A2 c2 a2 w hr0 hn.1 hr2 hn.2
 ·cases h
end Go.Proofs.Ytgjibcfkjaedfaa.Pr

namespace Go.Proofs.Ytgjibcfkjaedfaa.Open
open Go.RowKit Go.ChangeShapes Go.WideShapes Go.Proofs.YtgjibcfkjaedfaaW.PrintWords
abbrev reachN:Nat:=140737488351232
structure Opn (P:Program) (t:TypeId) {α:Type} (d:Kd α) (g:α→Prop) (m:α→Nat):Prop where
 sz:P.cellsOf t=d.sz
 out:∀ (H:Type) (enc:TypeId×Value→H) (W:World) (n:Nat) (cs:List Value) (x:DataW H×List MemPlace),DataW.trod enc P W 0 (fun _=>true) true n t cs=some x →
  (∀ q ∈ x.1.weights P t,q≤reachN)→∃ y:α,d.K W y cs∧g y∧m y≤Rows.uptoBulk x.1
section
variable {P:Program} {t e:TypeId}
theorem opn_int {k:IntKind} (ht:P.underlying t=some (.int k)) (hc:P.cellsOf t=1):Opn P t (Kd.int k) (fun y=>(Lit.int k y).wf=true) (fun _=>1) where
 sz:=hc
 out:=by
  intro H enc W n cs x h _
  obtain ⟨y,rfl,rfl,hw⟩:=DataW.trod_int ht h
  exact ⟨y,rfl,hw,Nat.le_refl _⟩
theorem opn_string (ht:P.underlying t=some .string) (hc:P.cellsOf t=1):Opn P t Kd.string (fun y=>y.size≤reachN) (fun y=>y.size+1) where
 sz:=hc
 out:=by
  intro H enc W n cs x h hq
  obtain ⟨y,rfl,rfl,hw⟩:=DataW.trod_string ht h
  have:=hq y.data.toList.length (by simp [DataW.weights])
  exact ⟨y,rfl,by simpa using this,by simp [Rows.uptoBulk]⟩
theorem list_of {α:Type} (p:Nat→α→Prop):∀ len,(∀ i,i < len→∃ y,p i y)→∃ ys:List α,ys.length=len∧∀ i y,ys[i]?=some y→p i y
 | 0,_=>⟨[],rfl,fun i y h=>by simp at h⟩
 | len+1,h=>by
  obtain ⟨ys,hl,hy⟩:=list_of p len (fun i hi=>h i (by omega))
  obtain ⟨y,hp⟩:=h len (by omega)
  refine ⟨ys++[y],by simp [hl],fun i z hz=>?_⟩
  by_cases hi:i < len
  ·rw [List.getElem?_append_left (by omega)] at hz
   exact hy i z hz
  ·by_cases he:i=len
   ·subst he
    rw [List.getElem?_append_right (by omega),hl] at hz
    simp at hz
    subst hz
    exact hp
   ·rw [List.getElem?_eq_none (by simp;omega)] at hz
    cases hz
theorem bulk_sum {H α:Type} (m:α→Nat):∀ (ys:List α) (es:List (DataW H)),ys.length=es.length→(∀ (i:Nat) (y:α) (x:DataW H),ys[i]?=some y→es[i]?=some x→m y≤Rows.uptoBulk x)→(ys.map m).sum≤Rows.uptoBulkAll es
 | [],[],_,_=>by simp
 | [],_::_,h,_=>by simp at h
 | _::_,[],h,_=>by simp at h
 | y::ys,x::es,h,hm=>by
  have ih:=bulk_sum m ys es (by simpa using h) (fun i a b ha hb=>hm (i+1) a b (by simpa using ha) (by simpa using hb))
  have h0:=hm 0 y x rfl rfl
  simp only [List.map_cons,List.sum_cons,Rows.uptoBulkAll]
  omega
theorem addr_add (a:Addr) (x y:Nat):(a.add x).add y=a.add (x+y):=by
 by_cases hx:x=0
 ·subst hx;simp [Addr.add]
 ·by_cases hy:y=0
  ·subst hy;simp [Addr.add]
  ·simp [Addr.add,hx,hy,Nat.add_assoc]
theorem weights_all {H:Type} {P:Program} {e:TypeId}:∀ (es:List (DataW H)) (x:DataW H),x ∈ es→∀ q ∈ x.weights P e,q ∈ DataW.weightsAll P e es
 | [],_,h=>by simp at h
 | y::r,x,h=>by
  intro q hq
  simp only [DataW.weightsAll,List.mem_append]
  rcases List.mem_cons.1 h with rfl|h
  ·exact .inl hq
  ·exact .inr (weights_all r x h q hq)
theorem opn_slice {α:Type} {d:Kd α} {g:α→Prop} {m:α→Nat} {B:Nat} (ht:P.underlying t=some (.slice e)) (hc:P.cellsOf t=1) (hB:P.bytesOf e=B) (he:Opn P e d g m) :
  Opn P t (Kd.slice e d) (fun xs=>xs.length≤maxLen∧xs.length*B≤reachN∧∀ y ∈ xs,g y) (fun xs=>(xs.map m).sum+1) where
 sz:=hc
 out:=by
  intro H enc W n cs x h hq
  rcases DataW.trod_slice ht h with ⟨rfl,rfl⟩|⟨a,len,cap,elems,rest,n,_,rfl,rfl,hb,hl,hm,hlen,hel,hsp,_⟩
  ·exact ⟨[],⟨none,0,rfl,Nat.le_refl _,Kd.C_nil d W⟩,⟨by simp,by simp,by simp⟩,by simp [Rows.uptoBulk]⟩
  ·have hw:∀ q ∈ DataW.weightsAll P e (elems.map (·.1)),q≤reachN:=fun q hq'=>hq q (by simp only [DataW.weights,ht];exact List.mem_cons_of_mem _ (List.mem_append_left _ hq'))
   have h0:=hq (((elems.map (·.1)).length+(rest.map (·.1)).length)*P.bytesOf e) (by simp only [DataW.weights,ht];exact List.mem_cons_self)
   have each:∀ i,i < len→∃ y:α,∃ c:List Value,∃ z:DataW H×List MemPlace,elems[i]?=some z∧d.K W y c∧g y∧m y≤Rows.uptoBulk z.1∧∀ j u,c[j]?=some u→W.cell? (a.add (i*d.sz+j))=some u:=by
    intro i hi
    have h1:=hel i hi
    rw [List.getElem?_eq_getElem (by omega)] at h1
    obtain ⟨c,hcs,hx⟩:=Option.bind_eq_some_iff.1 h1
    obtain ⟨_,hcl,hcell⟩:=World.cells?_some hcs
    obtain ⟨y,hy,hg,hbk⟩:=he.out H enc W n c _ hx (fun q hq'=>hw q (weights_all _ _ (List.mem_map_of_mem (List.getElem_mem (by omega))) q hq'))
    refine ⟨y,c,_,List.getElem?_eq_getElem (by omega),hy,hg,hbk,fun j u hu=>?_⟩
    have hj:j < P.cellsOf e:=by
     have:=(List.getElem?_eq_some_iff.1 hu).1
     omega
    have h2:=hcell j hj
    rw [hu,he.sz,addr_add] at h2
    exact h2
   obtain ⟨ys,hyl,hys⟩:=list_of _ len each
   have hyl2:ys.length=elems.length:=by omega
   refine ⟨ys,⟨some a,cap,by rw [hyl],by omega,?_⟩,⟨by omega,?_,?_⟩,?_⟩
   ·refine ⟨rfl,by unfold maxLen at hm;omega,fun _=>⟨a,rfl,fun j p hp=>?_⟩⟩
    obtain ⟨c,z,_,hK,_,_,hcell⟩:=hys j p hp
    exact ⟨c,d.K_len hK,hK,hcell⟩
   ·rw [hB] at h0
    simp only [List.length_map] at h0
    have:ys.length*B≤(elems.length+rest.length)*B:=Nat.mul_le_mul_right _ (by omega)
    omega
   ·intro y hy
    obtain ⟨j,hj,rfl⟩:=List.getElem_of_mem hy
    obtain ⟨c,z,_,_,hg,_⟩:=hys j _ (List.getElem?_eq_getElem hj)
    exact hg
   ·have:=bulk_sum m ys (elems.map (·.1)) (by simp [hyl2]) (fun i y z hy hz=>by
     obtain ⟨c,z',h2,_,_,h3,_⟩:=hys i y hy
     rw [List.getElem?_map,h2] at hz
     simp at hz
     subst hz
     exact h3)
    simp only [Rows.uptoBulk]
    omega
structure OpnF (P:Program) (fs:List Field) (o:Nat) {α:Type} (d:Kd α) (g:α→Prop) (m:α→Nat):Prop where
 out:∀ (H:Type) (enc:TypeId×Value→H) (W:World) (n:Nat) (cs:List Value) (xs:List (DataW H×List MemPlace)),cs.length=o+d.sz→xs.length=fs.length →
  (∀ (i:Nat) (f:Field),fs[i]?=some f→DataW.trod enc P W 0 (fun _=>true) true n f.type ((cs.drop f.offset).take (P.cellsOf f.type))=xs[i]?) →
  (∀ q ∈ DataW.weightsEach P (fs.map (·.type)) (xs.map (·.1)),q≤reachN)→∃ y:α,d.K W y (cs.drop o)∧g y∧m y≤Rows.uptoBulkAll (xs.map (·.1))
theorem opnF_last {α:Type} {f:Field} {o:Nat} {d:Kd α} {g:α→Prop} {m:α→Nat} (hf:f.offset=o) (h:Opn P f.type d g m):OpnF P [f] o d g m where
 out:=by
  intro H enc W n cs xs hcs hxs hel hq
  match xs,hxs with
  | [x],_ =>
   have h0:=hel 0 f rfl
   rw [hf,h.sz,List.take_of_length_le (by rw [List.length_drop];omega)] at h0
   obtain ⟨y,hy,hg,hb⟩:=h.out H enc W n _ x (by simpa using h0) (fun q hq'=>hq q (by simp [DataW.weightsEach];exact hq'))
   exact ⟨y,hy,hg,by simp [Rows.uptoBulkAll];exact hb⟩
theorem opnF_cons {α β:Type} {f:Field} {fs:List Field} {o:Nat} {a:Kd α} {b:Kd β} {g:α→Prop} {m:α→Nat} {g':β→Prop} {m':β→Nat} (hf:f.offset=o) (h:Opn P f.type a g m) (hr:OpnF P fs (o+a.sz) b g' m') :
  OpnF P (f::fs) o (Kd.pair a b) (fun y=>g y.1∧g' y.2) (fun y=>m y.1+m' y.2) where
 out:=by
  intro H enc W n cs xs hcs hxs hel hq
  match xs,hxs with
  | x::xs,hxs =>
   have hsz:(Kd.pair a b).sz=a.sz+b.sz:=rfl
   have h0:=hel 0 f rfl
   rw [hf,h.sz] at h0
   obtain ⟨y,hy,hg,hb⟩:=h.out H enc W n _ x (by simpa using h0) (fun q hq'=>hq q (by simp only [List.map_cons,DataW.weightsEach];exact List.mem_append_left _ hq'))
   obtain ⟨z,hz,hg',hb'⟩:=hr.out H enc W n cs xs (by omega) (by simpa using hxs) (fun i f' hf'=>by simpa using hel (i+1) f' (by simpa using hf')) (fun q hq'=>hq q (by simp only [List.map_cons,DataW.weightsEach];exact List.mem_append_right _ hq'))
   refine ⟨(y,z),⟨(cs.drop o).take a.sz,cs.drop (o+a.sz),?_,hy,hz⟩,⟨hg,hg'⟩,?_⟩
   ·rw [← List.drop_drop,List.take_append_drop]
   ·simp only [List.map_cons,Rows.uptoBulkAll]
    omega
theorem opn_struct {α β:Type} {fs:Array Field} {d:Kd α} {g:α→Prop} {m:α→Nat} (ht:P.underlying t=some (.struct fs)) (hc:P.cellsOf t=d.sz) (h:OpnF P fs.toList 0 d g m) (f:β→α) (inv:α→β) (hfi:∀ a,f (inv a)=a) :
  Opn P t (Kd.iso d f) (fun y=>g (f y)) (fun y=>m (f y)+1) where
 sz:=hc
 out:=by
  intro H enc W n cs x hx hq
  obtain ⟨xs,n,_,rfl,hl,hxs,hel⟩:=DataW.trod_struct ht hx
  obtain ⟨y,hy,hg,hb⟩:=h.out H enc W n cs xs (by omega) (by simpa using hxs) (fun i f' hf'=>hel i f' (by simpa using hf')) (fun q hq'=>hq q (by simp only [DataW.weights,ht];exact hq'))
  refine ⟨inv y,?_,?_,?_⟩
  ·show d.K W (f (inv y)) cs
   rw [hfi]
   simpa using hy
  ·rw [hfi];exact hg
  ·rw [hfi];simp only [Rows.uptoBulk];omega
end
theorem weights_at {H:Type} {P:Program} {ts:List TypeId} {ds:List (DataW H)} (h:(DataW.weightsEach P ts ds).all (·≤reachBytes)=true) {j:Nat} {t:TypeId} {d:DataW H} (ht:ts[j]?=some t) (hd:ds[j]?=some d):∀ q ∈ d.weights P t,q≤reachN:=by
 intro q hq
 have h1:=List.all_eq_true.1 h _ (DataW.weights_mem_each ht hd q hq)
 have h2:q≤reachBytes:=by simpa using h1
 exact h2
end Go.Proofs.Ytgjibcfkjaedfaa.Open

namespace Go.Proofs.Ytgjibcfkjaedfaa.Pr
open Go.RowKit
set_option linter.unusedVariables false
def good53 (y:S53):Prop:=(Lit.int .i64 y.f0).wf=true∧(Lit.int .i64 y.f1).wf=true∧(Lit.int .i64 y.f2).wf=true∧(Lit.int .i64 y.f3).wf=true∧(Lit.int .i64 y.f4).wf=true∧(Lit.int .i64 y.f5).wf=true∧y.f6.size≤140737488351232∧y.f7.size≤140737488351232
def bulk53 (y:S53):Nat:=(1+(1+(1+(1+(1+(1+((y.f6.size+1)+(y.f7.size+1))))))))+1
def good24 (y:S24):Prop:=(Lit.int .i64 y.f0).wf=true∧(Lit.int .i64 y.f1).wf=true
def bulk24 (y:S24):Nat:=(1+1)+1
end Go.Proofs.Ytgjibcfkjaedfaa.Pr

namespace Go.Proofs.Ytgjibcfkjaedfaa.Pr
open Go.RowKit Go.Proofs.YtgjibcfkjaedfaaW.PrintWords
theorem opn53:Open.Opn Try.prog 53 k53 good53 bulk53 :=
 Open.opn_struct Try.underlying53 (by kernel_rfl) (Open.opnF_cons rfl (Open.opn_int Try.underlying3 (by kernel_rfl)) (Open.opnF_cons rfl (Open.opn_int Try.underlying3 (by kernel_rfl)) (Open.opnF_cons rfl (Open.opn_int Try.underlying3 (by kernel_rfl)) (Open.opnF_cons rfl (Open.opn_int Try.underlying3 (by kernel_rfl)) (Open.opnF_cons rfl (Open.opn_int Try.underlying3 (by kernel_rfl)) (Open.opnF_cons rfl (Open.opn_int Try.underlying3 (by kernel_rfl)) (Open.opnF_cons rfl (Open.opn_string Try.underlying9 (by kernel_rfl)) (Open.opnF_last rfl (Open.opn_string Try.underlying9 (by kernel_rfl)))))))))) (fun x:S53=>(x.f0,x.f1,x.f2,x.f3,x.f4,x.f5,x.f6,x.f7)) (fun p=>⟨p.1,p.2.1,p.2.2.1,p.2.2.2.1,p.2.2.2.2.1,p.2.2.2.2.2.1,p.2.2.2.2.2.2.1,p.2.2.2.2.2.2.2⟩) (fun _=>rfl)
theorem opn24:Open.Opn Try.prog 24 k24 good24 bulk24 :=
 Open.opn_struct Try.underlying24 (by kernel_rfl) (Open.opnF_cons rfl (Open.opn_int Try.underlying3 (by kernel_rfl)) (Open.opnF_last rfl (Open.opn_int Try.underlying3 (by kernel_rfl)))) (fun x:S24=>(x.f0,x.f1)) (fun p=>⟨p.1,p.2⟩) (fun _=>rfl)
end Go.Proofs.Ytgjibcfkjaedfaa.Pr

namespace Go.Proofs.Ytgjibcfkjaedfaa.Pr
open Go.RowKit Go.Proofs.YtgjibcfkjaedfaaW.PrintWords Go.Proofs.YtgjibcfkjaedfaaW.PrintLast
set_option linter.unusedVariables false in
def latticelaw20_ShipCut.Stated:Prop:=∀ (a0:List (S53)) (a1:S24) (a2:List (S53)),((a0.length≤maxLen∧a0.length*80≤140737488351232∧∀ e ∈ a0,good53 e))→(good24 a1)→((a2.length≤maxLen∧a2.length*80≤140737488351232∧∀ e ∈ a2,good53 e))→latticelaw20_ShipCut.f a0 a1.f0 a1.f1 a2=some true
end Go.Proofs.Ytgjibcfkjaedfaa.Pr

namespace Go.Proofs.Ytgjibcfkjaedfaa.Pure
open Go.RowKit Go.Proofs.Ytgjibcfkjaedfaa.Pr Go.Proofs.YtgjibcfkjaedfaaW.PrintWords Go.Proofs.YtgjibcfkjaedfaaW.PrintLast
theorem ShipCut:latticelaw20_ShipCut.Stated:=by
 intro a0 a1 a2 h0 _ h2
 unfold latticelaw20_ShipCut.f
 rw [if_pos]
 constructor
 ·intro x hx
  obtain ⟨_,_,_,_,_,_,_,hv⟩:=h0.2.2 x hx
  exact hv
 ·intro x hx
  obtain ⟨_,_,_,_,_,_,_,hv⟩:=h2.2.2 x hx
  exact hv
end Go.Proofs.Ytgjibcfkjaedfaa.Pure

/- The law ShipCut returns true at every input, and each argument reads afterwards as it read before: WHAT IS CUT WAS OF ANOTHER EPOCH: behind a take all up to the last LSN that was sent is as it was sent, all ahead of it as it was, and what stands no longer parts in its epoch where it was cut.
   Conditions: none but those that the row itself prints. Written by a program of this session over the kit's printer. -/
namespace Go.Proofs.Ytgjibcfkjaedfaa.shipCut
open Go.ChangeShapes Go.WideShapes Go.ChangeAt Go.RowKit
open Go.ChangeMaps (open_string shut_string)
set_option linter.unusedVariables false
theorem own:ownKnob Try.prog.godebug=none:=by kernel_rfl
theorem laidOut:laidOutB Try.prog=true:=by kernel_rfl
set_option maxRecDepth 100000 in
theorem lifted (os:Os) (started:os.Started) (H:Type) (enc:TypeId×Value→H) :
  ReturnsInHanded {} Try.checked os 5 .any (Rows.shipCutSpec.pre6 enc Try.prog Try.f5 Rows.shipCutRow.domain false) (Rows.shipCutSpec.post enc Try.prog Try.f5 false true false false):=by
 refine returnsInHanded_of_change_sized (C:=Try.checked) own started (by kernel_rfl) Try.func5
  (ChangeSpec.witness6 (enc:=enc) (C:=Try.checked) false ⟨#[],#[.slice none 0 0,.agg #[.int .i64 0,.int .i64 0],.slice none 0 0],[]⟩ 8 (by kernel_rfl) (by kernel_rfl) (by kernel_rfl) (by kernel_rfl)) ?_
 intro W base args ds gs before hval0 hW hcnd hsz0 _
 have hsz:(DataW.weightsEach Try.prog (Try.f5.params.toList++Rows.shipCutSpec.plain.varTypes Try.prog) (ds++gs)).all (·≤reachBytes)=true:=hsz0
 have hval:∀ (j:Nat) t v,Try.f5.params[j]?=some t→args[j]?=some v→Value.okWide Try.prog W .any base t v:=hval0
 have hW':=hW
 obtain ⟨p,q,hA0,hV,rfl,hfz,hnd⟩:=hW
 have hA:DataW.TrodAll enc Try.prog W 0 (fun _=>true) true Try.f5.params.toList args.toList ds p:=hA0
 rw [Try.params5] at hA hval hsz
 obtain ⟨v0,vs0,d0,ds0,p0,q0,hargs,rfl,rfl,h0,r0⟩:=trodAll_cons hA
 obtain ⟨v1,vs1,d1,ds1,p1,q1,rfl,rfl,rfl,h1,r1⟩:=trodAll_cons r0
 obtain ⟨v2,vs2,d2,ds2,p2,q2,rfl,rfl,rfl,h2,r2⟩:=trodAll_cons r1
 obtain ⟨rfl,rfl,rfl⟩:=trodAll_nil r2
 obtain rfl:args=#[v0,v1,v2]:=by cases args;simp_all
 obtain ⟨rfl,rfl⟩:=trodVars_none hV
 have k0:=h0
 have lt0:∀ x ∈ p0,x.block < W.heap.size:=by obtain ⟨m,hm⟩:=k0;exact DataW.trod_lt m _ _ _ hm
 obtain ⟨n0,hf0⟩:=h0
 obtain ⟨y0,K0,g0,m0⟩:=(Open.opn_slice (B:=80) Try.underlying22 (by kernel_rfl) (by kernel_rfl) Pr.opn53).out H enc W n0 _ _ hf0 (Open.weights_at hsz (j:=0) (t:=22) rfl rfl)
 obtain ⟨a0,len0,cap0,rfl⟩:=okWide_slice Try.underlying22 (hval 0 22 v0 rfl rfl)
 obtain ⟨A0,c0,e0,hc0,hr0⟩:=K0
 simp only [Value.cells,List.cons.injEq,Value.slice.injEq,and_true] at e0
 obtain ⟨rfl,rfl,rfl⟩:=e0
 have k1:=h1
 have lt1:∀ x ∈ p1,x.block < W.heap.size:=by obtain ⟨m,hm⟩:=k1;exact DataW.trod_lt m _ _ _ hm
 obtain ⟨n1,hf1⟩:=h1
 obtain ⟨y1,K1,g1,m1⟩:=Pr.opn24.out H enc W n1 _ _ hf1 (Open.weights_at hsz (j:=1) (t:=24) rfl rfl)
 obtain ⟨cs1,rfl,_⟩:=okWide_struct Try.underlying24 (hval 1 24 v1 rfl rfl)
 have e1:=Pr.k24_open K1
 obtain rfl:cs1=#[.int .i64 y1.f0,.int .i64 y1.f1]:=by cases cs1;simp only [Value.cells] at e1;rw [e1]
 have k2:=h2
 have lt2:∀ x ∈ p2,x.block < W.heap.size:=by obtain ⟨m,hm⟩:=k2;exact DataW.trod_lt m _ _ _ hm
 obtain ⟨n2,hf2⟩:=h2
 obtain ⟨y2,K2,g2,m2⟩:=(Open.opn_slice (B:=80) Try.underlying22 (by kernel_rfl) (by kernel_rfl) Pr.opn53).out H enc W n2 _ _ hf2 (Open.weights_at hsz (j:=2) (t:=22) rfl rfl)
 obtain ⟨a2,len2,cap2,rfl⟩:=okWide_slice Try.underlying22 (hval 2 22 v2 rfl rfl)
 obtain ⟨A2,c2,e2,hc2,hr2⟩:=K2
 simp only [Value.cells,List.cons.injEq,Value.slice.injEq,and_true] at e2
 obtain ⟨rfl,rfl,rfl⟩:=e2
 clear hA0 hval0 hsz0 hsz
 have hk:=Pure.ShipCut y0 y1 y2 g0 g1 g2
 refine (Pr.latticelaw20_ShipCut.calls _ _ y0 y1.f0 y1.f1 _ _ y2 true W hr0 hc0 hr2 hc2 hk).mono fun e W' ⟨he,bel0⟩=>?_
 have bel:Below W.heap.size W W':=bel0
 subst he
 exact ⟨_,rfl,_,_,_,[],_,[],hW',trodAll_mk1 (shut_bool Try.underlying4 _),(trodAll_cons_mk (Below.trod laidOut (by kernel_rfl) (of_decide_eq_true (by kernel_rfl)) k0 bel lt0) (trodAll_cons_mk (Below.trod laidOut (by kernel_rfl) (of_decide_eq_true (by kernel_rfl)) k1 bel lt1) (trodAll_cons_mk (Below.trod laidOut (by kernel_rfl) (of_decide_eq_true (by kernel_rfl)) k2 bel lt2) trodAll_mk0))),rfl,bel.frame _,fun h=>by cases h⟩
theorem over:Rows.shipCutRow.holds Try.pinned (OpenSpec.ofChange Rows.shipCutSpec) :=
 OpenClaim.holds_of_wide 5 Try.f5 rfl rfl rfl rfl rfl rfl rfl ⟨rfl,rfl,rfl,rfl,rfl⟩ rfl rfl rfl rfl rfl (by kernel_rfl) Try.func5 (by kernel_rfl)
  (of_decide_eq_true (by kernel_rfl)) (by unfold Func.isWrapper;first|(rw [if_pos (by decide +kernel)];kernel_rfl)|(rw [if_neg (by decide +kernel)];exact ⟨rfl,rfl⟩))
  (fun os started H enc _=>lifted os started H enc)
theorem proved:Rows.ShipCutSaid:=over
#print axioms proved
end Go.Proofs.Ytgjibcfkjaedfaa.shipCut
namespace Go.Proofs.Ytgjibcfkjaedfaa
theorem shipCut_holds:Rows.ShipCutSaid:=shipCut.proved
end Go.Proofs.Ytgjibcfkjaedfaa
