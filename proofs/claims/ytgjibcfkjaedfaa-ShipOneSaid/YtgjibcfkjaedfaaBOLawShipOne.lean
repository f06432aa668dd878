-- Parts melded by a program of this session.
import Derived.Below
import Derived.Deep.Draws
import Derived.Deep.AppendLies
import Derived.Maps.AppendAt
import Derived.OwnWalk
import Derived.Laws.BytesArg
import Derived.Laws.MakeOwn
import Derived.Laws.OwnMore
import Derived.Deep.OwnRows
import Derived.Tactics
import Derived.Lib.ConvBytes
import Derived.Laws.Slices
import Derived.WalkKit
import Derived.KernelRfl
import Derived.RowKit3
import Derived.Deep.LoopGhost
import Derived.Deep.QuietTactic
import Derived.BigQuiet
import Derived.WideLaws
import Derived.Deep.DeepCutAuto
import Derived.Deep.CutBlock
import Derived.Deep.RegionHeld3
import Derived.Laws.Rows
import Derived.Lib.AppendStr
import Derived.ArgAppend
import Derived.Laws.IdiomCopy
import Derived.RowKit
import Derived.Test.YtgjibcfkjaedfaaTSTHWWords
import Derived.OrdersHeld
import Derived.Laws.BitsLemmas
import Derived.Test.YtgjibcfkjaedfaaTSTHWRest
import Derived.Laws.StructEq
import Derived.Test.YtgjibcfkjaedfaaProg
import Derived.Shelf.Abstract
import Derived.Test.YtgjibcfkjaedfaaTSTHPrx0
import Derived.Test.YtgjibcfkjaedfaaTSWalS
import Derived.OneCell
import Derived.Lib.SliceRun
import Derived.Test.YtgjibcfkjaedfaaTSTHWire
import Derived.RangeFuncBox
import Derived.RangeFuncLeaves
import Derived.OwnWalkIn
import Derived.TacticsInMore
import Derived.LoopNIn
import Derived.LoopIn
import Derived.Lib.Hide
import Derived.Test.YtgjibcfkjaedfaaTSTHBack
import Derived.Outline
import Derived.Test.YtgjibcfkjaedfaaTSTHRead
import Derived.Test.YtgjibcfkjaedfaaTSTHNdFrom
import Derived.Laws.BitsAllLaws
import Derived.Test.YtgjibcfkjaedfaaTSTHCrc
import Derived.Test.YtgjibcfkjaedfaaTSTHPrx3
import Derived.Test.YtgjibcfkjaedfaaTSTHPrx4
import Derived.Test.YtgjibcfkjaedfaaTSTHPrx5
import Derived.Test.YtgjibcfkjaedfaaTSTHPrx1
import Derived.Test.YtgjibcfkjaedfaaTSTHRefW
import Derived.Test.YtgjibcfkjaedfaaTSTHPrxS
import Derived.Test.YtgjibcfkjaedfaaTSTHPrx15
import Derived.Test.YtgjibcfkjaedfaaTSTHPrx16
import Derived.Test.YtgjibcfkjaedfaaTSTHPureNode
import Derived.Deep.RegionLaw
import Derived.Laws.CopyOwn
import Derived.Test.YtgjibcfkjaedfaaTSTHPageEnc
import Derived.Test.YtgjibcfkjaedfaaTSTHPageFit
import Derived.Test.YtgjibcfkjaedfaaTSTHPageRd
import Derived.Test.YtgjibcfkjaedfaaTSTHPageNode
import Derived.Test.YtgjibcfkjaedfaaTSTHPageDec
import Derived.Test.YtgjibcfkjaedfaaTSTHCrcR
import Derived.Test.YtgjibcfkjaedfaaTSTHPageRt
import Derived.Test.YtgjibcfkjaedfaaTSTHPrx17
import Derived.Test.YtgjibcfkjaedfaaTSTHPagePure
import Derived.Test.YtgjibcfkjaedfaaTSTHRefRd
import Derived.Test.YtgjibcfkjaedfaaTSTHPageRef
import Derived.Test.YtgjibcfkjaedfaaTSTHRecIR
import Derived.Lib.SlBytesConst
import Derived.StillTailTactics
import Derived.Test.YtgjibcfkjaedfaaTSTHRecV
import Derived.Test.YtgjibcfkjaedfaaTSTHRecChkP
import Derived.Test.YtgjibcfkjaedfaaTSTHRecChkA
import Derived.Test.YtgjibcfkjaedfaaTSTHRecChkB
import Derived.Test.YtgjibcfkjaedfaaTSTHRecChkE
import Derived.Test.YtgjibcfkjaedfaaTSTHRecChk
import Derived.Test.YtgjibcfkjaedfaaTSTHRecEnc
import Derived.Test.YtgjibcfkjaedfaaTSTHRecRead
import Derived.Test.YtgjibcfkjaedfaaTSTHRecRight
import Derived.Test.YtgjibcfkjaedfaaTSTHRecLaw
import Derived.Test.YtgjibcfkjaedfaaTSTHRecK
import Derived.Test.YtgjibcfkjaedfaaTSTHRecEncs
import Derived.Test.YtgjibcfkjaedfaaTSWalA
import Derived.Test.YtgjibcfkjaedfaaTSWalApp
import Derived.Test.YtgjibcfkjaedfaaTSRefA
import Derived.WalkMore
import Derived.Test.YtgjibcfkjaedfaaTSShA
import Derived.Test.YtgjibcfkjaedfaaTSShB
import Derived.Test.YtgjibcfkjaedfaaTSShC
import Derived.Test.YtgjibcfkjaedfaaRows
import Derived.OpenShut
import Derived.SizedLaws
import Derived.ChangeArms
import Derived.ChangeOld
import Derived.DataReads
import Derived.ProofKit
import Derived.ShutString
import Derived.Carry
set_option linter.unusedVariables false
set_option linter.unusedSimpArgs false
namespace Go.Proofs.YtgjibcfkjaedfaaW.PrintWords
open Go.RowKit
theorem LeO.ite {α:Type} {c:Prop} [Decidable c] {a a' b b':Option α} (h:LeO a a') (k:LeO b b'):LeO (if c then a else b) (if c then a' else b'):=by
  split
  · exact h
  · exact k
section
variable {P:Program} {ops:Array Oper} {rest:List Oper} {o:Oper} {a:Act} {Q:Exit→Act→World→Prop}
end
section
variable {P:Program} {ops:Array Oper} {o:Oper} {a:Act} {Q:Exit→Act→World→Prop} {K:Act→World→Prop}
end
section
variable {α:Type} {enc:α→Value} {d:α}
end
section
variable {α:Type} {P:Program} {ops:Array Oper} {rest:List Oper} {o:Oper} {a:Act} {Q:Exit→Act→World→Prop}
end
section
variable {P:Program}
end
section
variable {α:Type} {R R':α→List Value→Prop} {e:TypeId} {size:Nat} {w w1:World} {base:Nat} {v:Value} {ps:List α}
theorem OwnRow.keep (h:OwnRow R e size w base v ps) {g:Nat} {t:TypeId} {cells:Array Value} (hb:w.heap[g]?=some (.cells cells t (0,0))) (ht:e≠t) (hk:KeepBut w w1 g none):OwnRow R e size w1 base v ps:=by
  obtain ⟨inner,ho,hr⟩:=h
  exact ⟨inner,hk.own ho (Ne.symm (own_ne ho hb ht)) (by cases v.ownBlock <;> simp),hr⟩
end
section
variable {P:Program} {ops:Array Oper} {rest:List Oper} {o:Oper} {a:Act} {Q:Exit→Act→World→Prop} {α:Type} {R:α→List Value→Prop}
end
namespace Kd
section
variable {α:Type} {d:Kd α} {e:Nat} {w w1:World} {base:Nat} {ok ok':Nat→Prop} {v:Value} {xs:List α}
end
section
variable {P:Program} {ops:Array Oper} {rest:List Oper} {o:Oper} {a:Act} {Q:Exit→Act→World→Prop} {α:Type}
end
section
variable {P:Program} {ops:Array Oper} {o:Oper} {a:Act} {Q:Exit→Act→World→Prop} {Kc:Act→World→Prop} {α:Type}
end
end Kd
namespace Kd
end Kd
namespace Kd
section
variable {α β:Type} {d:Kd α} {d':Kd β} {e e':Nat} {w w1 W:World} {base b b':Nat} {ok ok' okv oku:Nat→Prop} {v u:Value} {xs:List α} {ys:List β}
theorem R_over (h:d.R e W b ok u xs) (hv:d'.R e' W b' ok' v ys) (ht:∀ q,q ∈ e::d.E→q≠e') (hg:W.grownBy w1 v.ownBlock):d.R e w1 b ok u xs:=by
  obtain ⟨inner,ho⟩:=R_own hv
  refine R_mono (R_move (R_bound h) (fun k hk=>hg.block k hk.2.2.1 (fun he=>?_))) (fun _ hk=>hk.1)
  obtain ⟨_,_,_,q,hq,cells,hc⟩:=hk
  obtain ⟨cells',hc'⟩:=own_typed ho k he.symm
  rw [hc] at hc'
  injection hc' with hc'
  injection hc' with _ hc'
  exact ht q hq hc'
end
section
variable {w W:World} {A:Option Addr} {n:Nat}
end
section
variable {P:Program} {ops:Array Oper} {rest:List Oper} {o:Oper} {a:Act} {Q:Exit→Act→World→Prop}
end
end Kd
section
variable {P:Program}
end
section
variable {w w1:World} {base n size:Nat} {e:TypeId} {v:Value} {xs:List Value}
end
namespace Kd
section
variable {α:Type} {d:Kd α} {e:Nat} {w w1 W:World} {base:Nat} {ok ok':Nat→Prop} {v:Value} {xs:List α}
end
end Kd
namespace Kd
section
variable {α:Type} {d:Kd α} {e e':Nat} {w w1 W:World} {base:Nat} {ok:Nat→Prop} {u v:Value} {xs:List α}
end
end Kd
namespace Kd
section
variable {P:Program} {ops:Array Oper} {rest:List Oper} {o:Oper} {a:Act} {Q:Exit→Act→World→Prop} {α:Type}
end
end Kd
namespace Kd
section
variable {α:Type} {k:Kd α} {w:World} {A:Option Addr} {xs:List α} {m c:Nat}
end
end Kd
section
variable {P:Program}
end
theorem keep_cell {w W:World} {g:Nat} (h:KeepBut w W g none) {a:Addr} {v:Value} (hc:w.cell? a=some v) (hne:a.block≠g):W.cell? a=some v:=by
  have:=h.2 a.block (World.block_lt_of_cell? w a hc) hne (by simp)
  simpa [World.cell?,this] using hc
theorem ReadsInt.keep {w W:World} {k:IntKind} {A:Option Addr} {n g:Nat} {xs:List Int} (h:ReadsInt w k A n xs) (hk:KeepBut w W g none) (hf:∀ ad,A=some ad→0 < n→ad.block≠g):ReadsInt W k A n xs :=
  ⟨h.1,h.2.1,fun hn=>by
    obtain ⟨ad,e,hc⟩:=h.2.2 hn
    exact ⟨ad,e,fun j hj=>keep_cell hk (hc j hj) (by rw [add_block];exact hf ad e hn)⟩⟩
theorem ReadsOf.keep {α:Type} {enc:α→Value} {d:α} {w W:World} {A:Option Addr} {n g:Nat} {xs:List α} (h:ReadsOf enc d w A n xs) (hk:KeepBut w W g none) (hf:∀ ad,A=some ad→0 < n→ad.block≠g):ReadsOf enc d W A n xs :=
  ⟨h.1,h.2.1,fun hn=>by
    obtain ⟨ad,e,hc⟩:=h.2.2 hn
    exact ⟨ad,e,fun j hj=>keep_cell hk (hc j hj) (by rw [add_block];exact hf ad e hn)⟩⟩
section
variable {P:Program} {ops:Array Oper} {rest:List Oper} {o:Oper} {a:Act} {Q:Exit→Act→World→Prop}
end
section
variable {P:Program} {ops:Array Oper} {rest:List Oper} {o:Oper} {a:Act} {Q:Exit→Act→World→Prop} {W:World}
end
end Go.Proofs.YtgjibcfkjaedfaaW.PrintWords

namespace Go.Proofs.YtgjibcfkjaedfaaW.PrintWords
open Go.RowKit
section
variable {w W W2:World} {S S2 S':Nat→Prop}
theorem Kept.keep {g:Nat} (h:KeepBut w W g none) (k:Kept W W2 S2) (hs:∀ k,S2 k→w.heap.size≤k):KeepBut w W2 g none :=
 ⟨Nat.le_trans h.1 k.1,fun i hi hg hr=>(k.2 i (Nat.lt_of_lt_of_le hi h.1) (fun h2=>by have:=hs i h2;omega)).trans (h.2 i hi hg hr)⟩
end
end Go.Proofs.YtgjibcfkjaedfaaW.PrintWords

namespace Go.Proofs.YtgjibcfkjaedfaaW.PrintWords
open Go.RowKit
namespace Foot
variable {P Q:World→Prop} {W W1:World} {ok ok':Nat→Prop}
theorem bound (h:Foot P W ok):Foot P W (fun k=>ok k∧k < W.heap.size):=fun W' hW=>h W' (fun k hk hlt=>hW k ⟨hk,hlt⟩ hlt)
end Foot
namespace Kd
section
variable {α β:Type} {d:Kd α} {e base n n' cc g N:Nat} {ok ok' okp S:Nat→Prop} {w w0 w1 W W1:World} {A A':Option Addr} {u v v1:Value} {xs:List α} {xs':List β} {d':Kd β} {x:α} {c:List Value}
end
end Kd
end Go.Proofs.YtgjibcfkjaedfaaW.PrintWords

namespace Go.Proofs.Ytgjibcfkjaedfaa.Rec
open Go.RowKit Go.Proofs.YtgjibcfkjaedfaaW.PrintWords Go.Proofs.YtgjibcfkjaedfaaW.PrintLast Go.Proofs.YtgjibcfkjaedfaaW.PrintMore Go.Proofs.Ytgjibcfkjaedfaa.Wire Go.Proofs.Ytgjibcfkjaedfaa.Crc Go.Proofs.Ytgjibcfkjaedfaa.Pr Go.Proofs.Ytgjibcfkjaedfaa.Page
open Go.Proofs.Ytgjibcfkjaedfaa.Back (AllB)
open Go.Proofs.Ytgjibcfkjaedfaa.Pure
set_option linter.unusedVariables false
set_option linter.unusedSimpArgs false
theorem byt_E (q:Nat) (hq:q ∈ 5::(Kd.int .u8).E):q=5:=by
 simpa [Kd.int,Kd.scalar] using hq
theorem RRec.over {w w1:World} {b b':Nat} {u v:Value} {xs:List RecS} {ys:List Int} (h:RRec w b u xs) (hv:RByt w b' v ys) (hg:w.grownBy w1 v.ownBlock):RRec w1 b u xs :=
 Kd.R_over h hv (fun q hq=>by rw [rec_E q hq];decide) hg
theorem RByt.over {w w1:World} {b b':Nat} {u v:Value} {xs:List RecS} {ys:List Int} (h:RByt w b v ys) (hv:RRec w b' u xs) (hg:w.grownBy w1 u.ownBlock):RByt w1 b v ys :=
 Kd.R_over h hv (fun q hq=>by rw [byt_E q hq];decide) hg
end Go.Proofs.Ytgjibcfkjaedfaa.Rec

namespace Go.Proofs.Ytgjibcfkjaedfaa.Wal
open Go.RowKit Go.Proofs.YtgjibcfkjaedfaaW.PrintWords Go.Proofs.YtgjibcfkjaedfaaW.PrintLast Go.Proofs.YtgjibcfkjaedfaaW.PrintMore Go.Proofs.Ytgjibcfkjaedfaa.Wire Go.Proofs.Ytgjibcfkjaedfaa.Pr Go.Proofs.Ytgjibcfkjaedfaa.Rec
open Go.Proofs.Ytgjibcfkjaedfaa.Back (AllB)
set_option linter.unusedVariables false
set_option linter.unusedSimpArgs false
abbrev r1S:RecS:=⟨1,1,1,0,0,0,⟨#[]⟩,⟨#[]⟩⟩
theorem len1:(frameB (toV r1S)).length=43:=by
 rw [frame_length,body_length]
 rfl
end Go.Proofs.Ytgjibcfkjaedfaa.Wal

namespace Go.Proofs.Ytgjibcfkjaedfaa.Wal
open Go.RowKit Go.Proofs.YtgjibcfkjaedfaaW.PrintWords Go.Proofs.YtgjibcfkjaedfaaW.PrintLast Go.Proofs.YtgjibcfkjaedfaaW.PrintMore Go.Proofs.Ytgjibcfkjaedfaa.Wire Go.Proofs.Ytgjibcfkjaedfaa.Pr Go.Proofs.Ytgjibcfkjaedfaa.Rec
set_option linter.unusedVariables false
set_option linter.unusedSimpArgs false
section
variable {w W W1:World} {ok ok':Nat→Prop} {g g' sg tg b:Nat} {l:List RecS} {nx mt nx' mt' x y kd n:Int} {T:Nat}
theorem SnAt.num (h:SnAt T W b kd n):W.cell? ⟨b,1,none⟩=some (.int .i64 n):=h.cells.2.1
end
end Go.Proofs.Ytgjibcfkjaedfaa.Wal

namespace Go.Proofs.Ytgjibcfkjaedfaa.Wal
open Go.RowKit Go.Proofs.YtgjibcfkjaedfaaW.PrintWords Go.Proofs.YtgjibcfkjaedfaaW.PrintLast Go.Proofs.YtgjibcfkjaedfaaW.PrintMore Go.Proofs.Ytgjibcfkjaedfaa.Wire Go.Proofs.Ytgjibcfkjaedfaa.Pr Go.Proofs.Ytgjibcfkjaedfaa.Rec
set_option linter.unusedVariables false
set_option linter.unusedSimpArgs false
abbrev rdN (l:List RecS) (k:Nat):RecS:=l.getD k z53
theorem rdN_eq (l:List RecS) (k:Nat):rd_T53 l (k:Int)=rdN l k:=rfl
theorem rdN_take {l:List RecS} {m k:Nat} (h:k < m):rdN (l.take m) k=rdN l k:=by
 unfold rdN
 rw [List.getD_eq_getElem?_getD,List.getD_eq_getElem?_getD,List.getElem?_take_of_lt h]
theorem getF_in {l:List RecS} {n:Nat} (h:n < l.length):getF l ((n:Int)+1)=(rdN l n,0):=by
 unfold getF
 rw [if_pos (by omega),show ((n:Int)+1 - 1)=(n:Int) by omega]
 rfl
theorem getF_out {l:List RecS} {n:Nat} (h:l.length≤n):(getF l ((n:Int)+1)).2≠0:=by
 unfold getF
 rw [if_neg (by omega)]
 exact (by decide:(6:Int)≠0)
theorem take_snoc {l:List RecS} {x:RecS} {n:Nat} (h:n≤l.length):(l++[x]).take n=l.take n:=List.take_append_of_le_length h
end Go.Proofs.Ytgjibcfkjaedfaa.Wal

namespace Go.Proofs.Ytgjibcfkjaedfaa.Wal
open Go.RowKit Go.Proofs.YtgjibcfkjaedfaaW.PrintWords Go.Proofs.YtgjibcfkjaedfaaW.PrintLast Go.Proofs.YtgjibcfkjaedfaaW.PrintMore Go.Proofs.Ytgjibcfkjaedfaa.Wire Go.Proofs.Ytgjibcfkjaedfaa.Pr Go.Proofs.Ytgjibcfkjaedfaa.Rec
set_option linter.unusedVariables false
set_option linter.unusedSimpArgs false
theorem EpOk.nil:EpOk []:=fun k hk=>by simp at hk
theorem logF_epN (rs:List RecS):∀ k,k≤rs.length→EpOk (logF (rs.take k))
 | 0,_=>EpOk.nil
 | k+1,h=>by
  rw [logF_succ (by omega)]
  exact (logF_epN rs k (by omega)).app _
theorem logF_ep (rs:List RecS):EpOk (logF rs):=by
 have h:=logF_epN rs rs.length (Nat.le_refl _)
 rw [List.take_length] at h
 exact h
section
variable {x:List RecS}
theorem lsn_at (h:LogOk x) {k:Nat} (hk:k < x.length):(rdN x k).f0=(k:Int)+1:=h.lsn k hk
theorem ep_at (he:EpOk x) {k:Nat} (hk:k < x.length):wasF x k≤(rdN x k).f1:=he k hk
theorem wasN_succ (x:List RecS) (k:Nat):wasF x (k+1)=(rdN x k).f1:=wasF_succ x k
theorem markF_eq (h:LogOk x) {s:Nat} (hs:s≤x.length):markF x (s:Int)=(wasF x s,(s:Int)):=by
 unfold markF
 cases s with
 | zero=>rw [if_neg (by omega)];rfl
 | succ s =>
  rw [if_pos (by omega),show ((s+1:Nat):Int) - 1=(s:Int) by omega,wasN_succ,rdN_eq,lsn_at h (show s < x.length by omega)]
  rfl
theorem part_cons {s c:Nat} (hs:s < x.length):(x.drop s).take (c+1)=rdN x s::(x.drop (s+1)).take c:=by
 rw [List.drop_eq_getElem_cons hs,List.take_succ_cons]
 congr 1
 unfold rdN
 rw [List.getD_eq_getElem?_getD,List.getElem?_eq_getElem hs]
 rfl
theorem snoc_take {m:Nat} (hm:m < x.length):x.take m++[rdN x m]=x.take (m+1):=by
 rw [List.take_succ_eq_append_getElem hm]
 congr 2
 unfold rdN
 rw [List.getD_eq_getElem?_getD,List.getElem?_eq_getElem hm]
 rfl
theorem rdN_mem {k:Nat} (hk:k < x.length):rdN x k ∈ x:=rd_rec_mem hk
theorem chain_part (h:LogOk x) (he:EpOk x):∀ c s,s+c≤x.length→chainF (wasF x s) (s:Int) ((x.drop s).take c)=true
 | 0,s,_=>by rw [List.take_zero];rfl
 | c+1,s,hs=>by
  have hl:=lsn_at h (show s < x.length by omega)
  rw [part_cons (by omega)]
  unfold chainF
  rw [if_pos ⟨hl,ep_at he (by omega)⟩]
  have:=chain_part h he c (s+1) (by omega)
  rw [wasN_succ] at this
  rw [hl,show (s:Int)+1=((s+1:Nat):Int) by omega]
  exact this
theorem app_part (h:LogOk x) (he:EpOk x) {m:Nat} (hm:m < x.length):appF (x.take m) (rdN x m)=(x.take (m+1),(m:Int)+1,0):=by
 have hlen:(x.take m).length=m:=by rw [List.length_take];omega
 have hw:withLsn (rdN x m) ((m:Int)+1)=rdN x m:=by
  have:=lsn_at h hm
  rw [← this]
  rfl
 have h1:=h.right _ (rdN_mem hm)
 have h2:=h.len
 have h3:lastE (x.take m)=wasF x m:=by
  rw [← wasF_last,hlen,wasF_take (Nat.le_refl _) (by omega)]
 unfold appF
 rw [hlen,hw,if_pos h1,h3,if_neg (by have:=ep_at he hm;omega),if_neg (by omega),snoc_take hm]
theorem takeK_part (h:LogOk x) (he:EpOk x):∀ c s m (cut:Bool) (last:Int),s+c≤x.length→s≤m→m≤x.length→takeK (x.take m) cut last ((x.drop s).take c)=(x.take (max m (s+c)),(if c=0 then last else ((s+c:Nat):Int)),cut,0)
 | 0,s,m,cut,last,_,hm,_=>by
  rw [List.take_zero,Nat.add_zero,Nat.max_eq_left hm]
  rfl
 | c+1,s,m,cut,last,hs,hm,hml=>by
  have hl:=lsn_at h (show s < x.length by omega)
  have hlen:(x.take m).length=m:=by rw [List.length_take];omega
  rw [part_cons (by omega)]
  unfold takeK
  by_cases hsm:s < m
  ·have hg:=getF_in (l:=x.take m) (n:=s) (by omega)
   rw [rdN_take hsm,← hl] at hg
   rw [takeStep_a hg rfl rfl]
   dsimp only
   rw [if_pos rfl,Bool.or_false,takeK_part h he c (s+1) m cut _ (by omega) (by omega) hml]
   refine Prod.ext (by show x.take _=x.take _;rw [show max m (s+1+c)=max m (s+(c+1)) by omega]) (Prod.ext ?_ rfl)
   show (if c=0 then (rdN x s).f0 else ((s+1+c:Nat):Int))=(if c+1=0 then last else ((s+(c+1):Nat):Int))
   rw [if_neg (show ¬ c+1=0 by omega),hl]
   split
   ·omega
   ·omega
  ·have hms:m=s:=by omega
   subst hms
   have hg:=getF_out (l:=x.take m) (n:=m) (by omega)
   rw [← hl] at hg
   rw [takeStep_c (G:=getF (x.take m) (rdN x m).f0) rfl hg (app_part h he (by omega))]
   dsimp only
   rw [if_pos rfl,Bool.or_false,takeK_part h he c (m+1) (m+1) cut _ (by omega) (by omega) (by omega)]
   refine Prod.ext (by show x.take _=x.take _;rw [show max (m+1) (m+1+c)=max m (m+(c+1)) by omega]) (Prod.ext ?_ rfl)
   show (if c=0 then (rdN x m).f0 else ((m+1+c:Nat):Int))=(if c+1=0 then last else ((m+(c+1):Nat):Int))
   rw [if_neg (show ¬ c+1=0 by omega),hl]
   split
   ·omega
   ·omega
theorem takeF_part (h:LogOk x) (he:EpOk x) {s c m:Nat} (hs:s+c≤x.length) (hm:m≤x.length):takeF (x.take m) (wasF x s) (s:Int) ((x.drop s).take c)=if s≤m then (x.take (max m (s+c)),((s+c:Nat):Int),false,0) else (x.take m,0,false,200):=by
 have hall:allR ((x.drop s).take c):=fun r hr=>h.right r (List.mem_of_mem_drop (List.mem_of_mem_take hr))
 have hch:=chain_part h he c s hs
 have hlen:(x.take m).length=m:=by rw [List.length_take];omega
 by_cases hsm:s≤m
 ·rw [if_pos hsm]
  have hf:fitsF (x.take m) (wasF x s) (s:Int) ((x.drop s).take c)=true:=by
   unfold fitsF
   rw [if_neg,hch]
   rintro ⟨h0,h1⟩
   obtain ⟨k,rfl⟩:∃ k,s=k+1:=⟨s - 1,by omega⟩
   have hg:=getF_in (l:=x.take m) (n:=k) (by omega)
   rw [show ((k+1:Nat):Int)=(k:Int)+1 by omega,hg,rdN_take (by omega),wasN_succ] at h1
   rcases h1 with h1|h1
   ·exact h1 rfl
   ·exact h1 rfl
  rw [takeF_go hall (by omega) hf,takeK_part h he c s m false _ hs hsm hm]
  split
  ·rename_i hc
   rw [hc]
   rfl
  ·rfl
 ·rw [if_neg hsm]
  refine takeF_gap hall (by omega) ?_
  unfold fitsF
  rw [if_pos]
  obtain ⟨k,rfl⟩:∃ k,s=k+1:=⟨s - 1,by omega⟩
  refine ⟨by omega,.inl ?_⟩
  have hg:=getF_out (l:=x.take m) (n:=k) (by omega)
  rw [show ((k+1:Nat):Int)=(k:Int)+1 by omega]
  exact hg
theorem fromF_part {s:Nat} (hs:s≤x.length) (many:Int):∃ c,s+c≤x.length∧fromF x ((s:Int)+1) many=(x.drop s).take c∧(many=1→s < x.length→c=1)∧((c:Int)≤max many 0)∧(1≤many→c=min many.toNat (x.length - s)):=by
 unfold fromF
 have e1:max ((s:Int)+1) 1=(s:Int)+1:=by omega
 rw [e1]
 by_cases hc:(x.length:Int) < (s:Int)+1∨many < 1
 ·rw [if_pos hc]
  exact ⟨0,by omega,by rw [List.take_zero],fun h1 h2=>by omega,by omega,fun h=>by omega⟩
 ·rw [if_neg hc]
  refine ⟨(min many ((x.length:Int) - ((s:Int)+1)+1)).toNat,by omega,?_,fun h1 h2=>by omega,by omega,fun h=>by omega⟩
  rw [show ((s:Int)+1 - 1).toNat=s by omega]
theorem one_step (h:LogOk x) (he:EpOk x) {s m:Nat} (hs:s≤x.length) (hm:m≤x.length) (many:Int):∃ (m':Nat) (n f:Int),m≤m'∧m'≤x.length∧takeF (x.take m) (markF x ((s:Int)+1 - 1)).1 (markF x ((s:Int)+1 - 1)).2 (fromF x ((s:Int)+1) many)=(x.take m',n,false,f)∧(f=0∨f=200)∧(many=1→s≤m→s < x.length→s+1≤m'):=by
 obtain ⟨c,hc,hfr,hc1,_⟩:=fromF_part hs many
 rw [hfr,show (s:Int)+1 - 1=(s:Int) by omega,markF_eq h hs]
 dsimp only
 rw [takeF_part h he hc hm]
 by_cases hsm:s≤m
 ·rw [if_pos hsm]
  exact ⟨_,_,_,Nat.le_max_left _ _,by omega,rfl,.inl rfl,fun h1 _ h2=>by have:=hc1 h1 h2;omega⟩
 ·rw [if_neg hsm]
  exact ⟨m,_,_,Nat.le_refl _,hm,rfl,.inr rfl,fun _ h1 _=>absurd h1 hsm⟩
theorem fromF_begin {m:Nat} (hm:m≤x.length):fromF x 1 (m:Int)=x.take m:=by
 obtain ⟨c,hc,hfr,_,_,hc2⟩:=fromF_part (x:=x) (Nat.zero_le _) (m:Int)
 rw [show ((0:Nat):Int)+1=1 by omega,List.drop_zero] at hfr
 rw [hfr]
 by_cases h0:m=0
 ·unfold fromF at hfr
  rw [if_pos (.inr (by omega))] at hfr
  rw [← hfr,h0,List.take_zero]
 ·rw [hc2 (by omega)]
  congr 1
  omega
end
end Go.Proofs.Ytgjibcfkjaedfaa.Wal

namespace Go.Proofs.Ytgjibcfkjaedfaa.Wal
open Go.RowKit Go.Proofs.YtgjibcfkjaedfaaW.PrintWords Go.Proofs.YtgjibcfkjaedfaaW.PrintLast Go.Proofs.YtgjibcfkjaedfaaW.PrintMore Go.Proofs.Ytgjibcfkjaedfaa.Wire Go.Proofs.Ytgjibcfkjaedfaa.Pr Go.Proofs.Ytgjibcfkjaedfaa.Rec
set_option linter.unusedVariables false
set_option linter.unusedSimpArgs false
theorem wr_id {a:Int} (h1 : -9223372036854775808≤a) (h2:a < 9223372036854775808):IntKind.i64.wrap a=a∧wrap64 a=a:=⟨by rw [IntKind.wrap_i64];omega,by unfold wrap64;omega⟩
structure Oq (w W:World) (okx:Nat→Prop) (gx gy base:Nat) (x y:List RecS):Prop where
 lx:LogAt 98 W okx gx x 0
 ly:LogAt 98 W (fun k=>base≤k) gy y 0
 bx:∀ k,okx k→k < base
 bb:base≤W.heap.size
 b0:w.heap.size≤base
 bw:Below w.heap.size w W
section
variable {w W W1:World} {okx:Nat→Prop} {gx gy base:Nat} {x y y1:List RecS}
theorem Oq.below (h:Oq w W okx gx gy base x y) (hB:Below W.heap.size W W1):Oq w W1 okx gx gy base x y:=⟨h.lx.below hB,h.ly.below hB,h.bx,Nat.le_trans h.bb hB.size,h.b0,below_from2 h.bw (Nat.le_refl _) hB⟩
theorem Oq.onY {ok:Nat→Prop} (h:Oq w W okx gx gy base x y) (hk:∀ k,ok k→base≤k) (hL:LogAt 98 W1 (fun k=>ok k∨W.heap.size≤k) gy y1 0) (hC:Chg W W1 ok):Oq w W1 okx gx gy base x y1 :=
 ⟨h.lx.chg hC (fun k hx _ hs=>by have:=h.bx k hx;have:=hk k hs;omega),hL.mono (fun k hs=>hs.elim (hk k) (fun h2=>Nat.le_trans h.bb h2)),h.bx,Nat.le_trans h.bb hC.size,h.b0,h.bw.trans (hC.below h.bw.size (fun k hs=>Nat.le_trans h.b0 (hk k hs)))⟩
end
theorem fromF_begin2 {x:List RecS} {m:Nat} (hm:m≤x.length):fromF x 1 (((x.take m).length:Nat):Int)=x.take m:=by
 have h:(x.take m).length=m:=by rw [List.length_take];omega
 rw [h]
 exact fromF_begin hm
theorem one_measure {i M:Nat} (h:i < M):M - (intOf (.int .i64 ((i:Int)+1))).toNat < M - (intOf (.int .i64 (i:Int))).toNat:=by
 show M - ((i:Int)+1).toNat < M - ((i:Int)).toNat
 omega
theorem take_ok {l:List RecS} (h:LogOk l) {m:Nat} (hm:m≤l.length):LogOk (l.take m) :=
 ⟨by rw [List.length_take];have:=h.len;omega,fun k hk=>by rw [List.length_take] at hk;rw [rd_take (by omega) hm];exact h.lsn k (by omega),fun r hr=>h.right r (List.mem_of_mem_take hr)⟩
def OneIn (w:World) (n:Nat) (okx:Nat→Prop) (gx gy base:Nat) (x:List RecS) (v10:Value) (wr:World):Prop :=
 ∃ (i m:Nat),v10=.int .i64 i∧i≤n+x.length+1∧m≤x.length∧(n≤i→i - n≤m∨m=x.length)∧Aside0 (Oq w wr okx gx gy base x (x.take m))
set_option maxHeartbeats 16000000 in
set_option maxRecDepth 100000 in
theorem shipOne_ok (A0:Option Addr) (c0:Nat) (rs:List RecS) (A1:Option Addr) (c1:Nat) (xs:List S45) (w:World) (hr0:Kd.C kRec w A0 rs.length rs) (hv0:∀ x ∈ rs,x.f7.size≤140737488351232) (hr1:Kd.C k45 w A1 xs.length xs) (hl1:xs.length≤140737488351232) :
  Calls Try.prog 4 #[.slice A0 rs.length c0,.slice A1 xs.length c1] w fun e w'=>e=.returned (.bool true)∧Below w.heap.size w w':=by
 have hbo:=both_ok A0 c0 rs w hr0 hv0
 have HX:=Aside0.mk hr1
 have HLO:=Aside0.mk (logF_ok rs)
 have HEP:=Aside0.mk (logF_ep rs)
 generalize logF rs=x at hbo HLO HEP
 have hxl:=HLO.out.len
 have HLA:=Aside0.mk (fun (W:World) (ok:Nat→Prop) (g:Nat) (h:LogAt 98 W ok g x 0)=>last_okB h (by omega))
 clear hr0 hv0 hr1
 go_enter Try.func4,Try.ntmps4
 go_wp2_with (first
  | (go_at_call 14;(with_reducible refine hbo.mono ?_);rintro e w1 ⟨gx,g',rfl,hT,hB⟩;(have HB:=Aside0.mk hB);obtain ⟨ok0,ok0',q1,q2,q3,q4,q5⟩:=hT;(have HQ1:=Aside0.mk q1.bound);(have hnew:=new_ok w1);clear hB hbo q1 q2 q3 q4 q5)
  | (go_at_call 20;(with_reducible refine hnew.mono ?_);rintro e w2 ⟨rfl,hL,hB⟩;(have HO:=Aside0.mk (show Oq w w2 (fun k=>ok0 k∧k < w1.heap.size) gx w1.heap.size w1.heap.size x [] from ⟨HQ1.out.below hB,hL,fun k hk=>hk.2,hB.size,HB.out.size,below_from2 HB.out (Nat.le_refl _) hB⟩));(have hla:=HLA.out _ _ _ HO.out.lx);clear hL hB hnew)
  | (go_at_call 21;(with_reducible refine hla.mono ?_);rintro e w3 ⟨rfl,hB⟩;(replace HO:=Aside0.mk (HO.out.below hB));clear hB hla))
 clear HB HQ1
 generalize hgy:w1.heap.size=gy at HO ⊢
 generalize hokx:(fun k=>ok0 k∧k < gy)=okx at HO
 clear hgy hokx
 go_loopw [10] (fun v10 wr=>OneIn w xs.length okx gx gy gy x v10 wr) (fun v10 _=>xs.length+x.length+1 - (intOf v10).toNat)
 case atStart=>exact ⟨0,0,rfl,by omega,by omega,fun h=>.inl (by omega),HO⟩
 case round =>
  clear HO
  obtain ⟨i,m,rfl,hi,hm,hinv,HO⟩:=hrel
  have HINV:=Aside0.mk hinv
  clear hinv
  have HW1:=Aside0.mk (wr_id (a:=(xs.length:Int)+(x.length:Int)) (by omega) (by omega))
  have HW2:=Aside0.mk (wr_id (a:=(xs.length:Int)+(x.length:Int)+1) (by omega) (by omega))
  have HW3:=Aside0.mk (wr_id (a:=(i:Int) - (xs.length:Int)) (by omega) (by omega))
  have HW4:=Aside0.mk (wr_id (a:=(i:Int) - (xs.length:Int)+1) (by omega) (by omega))
  have HW5:=Aside0.mk (wr_id (a:=(x.length:Int)+1) (by omega) (by omega))
  have HW6:=Aside0.mk (wr_id (a:=(i:Int)+1) (by omega) (by omega))
  by_cases hlt:i < xs.length+x.length+1
  ·have HN0:Aside0 (SnAt 45 (wr.alloc (.cells #[.int .i64 ((i:Int) - (xs.length:Int)+1),.int .i64 1] 45)) wr.heap.size ((i:Int) - (xs.length:Int)+1) 1):=⟨blk_newN _ _⟩
   have HO1:=Aside0.mk (HO.out.below (below_alloc (Below.refl wr.heap.size wr) (.cells #[.int .i64 ((i:Int) - (xs.length:Int)+1),.int .i64 1] 45)))
   have g1:decide ((i:Int) < (xs.length:Int)+(x.length:Int)+1)=true:=decide_eq_true (by omega)
   have g1':(i:Int) < (xs.length:Int)+(x.length:Int)+1:=by omega
   by_cases hin:i < xs.length
   ·skip
    have hltI:(i:Int) < (xs.length:Int):=by omega
    have hi0:(0:Int)≤(i:Int):=by omega
    have d0:decide ((i:Int) < (xs.length:Int))=true:=decide_eq_true hltI
    obtain ⟨ad,rfl,hx0,hx1⟩:=at_T45 (Kd.C_below HX.out HO1.out.bw) (i:Int) hi0 hltI
    rw [Int.toNat_natCast] at hx0 hx1
    generalize rd_T45 xs (i:Int)=q at hx0 hx1
    obtain ⟨f,many⟩:=q
    dsimp only at hx0 hx1
    by_cases e1:f < 1
    ·have d1:decide (f < 1)=true:=decide_eq_true e1
     obtain ⟨s,hse⟩:∃ s:Nat,s=0:=⟨_,rfl⟩
     have hF:(1:Int)=(s:Int)+1:=by omega
     have hsl:s≤x.length:=by omega
     clear hse
     obtain ⟨mk,hmk⟩:∃ mk,markF x (1 - 1)=mk:=⟨_,rfl⟩
     have hone:=one_step HLO.out HEP.out hsl hm many
     rw [← hF,hmk] at hone
     obtain ⟨mk1,mk2⟩:=mk
     obtain ⟨fs,hfs⟩:∃ fs,fromF x 1 many=fs:=⟨_,rfl⟩
     rw [hfs] at hone
     obtain ⟨m',n',f',hm1,hm2,htk,hff,hgo⟩:=hone
     dsimp only at htk
     have HTK:=Aside0.mk htk
     have HFV:Aside0 (∀ r ∈ fs,r.f7.size≤140737488351232):=⟨fun r hr=>HLO.out.size r (by
      rw [← hfs] at hr
      unfold fromF at hr
      split at hr
      ·simp at hr
      ·exact List.mem_of_mem_drop (List.mem_of_mem_take hr))⟩
     have hs1:(1:Int)≤1:=by omega
     have hs2:(1:Int)≤1099511627776:=by omega
     have HSO:=Aside0.mk (show SnOk 1 0 from ⟨by omega,by omega,by omega⟩)
     have HSN:=Aside0.mk (fun (W:World) (g:Nat) (ok:Nat→Prop) (h:SnAt 101 W g 1 0) (hL:LogAt 98 W ok gx x 0)=>ssend_far (most:=many) h HSO.out hL HLO.out.len)
     rw [hmk,hfs] at HSN
     dsimp only at HSN
     have HLM0:=Aside0.mk (take_ok HLO.out hm)
     have HS12:=Aside0.mk (And.intro hs1 hs2)
     have hlm:(x.take m').length=m':=by rw [List.length_take];omega
     have hlm2:(x.take m').length≤65536:=by rw [hlm];omega
     have hlm3:(x.take m').length≤1759218604441:=by rw [hlm];omega
     have hlm4:x.length≤1759218604441:=by omega
     have HLASTY:=Aside0.mk (fun (W:World) (ok:Nat→Prop) (h:LogAt 98 W ok gy (x.take m') 0)=>last_okB h hlm3)
     have HFY:=Aside0.mk (fun (W:World) (ok:Nat→Prop) (h:LogAt 98 W ok gy (x.take m') 0)=>from_ok h hlm3 1 100000)
     have HFX:=Aside0.mk (fun (W:World) (ok:Nat→Prop) (h:LogAt 98 W ok gx x 0)=>from_ok h hlm4 1 (((x.take m').length:Nat):Int))
     rw [fromF_all hlm2 (by decide)] at HFY
     rw [fromF_begin2 hm2] at HFX
     have HRS:=Aside0.mk (fun (W:World) (A:Option Addr) (c:Nat) (A':Option Addr) (c':Nat) (h1:Kd.C kRec W A (x.take m').length (x.take m')) (h2:(x.take m').length≤c) (h3:Kd.C kRec W A' (x.take m').length (x.take m')) (h4:(x.take m').length≤c')=>records_same A c A' c' (x.take m') W h1 h2 h3 h4 (by omega))
     have k1:((f' != 0)=false)∨((f' != 0)=true∧(f' != 200)=false):=by rcases hff with rfl|rfl <;> simp
     have k2:decide (((x.take m').length:Int) > (x.length:Int))=false:=decide_eq_false (by rw [hlm];omega)
     have k2':¬ ((x.take m').length:Int) > (x.length:Int):=by rw [hlm];omega
     obtain ⟨ys,hys⟩:∃ ys,x.take m'=ys:=⟨_,rfl⟩
     rw [hys] at HTK HLASTY HFY HFX HRS k2 k2'
     have HYS:=Aside0.mk hys
     clear hys
     have hnewi:xs.length≤i+1→i+1 - xs.length≤m'∨m'=x.length:=fun h=>by omega
     have HM2:=Aside0.mk (And.intro hm2 hnewi)
     have HLTQ:=Aside0.mk hlt
     clear htk hff hfs hmk hgo hm1 hm2 hlm hlm2 hlm3 hlm4 hs1 hs2 hm hsl
     have HHI:=Aside0.mk hi
     have HK1:=Aside0.mk k1
     have HK2:=Aside0.mk (And.intro k2 k2')
     clear hi k1 k2 k2'
     obtain ⟨hw1,hw1'⟩:=HW1.out
     obtain ⟨hw2,hw2'⟩:=HW2.out
     obtain ⟨hw3,hw3'⟩:=HW3.out
     obtain ⟨hw4,hw4'⟩:=HW4.out
     obtain ⟨hw5,hw5'⟩:=HW5.out
     obtain ⟨hw6,hw6'⟩:=HW6.out
     have HF:=Aside0.mk hF
     obtain ⟨p0,p1,pf0,pf1⟩:=HN0.out.cells
     clear hin hF HO1
     go_upto_region 14 with (fail)
     have HNF:=Aside0.mk (show SnAt 45 (wr.alloc (.cells #[.int .i64 1,.int .i64 many] 45)) wr.heap.size 1 many from blk_newN _ _)
     have HO1:=Aside0.mk (HO.out.below (below_alloc (Below.refl wr.heap.size wr) (.cells #[.int .i64 1,.int .i64 many] 45)))
     clear hx0 hx1 HO
     clear p0 p1 pf0 pf1
     obtain ⟨p0,p1,pf0,pf1⟩:=HNF.out.cells
     clear d0 g1 g1' hw1 hw1' hw2 hw2' hw3 hw3' hw4 hw4' hw5 hw5'
     rcases HK1.out with k1|⟨k1,k1'⟩
     all_goals
      obtain ⟨k2,k2'⟩:=HK2.out
      go_wp2_with (first
       | (go_at_call 22;(with_reducible refine (snew_ok 1 HS12.out.1 HS12.out.2 _).mono ?_);rintro e w4 ⟨rfl,hS,hB⟩;simp only [World.size_setCell,alloc_size] at hS;(have HS:=Aside0.mk hS);clear p0 p1 pf0 pf1;(replace HNF:=Aside0.mk (HNF.out.below hB));(replace HO1:=Aside0.mk (HO1.out.below hB));obtain ⟨p0,p1,pf0,pf1⟩:=HNF.out.cells;(have HLY:=Aside0.mk HO1.out.ly.bound);(have hsd:=HSN.out _ _ _ HS.out HO1.out.lx);clear hS hB)
       | (go_at_call 23;(with_reducible refine hsd.mono ?_);rintro e w5 ⟨A3,c3,rfl,hc3,hC3,hB,B,hB0,hR⟩;(have hB2:=below_alloc hB (.cells #[.int .i64 mk1,.int .i64 mk2] 24));(have hR2:=Kd.R_below hR (below_alloc (Below.refl w5.heap.size w5) (.cells #[.int .i64 mk1,.int .i64 mk2] 24)));(replace HO1:=Aside0.mk (HO1.out.below hB2));(replace HLY:=Aside0.mk (HLY.out.below hB2));(have HM:=Aside0.mk (show SnAt 24 (w5.alloc (.cells #[.int .i64 mk1,.int .i64 mk2] 24)) w5.heap.size mk1 mk2 from blk_newN _ _));clear p0 p1 pf0 pf1;obtain ⟨p0,p1,pf0,pf1⟩:=HM.out.cells;(have htk:=stake_ok HLY.out (fun k hk=>Nat.lt_of_lt_of_le hk.2 hB2.size) HLM0.out mk1 mk2 A3 c3 fs (fun W hC=>sent_stays hR2 hC (fun k hk=>hk.2) hB0) HFV.out);rw [HTK.out] at htk;dsimp only at htk;clear hB hB2 hR hR2 hC3 hc3 hB0 hsd)
       | (go_at_call 15;(with_reducible refine htk.mono ?_);rintro e w6 ⟨rfl,hL,hC⟩;clear p0 p1 pf0 pf1;(replace HO1:=Aside0.mk (HO1.out.onY (fun k hk=>hk.1) (hL.mono (fun k hk=>hk)) hC));(have hly:=HLASTY.out _ _ HO1.out.ly);clear hL hC htk)
       | (go_at_call 21;(with_reducible refine hly.mono ?_);rintro e w7 ⟨rfl,hB⟩;(replace HO1:=Aside0.mk (HO1.out.below hB));(have hfy:=HFY.out _ _ HO1.out.ly);clear hB hly)
       | (go_at_call 18;(with_reducible refine hfy.mono ?_);rintro e w8 ⟨A5,c5,rfl,hR,hB⟩;(replace HO1:=Aside0.mk (HO1.out.below hB));(have HR5:=Aside0.mk (Kd.R_reads' hR));(have hfx:=HFX.out _ _ HO1.out.lx);clear hB hfy hR)
       | (go_at_call 18;(with_reducible refine hfx.mono ?_);rintro e w9 ⟨A6,c6,rfl,hR,hB⟩;(replace HO1:=Aside0.mk (HO1.out.below hB));(have hrs:=HRS.out w9 A5 c5 A6 c6 (Kd.C_below HR5.out.2.2 hB) HR5.out.2.1 (Kd.R_reads' hR).2.2 (Kd.R_reads' hR).2.1);clear hB hfx hR)
       | (go_at_call 17;(with_reducible refine hrs.mono ?_);rintro e w10 ⟨rfl,hB⟩;(replace HO1:=Aside0.mk (HO1.out.below hB));clear hB hrs))
      go_roundw
      case rel=>exact ⟨i+1,m',by go_num,by have:=HLTQ.out;omega,HM2.out.1,HM2.out.2,by rw [HYS.out];exact HO1⟩
      case measure=>exact one_measure HLTQ.out
    ·by_cases e2:f > (x.length:Int)+1
     ·have d1:decide (f < 1)=false:=decide_eq_false e1
      have d2:decide (f > (x.length:Int)+1)=true:=decide_eq_true e2
      obtain ⟨s,hse⟩:∃ s:Nat,s=0:=⟨_,rfl⟩
      have hF:(1:Int)=(s:Int)+1:=by omega
      have hsl:s≤x.length:=by omega
      clear hse
      obtain ⟨mk,hmk⟩:∃ mk,markF x (1 - 1)=mk:=⟨_,rfl⟩
      have hone:=one_step HLO.out HEP.out hsl hm many
      rw [← hF,hmk] at hone
      obtain ⟨mk1,mk2⟩:=mk
      obtain ⟨fs,hfs⟩:∃ fs,fromF x 1 many=fs:=⟨_,rfl⟩
      rw [hfs] at hone
      obtain ⟨m',n',f',hm1,hm2,htk,hff,hgo⟩:=hone
      dsimp only at htk
      have HTK:=Aside0.mk htk
      have HFV:Aside0 (∀ r ∈ fs,r.f7.size≤140737488351232):=⟨fun r hr=>HLO.out.size r (by
       rw [← hfs] at hr
       unfold fromF at hr
       split at hr
       ·simp at hr
       ·exact List.mem_of_mem_drop (List.mem_of_mem_take hr))⟩
      have hs1:(1:Int)≤1:=by omega
      have hs2:(1:Int)≤1099511627776:=by omega
      have HSO:=Aside0.mk (show SnOk 1 0 from ⟨by omega,by omega,by omega⟩)
      have HSN:=Aside0.mk (fun (W:World) (g:Nat) (ok:Nat→Prop) (h:SnAt 101 W g 1 0) (hL:LogAt 98 W ok gx x 0)=>ssend_far (most:=many) h HSO.out hL HLO.out.len)
      rw [hmk,hfs] at HSN
      dsimp only at HSN
      have HLM0:=Aside0.mk (take_ok HLO.out hm)
      have HS12:=Aside0.mk (And.intro hs1 hs2)
      have hlm:(x.take m').length=m':=by rw [List.length_take];omega
      have hlm2:(x.take m').length≤65536:=by rw [hlm];omega
      have hlm3:(x.take m').length≤1759218604441:=by rw [hlm];omega
      have hlm4:x.length≤1759218604441:=by omega
      have HLASTY:=Aside0.mk (fun (W:World) (ok:Nat→Prop) (h:LogAt 98 W ok gy (x.take m') 0)=>last_okB h hlm3)
      have HFY:=Aside0.mk (fun (W:World) (ok:Nat→Prop) (h:LogAt 98 W ok gy (x.take m') 0)=>from_ok h hlm3 1 100000)
      have HFX:=Aside0.mk (fun (W:World) (ok:Nat→Prop) (h:LogAt 98 W ok gx x 0)=>from_ok h hlm4 1 (((x.take m').length:Nat):Int))
      rw [fromF_all hlm2 (by decide)] at HFY
      rw [fromF_begin2 hm2] at HFX
      have HRS:=Aside0.mk (fun (W:World) (A:Option Addr) (c:Nat) (A':Option Addr) (c':Nat) (h1:Kd.C kRec W A (x.take m').length (x.take m')) (h2:(x.take m').length≤c) (h3:Kd.C kRec W A' (x.take m').length (x.take m')) (h4:(x.take m').length≤c')=>records_same A c A' c' (x.take m') W h1 h2 h3 h4 (by omega))
      have k1:((f' != 0)=false)∨((f' != 0)=true∧(f' != 200)=false):=by rcases hff with rfl|rfl <;> simp
      have k2:decide (((x.take m').length:Int) > (x.length:Int))=false:=decide_eq_false (by rw [hlm];omega)
      have k2':¬ ((x.take m').length:Int) > (x.length:Int):=by rw [hlm];omega
      obtain ⟨ys,hys⟩:∃ ys,x.take m'=ys:=⟨_,rfl⟩
      rw [hys] at HTK HLASTY HFY HFX HRS k2 k2'
      have HYS:=Aside0.mk hys
      clear hys
      have hnewi:xs.length≤i+1→i+1 - xs.length≤m'∨m'=x.length:=fun h=>by omega
      have HM2:=Aside0.mk (And.intro hm2 hnewi)
      have HLTQ:=Aside0.mk hlt
      clear htk hff hfs hmk hgo hm1 hm2 hlm hlm2 hlm3 hlm4 hs1 hs2 hm hsl
      have HHI:=Aside0.mk hi
      have HK1:=Aside0.mk k1
      have HK2:=Aside0.mk (And.intro k2 k2')
      clear hi k1 k2 k2'
      obtain ⟨hw1,hw1'⟩:=HW1.out
      obtain ⟨hw2,hw2'⟩:=HW2.out
      obtain ⟨hw3,hw3'⟩:=HW3.out
      obtain ⟨hw4,hw4'⟩:=HW4.out
      obtain ⟨hw5,hw5'⟩:=HW5.out
      obtain ⟨hw6,hw6'⟩:=HW6.out
      have HF:=Aside0.mk hF
      obtain ⟨p0,p1,pf0,pf1⟩:=HN0.out.cells
      clear hin hF HO1
      go_upto_region 14 with (fail)
      have HNF:=Aside0.mk (show SnAt 45 (wr.alloc (.cells #[.int .i64 1,.int .i64 many] 45)) wr.heap.size 1 many from blk_newN _ _)
      have HO1:=Aside0.mk (HO.out.below (below_alloc (Below.refl wr.heap.size wr) (.cells #[.int .i64 1,.int .i64 many] 45)))
      clear hx0 hx1 HO
      clear p0 p1 pf0 pf1
      obtain ⟨p0,p1,pf0,pf1⟩:=HNF.out.cells
      clear d0 g1 g1' hw1 hw1' hw2 hw2' hw3 hw3' hw4 hw4' hw5 hw5'
      rcases HK1.out with k1|⟨k1,k1'⟩
      all_goals
       obtain ⟨k2,k2'⟩:=HK2.out
       go_wp2_with (first
        | (go_at_call 22;(with_reducible refine (snew_ok 1 HS12.out.1 HS12.out.2 _).mono ?_);rintro e w4 ⟨rfl,hS,hB⟩;simp only [World.size_setCell,alloc_size] at hS;(have HS:=Aside0.mk hS);clear p0 p1 pf0 pf1;(replace HNF:=Aside0.mk (HNF.out.below hB));(replace HO1:=Aside0.mk (HO1.out.below hB));obtain ⟨p0,p1,pf0,pf1⟩:=HNF.out.cells;(have HLY:=Aside0.mk HO1.out.ly.bound);(have hsd:=HSN.out _ _ _ HS.out HO1.out.lx);clear hS hB)
        | (go_at_call 23;(with_reducible refine hsd.mono ?_);rintro e w5 ⟨A3,c3,rfl,hc3,hC3,hB,B,hB0,hR⟩;(have hB2:=below_alloc hB (.cells #[.int .i64 mk1,.int .i64 mk2] 24));(have hR2:=Kd.R_below hR (below_alloc (Below.refl w5.heap.size w5) (.cells #[.int .i64 mk1,.int .i64 mk2] 24)));(replace HO1:=Aside0.mk (HO1.out.below hB2));(replace HLY:=Aside0.mk (HLY.out.below hB2));(have HM:=Aside0.mk (show SnAt 24 (w5.alloc (.cells #[.int .i64 mk1,.int .i64 mk2] 24)) w5.heap.size mk1 mk2 from blk_newN _ _));clear p0 p1 pf0 pf1;obtain ⟨p0,p1,pf0,pf1⟩:=HM.out.cells;(have htk:=stake_ok HLY.out (fun k hk=>Nat.lt_of_lt_of_le hk.2 hB2.size) HLM0.out mk1 mk2 A3 c3 fs (fun W hC=>sent_stays hR2 hC (fun k hk=>hk.2) hB0) HFV.out);rw [HTK.out] at htk;dsimp only at htk;clear hB hB2 hR hR2 hC3 hc3 hB0 hsd)
        | (go_at_call 15;(with_reducible refine htk.mono ?_);rintro e w6 ⟨rfl,hL,hC⟩;clear p0 p1 pf0 pf1;(replace HO1:=Aside0.mk (HO1.out.onY (fun k hk=>hk.1) (hL.mono (fun k hk=>hk)) hC));(have hly:=HLASTY.out _ _ HO1.out.ly);clear hL hC htk)
        | (go_at_call 21;(with_reducible refine hly.mono ?_);rintro e w7 ⟨rfl,hB⟩;(replace HO1:=Aside0.mk (HO1.out.below hB));(have hfy:=HFY.out _ _ HO1.out.ly);clear hB hly)
        | (go_at_call 18;(with_reducible refine hfy.mono ?_);rintro e w8 ⟨A5,c5,rfl,hR,hB⟩;(replace HO1:=Aside0.mk (HO1.out.below hB));(have HR5:=Aside0.mk (Kd.R_reads' hR));(have hfx:=HFX.out _ _ HO1.out.lx);clear hB hfy hR)
        | (go_at_call 18;(with_reducible refine hfx.mono ?_);rintro e w9 ⟨A6,c6,rfl,hR,hB⟩;(replace HO1:=Aside0.mk (HO1.out.below hB));(have hrs:=HRS.out w9 A5 c5 A6 c6 (Kd.C_below HR5.out.2.2 hB) HR5.out.2.1 (Kd.R_reads' hR).2.2 (Kd.R_reads' hR).2.1);clear hB hfx hR)
        | (go_at_call 17;(with_reducible refine hrs.mono ?_);rintro e w10 ⟨rfl,hB⟩;(replace HO1:=Aside0.mk (HO1.out.below hB));clear hB hrs))
       go_roundw
       case rel=>exact ⟨i+1,m',by go_num,by have:=HLTQ.out;omega,HM2.out.1,HM2.out.2,by rw [HYS.out];exact HO1⟩
       case measure=>exact one_measure HLTQ.out
     ·have d1:decide (f < 1)=false:=decide_eq_false e1
      have d2:decide (f > (x.length:Int)+1)=false:=decide_eq_false e2
      obtain ⟨s,hse⟩:∃ s:Nat,s=(f - 1).toNat:=⟨_,rfl⟩
      have hF:f=(s:Int)+1:=by omega
      have hsl:s≤x.length:=by omega
      clear hse
      obtain ⟨mk,hmk⟩:∃ mk,markF x (f - 1)=mk:=⟨_,rfl⟩
      have hone:=one_step HLO.out HEP.out hsl hm many
      rw [← hF,hmk] at hone
      obtain ⟨mk1,mk2⟩:=mk
      obtain ⟨fs,hfs⟩:∃ fs,fromF x f many=fs:=⟨_,rfl⟩
      rw [hfs] at hone
      obtain ⟨m',n',f',hm1,hm2,htk,hff,hgo⟩:=hone
      dsimp only at htk
      have HTK:=Aside0.mk htk
      have HFV:Aside0 (∀ r ∈ fs,r.f7.size≤140737488351232):=⟨fun r hr=>HLO.out.size r (by
       rw [← hfs] at hr
       unfold fromF at hr
       split at hr
       ·simp at hr
       ·exact List.mem_of_mem_drop (List.mem_of_mem_take hr))⟩
      have hs1:1≤f:=by omega
      have hs2:f≤1099511627776:=by omega
      have HSO:=Aside0.mk (show SnOk f 0 from ⟨by omega,by omega,by omega⟩)
      have HSN:=Aside0.mk (fun (W:World) (g:Nat) (ok:Nat→Prop) (h:SnAt 101 W g f 0) (hL:LogAt 98 W ok gx x 0)=>ssend_far (most:=many) h HSO.out hL HLO.out.len)
      rw [hmk,hfs] at HSN
      dsimp only at HSN
      have HLM0:=Aside0.mk (take_ok HLO.out hm)
      have HS12:=Aside0.mk (And.intro hs1 hs2)
      have hlm:(x.take m').length=m':=by rw [List.length_take];omega
      have hlm2:(x.take m').length≤65536:=by rw [hlm];omega
      have hlm3:(x.take m').length≤1759218604441:=by rw [hlm];omega
      have hlm4:x.length≤1759218604441:=by omega
      have HLASTY:=Aside0.mk (fun (W:World) (ok:Nat→Prop) (h:LogAt 98 W ok gy (x.take m') 0)=>last_okB h hlm3)
      have HFY:=Aside0.mk (fun (W:World) (ok:Nat→Prop) (h:LogAt 98 W ok gy (x.take m') 0)=>from_ok h hlm3 1 100000)
      have HFX:=Aside0.mk (fun (W:World) (ok:Nat→Prop) (h:LogAt 98 W ok gx x 0)=>from_ok h hlm4 1 (((x.take m').length:Nat):Int))
      rw [fromF_all hlm2 (by decide)] at HFY
      rw [fromF_begin2 hm2] at HFX
      have HRS:=Aside0.mk (fun (W:World) (A:Option Addr) (c:Nat) (A':Option Addr) (c':Nat) (h1:Kd.C kRec W A (x.take m').length (x.take m')) (h2:(x.take m').length≤c) (h3:Kd.C kRec W A' (x.take m').length (x.take m')) (h4:(x.take m').length≤c')=>records_same A c A' c' (x.take m') W h1 h2 h3 h4 (by omega))
      have k1:((f' != 0)=false)∨((f' != 0)=true∧(f' != 200)=false):=by rcases hff with rfl|rfl <;> simp
      have k2:decide (((x.take m').length:Int) > (x.length:Int))=false:=decide_eq_false (by rw [hlm];omega)
      have k2':¬ ((x.take m').length:Int) > (x.length:Int):=by rw [hlm];omega
      obtain ⟨ys,hys⟩:∃ ys,x.take m'=ys:=⟨_,rfl⟩
      rw [hys] at HTK HLASTY HFY HFX HRS k2 k2'
      have HYS:=Aside0.mk hys
      clear hys
      have hnewi:xs.length≤i+1→i+1 - xs.length≤m'∨m'=x.length:=fun h=>by omega
      have HM2:=Aside0.mk (And.intro hm2 hnewi)
      have HLTQ:=Aside0.mk hlt
      clear htk hff hfs hmk hgo hm1 hm2 hlm hlm2 hlm3 hlm4 hs1 hs2 hm hsl
      have HHI:=Aside0.mk hi
      have HK1:=Aside0.mk k1
      have HK2:=Aside0.mk (And.intro k2 k2')
      clear hi k1 k2 k2'
      obtain ⟨hw1,hw1'⟩:=HW1.out
      obtain ⟨hw2,hw2'⟩:=HW2.out
      obtain ⟨hw3,hw3'⟩:=HW3.out
      obtain ⟨hw4,hw4'⟩:=HW4.out
      obtain ⟨hw5,hw5'⟩:=HW5.out
      obtain ⟨hw6,hw6'⟩:=HW6.out
      have HF:=Aside0.mk hF
      obtain ⟨p0,p1,pf0,pf1⟩:=HN0.out.cells
      clear hin hF HO1
      go_upto_region 14 with (fail)
      have HNF:=Aside0.mk (show SnAt 45 (wr.alloc (.cells #[.int .i64 f,.int .i64 many] 45)) wr.heap.size f many from blk_newN _ _)
      have HO1:=Aside0.mk (HO.out.below (below_alloc (Below.refl wr.heap.size wr) (.cells #[.int .i64 f,.int .i64 many] 45)))
      clear hx0 hx1 HO
      clear p0 p1 pf0 pf1
      obtain ⟨p0,p1,pf0,pf1⟩:=HNF.out.cells
      clear d0 g1 g1' hw1 hw1' hw2 hw2' hw3 hw3' hw4 hw4' hw5 hw5'
      rcases HK1.out with k1|⟨k1,k1'⟩
      all_goals
       obtain ⟨k2,k2'⟩:=HK2.out
       go_wp2_with (first
        | (go_at_call 22;(with_reducible refine (snew_ok f HS12.out.1 HS12.out.2 _).mono ?_);rintro e w4 ⟨rfl,hS,hB⟩;simp only [World.size_setCell,alloc_size] at hS;(have HS:=Aside0.mk hS);clear p0 p1 pf0 pf1;(replace HNF:=Aside0.mk (HNF.out.below hB));(replace HO1:=Aside0.mk (HO1.out.below hB));obtain ⟨p0,p1,pf0,pf1⟩:=HNF.out.cells;(have HLY:=Aside0.mk HO1.out.ly.bound);(have hsd:=HSN.out _ _ _ HS.out HO1.out.lx);clear hS hB)
        | (go_at_call 23;(with_reducible refine hsd.mono ?_);rintro e w5 ⟨A3,c3,rfl,hc3,hC3,hB,B,hB0,hR⟩;(have hB2:=below_alloc hB (.cells #[.int .i64 mk1,.int .i64 mk2] 24));(have hR2:=Kd.R_below hR (below_alloc (Below.refl w5.heap.size w5) (.cells #[.int .i64 mk1,.int .i64 mk2] 24)));(replace HO1:=Aside0.mk (HO1.out.below hB2));(replace HLY:=Aside0.mk (HLY.out.below hB2));(have HM:=Aside0.mk (show SnAt 24 (w5.alloc (.cells #[.int .i64 mk1,.int .i64 mk2] 24)) w5.heap.size mk1 mk2 from blk_newN _ _));clear p0 p1 pf0 pf1;obtain ⟨p0,p1,pf0,pf1⟩:=HM.out.cells;(have htk:=stake_ok HLY.out (fun k hk=>Nat.lt_of_lt_of_le hk.2 hB2.size) HLM0.out mk1 mk2 A3 c3 fs (fun W hC=>sent_stays hR2 hC (fun k hk=>hk.2) hB0) HFV.out);rw [HTK.out] at htk;dsimp only at htk;clear hB hB2 hR hR2 hC3 hc3 hB0 hsd)
        | (go_at_call 15;(with_reducible refine htk.mono ?_);rintro e w6 ⟨rfl,hL,hC⟩;clear p0 p1 pf0 pf1;(replace HO1:=Aside0.mk (HO1.out.onY (fun k hk=>hk.1) (hL.mono (fun k hk=>hk)) hC));(have hly:=HLASTY.out _ _ HO1.out.ly);clear hL hC htk)
        | (go_at_call 21;(with_reducible refine hly.mono ?_);rintro e w7 ⟨rfl,hB⟩;(replace HO1:=Aside0.mk (HO1.out.below hB));(have hfy:=HFY.out _ _ HO1.out.ly);clear hB hly)
        | (go_at_call 18;(with_reducible refine hfy.mono ?_);rintro e w8 ⟨A5,c5,rfl,hR,hB⟩;(replace HO1:=Aside0.mk (HO1.out.below hB));(have HR5:=Aside0.mk (Kd.R_reads' hR));(have hfx:=HFX.out _ _ HO1.out.lx);clear hB hfy hR)
        | (go_at_call 18;(with_reducible refine hfx.mono ?_);rintro e w9 ⟨A6,c6,rfl,hR,hB⟩;(replace HO1:=Aside0.mk (HO1.out.below hB));(have hrs:=HRS.out w9 A5 c5 A6 c6 (Kd.C_below HR5.out.2.2 hB) HR5.out.2.1 (Kd.R_reads' hR).2.2 (Kd.R_reads' hR).2.1);clear hB hfx hR)
        | (go_at_call 17;(with_reducible refine hrs.mono ?_);rintro e w10 ⟨rfl,hB⟩;(replace HO1:=Aside0.mk (HO1.out.below hB));clear hB hrs))
       go_roundw
       case rel=>exact ⟨i+1,m',by go_num,by have:=HLTQ.out;omega,HM2.out.1,HM2.out.2,by rw [HYS.out];exact HO1⟩
       case measure=>exact one_measure HLTQ.out
   ·skip
    have hnin:¬ (i:Int) < (xs.length:Int):=by omega
    have d0:decide ((i:Int) < (xs.length:Int))=false:=decide_eq_false hnin
    obtain ⟨s,hsi⟩:∃ s:Nat,(i:Int) - (xs.length:Int)=(s:Int):=⟨i - xs.length,by omega⟩
    obtain ⟨F,hF0⟩:∃ F:Int,(i:Int) - (xs.length:Int)+1=F:=⟨_,rfl⟩
    have hF:F=(s:Int)+1:=by omega
    have hsl:s≤x.length:=by omega
    have hinv2:=HINV.out (by omega)
    have t1:decide ((i:Int) - (xs.length:Int)+1 < 1)=false:=decide_eq_false (by omega)
    have t1':¬ (i:Int) - (xs.length:Int)+1 < 1:=by omega
    have t2:decide ((i:Int) - (xs.length:Int)+1 > (x.length:Int)+1)=false:=decide_eq_false (by omega)
    have t2':¬ (i:Int) - (xs.length:Int)+1 > (x.length:Int)+1:=by omega
    obtain ⟨mk,hmk⟩:∃ mk,markF x (F - 1)=mk:=⟨_,rfl⟩
    have hone:=one_step HLO.out HEP.out hsl hm 1
    rw [← hF,hmk] at hone
    obtain ⟨mk1,mk2⟩:=mk
    obtain ⟨fs,hfs⟩:∃ fs,fromF x F 1=fs:=⟨_,rfl⟩
    rw [hfs] at hone
    obtain ⟨m',n',f',hm1,hm2,htk,hff,hgo⟩:=hone
    dsimp only at htk
    have HTK:=Aside0.mk htk
    have HFV:Aside0 (∀ r ∈ fs,r.f7.size≤140737488351232):=⟨fun r hr=>HLO.out.size r (by
     rw [← hfs] at hr
     unfold fromF at hr
     split at hr
     ·simp at hr
     ·exact List.mem_of_mem_drop (List.mem_of_mem_take hr))⟩
    have hs1:1≤F:=by omega
    have hs2:F≤1099511627776:=by omega
    have HSO:=Aside0.mk (show SnOk F 0 from ⟨by omega,by omega,by omega⟩)
    have HSN:=Aside0.mk (fun (W:World) (g:Nat) (ok:Nat→Prop) (h:SnAt 101 W g F 0) (hL:LogAt 98 W ok gx x 0)=>ssend_far (most:=1) h HSO.out hL HLO.out.len)
    rw [hmk,hfs] at HSN
    dsimp only at HSN
    have HLM0:=Aside0.mk (take_ok HLO.out hm)
    have HS12:=Aside0.mk (And.intro hs1 hs2)
    have hlm:(x.take m').length=m':=by rw [List.length_take];omega
    have hlm2:(x.take m').length≤65536:=by rw [hlm];omega
    have hlm3:(x.take m').length≤1759218604441:=by rw [hlm];omega
    have hlm4:x.length≤1759218604441:=by omega
    have HLASTY:=Aside0.mk (fun (W:World) (ok:Nat→Prop) (h:LogAt 98 W ok gy (x.take m') 0)=>last_okB h hlm3)
    have HFY:=Aside0.mk (fun (W:World) (ok:Nat→Prop) (h:LogAt 98 W ok gy (x.take m') 0)=>from_ok h hlm3 1 100000)
    have HFX:=Aside0.mk (fun (W:World) (ok:Nat→Prop) (h:LogAt 98 W ok gx x 0)=>from_ok h hlm4 1 (((x.take m').length:Nat):Int))
    rw [fromF_all hlm2 (by decide)] at HFY
    rw [fromF_begin2 hm2] at HFX
    have HRS:=Aside0.mk (fun (W:World) (A:Option Addr) (c:Nat) (A':Option Addr) (c':Nat) (h1:Kd.C kRec W A (x.take m').length (x.take m')) (h2:(x.take m').length≤c) (h3:Kd.C kRec W A' (x.take m').length (x.take m')) (h4:(x.take m').length≤c')=>records_same A c A' c' (x.take m') W h1 h2 h3 h4 (by omega))
    have k1:((f' != 0)=false)∨((f' != 0)=true∧(f' != 200)=false):=by rcases hff with rfl|rfl <;> simp
    have k2:decide (((x.take m').length:Int) > (x.length:Int))=false:=decide_eq_false (by rw [hlm];omega)
    have k2':¬ ((x.take m').length:Int) > (x.length:Int):=by rw [hlm];omega
    obtain ⟨ys,hys⟩:∃ ys,x.take m'=ys:=⟨_,rfl⟩
    rw [hys] at HTK HLASTY HFY HFX HRS k2 k2'
    have HYS:=Aside0.mk hys
    clear hys
    have hnewi:xs.length≤i+1→i+1 - xs.length≤m'∨m'=x.length:=fun _=>by
     by_cases hsL:s < x.length
     ·by_cases hsm:s≤m
      ·have:=hgo rfl hsm hsL;omega
      ·omega
     ·omega
    have HM2:=Aside0.mk (And.intro hm2 hnewi)
    have HLTQ:=Aside0.mk hlt
    clear htk hff hfs hmk hgo hm1 hm2 hlm hlm2 hlm3 hlm4 hs1 hs2 hm hsl
    have HHI:=Aside0.mk hi
    have HK1:=Aside0.mk k1
    have HK2:=Aside0.mk (And.intro k2 k2')
    clear hi k1 k2 k2'
    obtain ⟨hw1,hw1'⟩:=HW1.out
    obtain ⟨hw2,hw2'⟩:=HW2.out
    obtain ⟨hw3,hw3'⟩:=HW3.out
    obtain ⟨hw4,hw4'⟩:=HW4.out
    obtain ⟨hw5,hw5'⟩:=HW5.out
    obtain ⟨hw6,hw6'⟩:=HW6.out
    have HF0:=Aside0.mk hF0
    obtain ⟨p0,p1,pf0,pf1⟩:=HN0.out.cells
    clear hinv2 HO hin hsi hF hF0
    go_upto_region 14 with (fail)
    have hF0:=HF0.out
    rw [hF0]
    rw [hF0] at HN0 HO1
    have HNF:=HN0
    clear hF0 hnin t1 t1' t2 t2'
    clear p0 p1 pf0 pf1
    obtain ⟨p0,p1,pf0,pf1⟩:=HNF.out.cells
    clear d0 g1 g1' hw1 hw1' hw2 hw2' hw3 hw3' hw4 hw4' hw5 hw5'
    rcases HK1.out with k1|⟨k1,k1'⟩
    all_goals
     obtain ⟨k2,k2'⟩:=HK2.out
     go_wp2_with (first
      | (go_at_call 22;(with_reducible refine (snew_ok F HS12.out.1 HS12.out.2 _).mono ?_);rintro e w4 ⟨rfl,hS,hB⟩;simp only [World.size_setCell,alloc_size] at hS;(have HS:=Aside0.mk hS);clear p0 p1 pf0 pf1;(replace HNF:=Aside0.mk (HNF.out.below hB));(replace HO1:=Aside0.mk (HO1.out.below hB));obtain ⟨p0,p1,pf0,pf1⟩:=HNF.out.cells;(have HLY:=Aside0.mk HO1.out.ly.bound);(have hsd:=HSN.out _ _ _ HS.out HO1.out.lx);clear hS hB)
      | (go_at_call 23;(with_reducible refine hsd.mono ?_);rintro e w5 ⟨A3,c3,rfl,hc3,hC3,hB,B,hB0,hR⟩;(have hB2:=below_alloc hB (.cells #[.int .i64 mk1,.int .i64 mk2] 24));(have hR2:=Kd.R_below hR (below_alloc (Below.refl w5.heap.size w5) (.cells #[.int .i64 mk1,.int .i64 mk2] 24)));(replace HO1:=Aside0.mk (HO1.out.below hB2));(replace HLY:=Aside0.mk (HLY.out.below hB2));(have HM:=Aside0.mk (show SnAt 24 (w5.alloc (.cells #[.int .i64 mk1,.int .i64 mk2] 24)) w5.heap.size mk1 mk2 from blk_newN _ _));clear p0 p1 pf0 pf1;obtain ⟨p0,p1,pf0,pf1⟩:=HM.out.cells;(have htk:=stake_ok HLY.out (fun k hk=>Nat.lt_of_lt_of_le hk.2 hB2.size) HLM0.out mk1 mk2 A3 c3 fs (fun W hC=>sent_stays hR2 hC (fun k hk=>hk.2) hB0) HFV.out);rw [HTK.out] at htk;dsimp only at htk;clear hB hB2 hR hR2 hC3 hc3 hB0 hsd)
      | (go_at_call 15;(with_reducible refine htk.mono ?_);rintro e w6 ⟨rfl,hL,hC⟩;clear p0 p1 pf0 pf1;(replace HO1:=Aside0.mk (HO1.out.onY (fun k hk=>hk.1) (hL.mono (fun k hk=>hk)) hC));(have hly:=HLASTY.out _ _ HO1.out.ly);clear hL hC htk)
      | (go_at_call 21;(with_reducible refine hly.mono ?_);rintro e w7 ⟨rfl,hB⟩;(replace HO1:=Aside0.mk (HO1.out.below hB));(have hfy:=HFY.out _ _ HO1.out.ly);clear hB hly)
      | (go_at_call 18;(with_reducible refine hfy.mono ?_);rintro e w8 ⟨A5,c5,rfl,hR,hB⟩;(replace HO1:=Aside0.mk (HO1.out.below hB));(have HR5:=Aside0.mk (Kd.R_reads' hR));(have hfx:=HFX.out _ _ HO1.out.lx);clear hB hfy hR)
      | (go_at_call 18;(with_reducible refine hfx.mono ?_);rintro e w9 ⟨A6,c6,rfl,hR,hB⟩;(replace HO1:=Aside0.mk (HO1.out.below hB));(have hrs:=HRS.out w9 A5 c5 A6 c6 (Kd.C_below HR5.out.2.2 hB) HR5.out.2.1 (Kd.R_reads' hR).2.2 (Kd.R_reads' hR).2.1);clear hB hfx hR)
      | (go_at_call 17;(with_reducible refine hrs.mono ?_);rintro e w10 ⟨rfl,hB⟩;(replace HO1:=Aside0.mk (HO1.out.below hB));clear hB hrs))
     go_roundw
     case rel=>exact ⟨i+1,m',by go_num,by have:=HLTQ.out;omega,HM2.out.1,HM2.out.2,by rw [HYS.out];exact HO1⟩
     case measure=>exact one_measure HLTQ.out
  ·have hge:decide ((i:Int) < (xs.length:Int)+(x.length:Int)+1)=false:=decide_eq_false (by omega)
   have hge':¬ (i:Int) < (xs.length:Int)+(x.length:Int)+1:=by omega
   have hinv2:=HINV.out (by omega)
   have hmL:m=x.length:=by omega
   subst hmL
   rw [List.take_length] at HO
   have hla:=HLA.out _ _ _ HO.out.ly
   have b1:((x.length:Int)==(x.length:Int))=true:=by simp
   obtain ⟨hw1,hw1'⟩:=HW1.out
   obtain ⟨hw2,hw2'⟩:=HW2.out
   clear hinv2 hlt hi HW1 HW2 HW3 HW4 HW5 HW6
   go_wp2_with (first
    | (go_at_call 21;(with_reducible refine hla.mono ?_);rintro e w3 ⟨rfl,hB⟩;(replace HO:=Aside0.mk (HO.out.below hB));clear hB hla)
    | (go_at_call 19;(with_reducible refine (speaks20_ok _).mono ?_);rintro e w7 ⟨rfl,hB⟩;(replace HO:=Aside0.mk (HO.out.below hB));clear hB))
   go_ret
   exact ⟨rfl,HO.out.bw⟩
end Go.Proofs.Ytgjibcfkjaedfaa.Wal

namespace Go.Proofs.Ytgjibcfkjaedfaa.Pr
open Go.RowKit Go.Proofs.YtgjibcfkjaedfaaW.PrintWords Go.Proofs.YtgjibcfkjaedfaaW.PrintLast Go.Proofs.YtgjibcfkjaedfaaW.PrintMore
attribute [local go_sem] max2_int min2_int max_two min_two max_three min_three max_four min_four
set_option linter.unusedVariables false
set_option linter.unusedSimpArgs false
noncomputable def latticelaw20_ShipOne.f (a0:List S53) (a1:List S45):Option Bool:=@ite _ ((∀ x ∈ a0,x.f7.size≤140737488351232)∧a1.length≤140737488351232) (Classical.propDecidable _) (some true) none
theorem latticelaw20_ShipOne.calls (A0:Option Addr) (c0:Nat) (a0:List S53) (A1:Option Addr) (c1:Nat) (a1:List S45) (r:Bool) (w:World) (hr0:Kd.C k53 w A0 a0.length a0) (hc0:a0.length≤c0) (hr1:Kd.C k45 w A1 a1.length a1) (hc1:a1.length≤c1) (h:latticelaw20_ShipOne.f a0 a1=some r) :
  Calls Try.prog 4 #[.slice A0 a0.length c0,.slice A1 a1.length c1] w fun e w'=>e=.returned (.bool r)∧Below w.heap.size w w':=by
 unfold latticelaw20_ShipOne.f at h
 split at h
 ·rename_i hn
  injection h with h
  subst h
  exact Wal.shipOne_ok A0 c0 a0 A1 c1 a1 w hr0 hn.1 hr1 hn.2
 ·cases h
end Go.Proofs.Ytgjibcfkjaedfaa.Pr

namespace Go.Proofs.Ytgjibcfkjaedfaa.Open
open Go.RowKit Go.ChangeShapes Go.WideShapes Go.Proofs.YtgjibcfkjaedfaaW.PrintWords
abbrev reachN:Nat:=140737488351232
structure Opn (P:Program) (t:TypeId) {α:Type} (d:Kd α) (g:α→Prop) (m:α→Nat):Prop where
 sz:P.cellsOf t=d.sz
 out:∀ (H:Type) (enc:TypeId×Value→H) (W:World) (n:Nat) (cs:List Value) (x:DataW H×List MemPlace),DataW.trod enc P W 0 (fun _=>true) true n t cs=some x →
  (∀ q ∈ x.1.weights P t,q≤reachN)→∃ y:α,d.K W y cs∧g y∧m y≤Rows.uptoBulk x.1
section
variable {P:Program} {t e:TypeId}
theorem opn_int {k:IntKind} (ht:P.underlying t=some (.int k)) (hc:P.cellsOf t=1):Opn P t (Kd.int k) (fun y=>(Lit.int k y).wf=true) (fun _=>1) where
 sz:=hc
 out:=by
  intro H enc W n cs x h _
  obtain ⟨y,rfl,rfl,hw⟩:=DataW.trod_int ht h
  exact ⟨y,rfl,hw,Nat.le_refl _⟩
theorem opn_string (ht:P.underlying t=some .string) (hc:P.cellsOf t=1):Opn P t Kd.string (fun y=>y.size≤reachN) (fun y=>y.size+1) where
 sz:=hc
 out:=by
  intro H enc W n cs x h hq
  obtain ⟨y,rfl,rfl,hw⟩:=DataW.trod_string ht h
  have:=hq y.data.toList.length (by simp [DataW.weights])
  exact ⟨y,rfl,by simpa using this,by simp [Rows.uptoBulk]⟩
theorem list_of {α:Type} (p:Nat→α→Prop):∀ len,(∀ i,i < len→∃ y,p i y)→∃ ys:List α,ys.length=len∧∀ i y,ys[i]?=some y→p i y
 | 0,_=>⟨[],rfl,fun i y h=>by simp at h⟩
 | len+1,h=>by
  obtain ⟨ys,hl,hy⟩:=list_of p len (fun i hi=>h i (by omega))
  obtain ⟨y,hp⟩:=h len (by omega)
  refine ⟨ys++[y],by simp [hl],fun i z hz=>?_⟩
  by_cases hi:i < len
  ·rw [List.getElem?_append_left (by omega)] at hz
   exact hy i z hz
  ·by_cases he:i=len
   ·subst he
    rw [List.getElem?_append_right (by omega),hl] at hz
    simp at hz
    subst hz
    exact hp
   ·rw [List.getElem?_eq_none (by simp;omega)] at hz
    cases hz
theorem bulk_sum {H α:Type} (m:α→Nat):∀ (ys:List α) (es:List (DataW H)),ys.length=es.length→(∀ (i:Nat) (y:α) (x:DataW H),ys[i]?=some y→es[i]?=some x→m y≤Rows.uptoBulk x)→(ys.map m).sum≤Rows.uptoBulkAll es
 | [],[],_,_=>by simp
 | [],_::_,h,_=>by simp at h
 | _::_,[],h,_=>by simp at h
 | y::ys,x::es,h,hm=>by
  have ih:=bulk_sum m ys es (by simpa using h) (fun i a b ha hb=>hm (i+1) a b (by simpa using ha) (by simpa using hb))
  have h0:=hm 0 y x rfl rfl
  simp only [List.map_cons,List.sum_cons,Rows.uptoBulkAll]
  omega
theorem addr_add (a:Addr) (x y:Nat):(a.add x).add y=a.add (x+y):=by
 by_cases hx:x=0
 ·subst hx;simp [Addr.add]
 ·by_cases hy:y=0
  ·subst hy;simp [Addr.add]
  ·simp [Addr.add,hx,hy,Nat.add_assoc]
theorem weights_all {H:Type} {P:Program} {e:TypeId}:∀ (es:List (DataW H)) (x:DataW H),x ∈ es→∀ q ∈ x.weights P e,q ∈ DataW.weightsAll P e es
 | [],_,h=>by simp at h
 | y::r,x,h=>by
  intro q hq
  simp only [DataW.weightsAll,List.mem_append]
  rcases List.mem_cons.1 h with rfl|h
  ·exact .inl hq
  ·exact .inr (weights_all r x h q hq)
theorem opn_slice {α:Type} {d:Kd α} {g:α→Prop} {m:α→Nat} {B:Nat} (ht:P.underlying t=some (.slice e)) (hc:P.cellsOf t=1) (hB:P.bytesOf e=B) (he:Opn P e d g m) :
  Opn P t (Kd.slice e d) (fun xs=>xs.length≤maxLen∧xs.length*B≤reachN∧∀ y ∈ xs,g y) (fun xs=>(xs.map m).sum+1) where
 sz:=hc
 out:=by
  intro H enc W n cs x h hq
  rcases DataW.trod_slice ht h with ⟨rfl,rfl⟩|⟨a,len,cap,elems,rest,n,_,rfl,rfl,hb,hl,hm,hlen,hel,hsp,_⟩
  ·exact ⟨[],⟨none,0,rfl,Nat.le_refl _,Kd.C_nil d W⟩,⟨by simp,by simp,by simp⟩,by simp [Rows.uptoBulk]⟩
  ·have hw:∀ q ∈ DataW.weightsAll P e (elems.map (·.1)),q≤reachN:=fun q hq'=>hq q (by simp only [DataW.weights,ht];exact List.mem_cons_of_mem _ (List.mem_append_left _ hq'))
   have h0:=hq (((elems.map (·.1)).length+(rest.map (·.1)).length)*P.bytesOf e) (by simp only [DataW.weights,ht];exact List.mem_cons_self)
   have each:∀ i,i < len→∃ y:α,∃ c:List Value,∃ z:DataW H×List MemPlace,elems[i]?=some z∧d.K W y c∧g y∧m y≤Rows.uptoBulk z.1∧∀ j u,c[j]?=some u→W.cell? (a.add (i*d.sz+j))=some u:=by
    intro i hi
    have h1:=hel i hi
    rw [List.getElem?_eq_getElem (by omega)] at h1
    obtain ⟨c,hcs,hx⟩:=Option.bind_eq_some_iff.1 h1
    obtain ⟨_,hcl,hcell⟩:=World.cells?_some hcs
    obtain ⟨y,hy,hg,hbk⟩:=he.out H enc W n c _ hx (fun q hq'=>hw q (weights_all _ _ (List.mem_map_of_mem (List.getElem_mem (by omega))) q hq'))
    refine ⟨y,c,_,List.getElem?_eq_getElem (by omega),hy,hg,hbk,fun j u hu=>?_⟩
    have hj:j < P.cellsOf e:=by
     have:=(List.getElem?_eq_some_iff.1 hu).1
     omega
    have h2:=hcell j hj
    rw [hu,he.sz,addr_add] at h2
    exact h2
   obtain ⟨ys,hyl,hys⟩:=list_of _ len each
   have hyl2:ys.length=elems.length:=by omega
   refine ⟨ys,⟨some a,cap,by rw [hyl],by omega,?_⟩,⟨by omega,?_,?_⟩,?_⟩
   ·refine ⟨rfl,by unfold maxLen at hm;omega,fun _=>⟨a,rfl,fun j p hp=>?_⟩⟩
    obtain ⟨c,z,_,hK,_,_,hcell⟩:=hys j p hp
    exact ⟨c,d.K_len hK,hK,hcell⟩
   ·rw [hB] at h0
    simp only [List.length_map] at h0
    have:ys.length*B≤(elems.length+rest.length)*B:=Nat.mul_le_mul_right _ (by omega)
    omega
   ·intro y hy
    obtain ⟨j,hj,rfl⟩:=List.getElem_of_mem hy
    obtain ⟨c,z,_,_,hg,_⟩:=hys j _ (List.getElem?_eq_getElem hj)
    exact hg
   ·have:=bulk_sum m ys (elems.map (·.1)) (by simp [hyl2]) (fun i y z hy hz=>by
     obtain ⟨c,z',h2,_,_,h3,_⟩:=hys i y hy
     rw [List.getElem?_map,h2] at hz
     simp at hz
     subst hz
     exact h3)
    simp only [Rows.uptoBulk]
    omega
structure OpnF (P:Program) (fs:List Field) (o:Nat) {α:Type} (d:Kd α) (g:α→Prop) (m:α→Nat):Prop where
 out:∀ (H:Type) (enc:TypeId×Value→H) (W:World) (n:Nat) (cs:List Value) (xs:List (DataW H×List MemPlace)),cs.length=o+d.sz→xs.length=fs.length →
  (∀ (i:Nat) (f:Field),fs[i]?=some f→DataW.trod enc P W 0 (fun _=>true) true n f.type ((cs.drop f.offset).take (P.cellsOf f.type))=xs[i]?) →
  (∀ q ∈ DataW.weightsEach P (fs.map (·.type)) (xs.map (·.1)),q≤reachN)→∃ y:α,d.K W y (cs.drop o)∧g y∧m y≤Rows.uptoBulkAll (xs.map (·.1))
theorem opnF_last {α:Type} {f:Field} {o:Nat} {d:Kd α} {g:α→Prop} {m:α→Nat} (hf:f.offset=o) (h:Opn P f.type d g m):OpnF P [f] o d g m where
 out:=by
  intro H enc W n cs xs hcs hxs hel hq
  match xs,hxs with
  | [x],_ =>
   have h0:=hel 0 f rfl
   rw [hf,h.sz,List.take_of_length_le (by rw [List.length_drop];omega)] at h0
   obtain ⟨y,hy,hg,hb⟩:=h.out H enc W n _ x (by simpa using h0) (fun q hq'=>hq q (by simp [DataW.weightsEach];exact hq'))
   exact ⟨y,hy,hg,by simp [Rows.uptoBulkAll];exact hb⟩
theorem opnF_cons {α β:Type} {f:Field} {fs:List Field} {o:Nat} {a:Kd α} {b:Kd β} {g:α→Prop} {m:α→Nat} {g':β→Prop} {m':β→Nat} (hf:f.offset=o) (h:Opn P f.type a g m) (hr:OpnF P fs (o+a.sz) b g' m') :
  OpnF P (f::fs) o (Kd.pair a b) (fun y=>g y.1∧g' y.2) (fun y=>m y.1+m' y.2) where
 out:=by
  intro H enc W n cs xs hcs hxs hel hq
  match xs,hxs with
  | x::xs,hxs =>
   have hsz:(Kd.pair a b).sz=a.sz+b.sz:=rfl
   have h0:=hel 0 f rfl
   rw [hf,h.sz] at h0
   obtain ⟨y,hy,hg,hb⟩:=h.out H enc W n _ x (by simpa using h0) (fun q hq'=>hq q (by simp only [List.map_cons,DataW.weightsEach];exact List.mem_append_left _ hq'))
   obtain ⟨z,hz,hg',hb'⟩:=hr.out H enc W n cs xs (by omega) (by simpa using hxs) (fun i f' hf'=>by simpa using hel (i+1) f' (by simpa using hf')) (fun q hq'=>hq q (by simp only [List.map_cons,DataW.weightsEach];exact List.mem_append_right _ hq'))
   refine ⟨(y,z),⟨(cs.drop o).take a.sz,cs.drop (o+a.sz),?_,hy,hz⟩,⟨hg,hg'⟩,?_⟩
   ·rw [← List.drop_drop,List.take_append_drop]
   ·simp only [List.map_cons,Rows.uptoBulkAll]
    omega
theorem opn_struct {α β:Type} {fs:Array Field} {d:Kd α} {g:α→Prop} {m:α→Nat} (ht:P.underlying t=some (.struct fs)) (hc:P.cellsOf t=d.sz) (h:OpnF P fs.toList 0 d g m) (f:β→α) (inv:α→β) (hfi:∀ a,f (inv a)=a) :
  Opn P t (Kd.iso d f) (fun y=>g (f y)) (fun y=>m (f y)+1) where
 sz:=hc
 out:=by
  intro H enc W n cs x hx hq
  obtain ⟨xs,n,_,rfl,hl,hxs,hel⟩:=DataW.trod_struct ht hx
  obtain ⟨y,hy,hg,hb⟩:=h.out H enc W n cs xs (by omega) (by simpa using hxs) (fun i f' hf'=>hel i f' (by simpa using hf')) (fun q hq'=>hq q (by simp only [DataW.weights,ht];exact hq'))
  refine ⟨inv y,?_,?_,?_⟩
  ·show d.K W (f (inv y)) cs
   rw [hfi]
   simpa using hy
  ·rw [hfi];exact hg
  ·rw [hfi];simp only [Rows.uptoBulk];omega
end
theorem weights_at {H:Type} {P:Program} {ts:List TypeId} {ds:List (DataW H)} (h:(DataW.weightsEach P ts ds).all (·≤reachBytes)=true) {j:Nat} {t:TypeId} {d:DataW H} (ht:ts[j]?=some t) (hd:ds[j]?=some d):∀ q ∈ d.weights P t,q≤reachN:=by
 intro q hq
 have h1:=List.all_eq_true.1 h _ (DataW.weights_mem_each ht hd q hq)
 have h2:q≤reachBytes:=by simpa using h1
 exact h2
end Go.Proofs.Ytgjibcfkjaedfaa.Open

namespace Go.Proofs.Ytgjibcfkjaedfaa.Pr
open Go.RowKit
set_option linter.unusedVariables false
def good53 (y:S53):Prop:=(Lit.int .i64 y.f0).wf=true∧(Lit.int .i64 y.f1).wf=true∧(Lit.int .i64 y.f2).wf=true∧(Lit.int .i64 y.f3).wf=true∧(Lit.int .i64 y.f4).wf=true∧(Lit.int .i64 y.f5).wf=true∧y.f6.size≤140737488351232∧y.f7.size≤140737488351232
def bulk53 (y:S53):Nat:=(1+(1+(1+(1+(1+(1+((y.f6.size+1)+(y.f7.size+1))))))))+1
def good45 (y:S45):Prop:=(Lit.int .i64 y.f0).wf=true∧(Lit.int .i64 y.f1).wf=true
def bulk45 (y:S45):Nat:=(1+1)+1
end Go.Proofs.Ytgjibcfkjaedfaa.Pr

namespace Go.Proofs.Ytgjibcfkjaedfaa.Pr
open Go.RowKit Go.Proofs.YtgjibcfkjaedfaaW.PrintWords
theorem opn53:Open.Opn Try.prog 53 k53 good53 bulk53 :=
 Open.opn_struct Try.underlying53 (by kernel_rfl) (Open.opnF_cons rfl (Open.opn_int Try.underlying3 (by kernel_rfl)) (Open.opnF_cons rfl (Open.opn_int Try.underlying3 (by kernel_rfl)) (Open.opnF_cons rfl (Open.opn_int Try.underlying3 (by kernel_rfl)) (Open.opnF_cons rfl (Open.opn_int Try.underlying3 (by kernel_rfl)) (Open.opnF_cons rfl (Open.opn_int Try.underlying3 (by kernel_rfl)) (Open.opnF_cons rfl (Open.opn_int Try.underlying3 (by kernel_rfl)) (Open.opnF_cons rfl (Open.opn_string Try.underlying9 (by kernel_rfl)) (Open.opnF_last rfl (Open.opn_string Try.underlying9 (by kernel_rfl)))))))))) (fun x:S53=>(x.f0,x.f1,x.f2,x.f3,x.f4,x.f5,x.f6,x.f7)) (fun p=>⟨p.1,p.2.1,p.2.2.1,p.2.2.2.1,p.2.2.2.2.1,p.2.2.2.2.2.1,p.2.2.2.2.2.2.1,p.2.2.2.2.2.2.2⟩) (fun _=>rfl)
theorem opn45:Open.Opn Try.prog 45 k45 good45 bulk45 :=
 Open.opn_struct Try.underlying45 (by kernel_rfl) (Open.opnF_cons rfl (Open.opn_int Try.underlying3 (by kernel_rfl)) (Open.opnF_last rfl (Open.opn_int Try.underlying3 (by kernel_rfl)))) (fun x:S45=>(x.f0,x.f1)) (fun p=>⟨p.1,p.2⟩) (fun _=>rfl)
end Go.Proofs.Ytgjibcfkjaedfaa.Pr

namespace Go.Proofs.Ytgjibcfkjaedfaa.Pr
open Go.RowKit Go.Proofs.YtgjibcfkjaedfaaW.PrintWords Go.Proofs.YtgjibcfkjaedfaaW.PrintLast
set_option linter.unusedVariables false in
def latticelaw20_ShipOne.Stated:Prop:=∀ (a0:List (S53)) (a1:List (S45)),((a0.length≤maxLen∧a0.length*80≤140737488351232∧∀ e ∈ a0,good53 e))→((a1.length≤maxLen∧a1.length*16≤140737488351232∧∀ e ∈ a1,good45 e))→latticelaw20_ShipOne.f a0 a1=some true
end Go.Proofs.Ytgjibcfkjaedfaa.Pr

namespace Go.Proofs.Ytgjibcfkjaedfaa.Pure
open Go.RowKit Go.Proofs.Ytgjibcfkjaedfaa.Pr Go.Proofs.YtgjibcfkjaedfaaW.PrintWords Go.Proofs.YtgjibcfkjaedfaaW.PrintLast
theorem ShipOne:latticelaw20_ShipOne.Stated:=by
 intro a0 a1 h0 h1
 unfold latticelaw20_ShipOne.f
 rw [if_pos]
 refine ⟨?_,by have:=h1.2.1;omega⟩
 intro x hx
 obtain ⟨_,_,_,_,_,_,_,hv⟩:=h0.2.2 x hx
 exact hv
end Go.Proofs.Ytgjibcfkjaedfaa.Pure

/- The law ShipOne returns true at every input, and each argument reads afterwards as it read before: ONE LOG COMES OUT: a log that takes only what another one sent, in any order, however often, is always a beginning of it; and where each record came in turn it is all of it.
   Conditions: none but those that the row itself prints. Written by a program of this session over the kit's printer. -/
namespace Go.Proofs.Ytgjibcfkjaedfaa.shipOne
open Go.ChangeShapes Go.WideShapes Go.ChangeAt Go.RowKit
open Go.ChangeMaps (open_string shut_string)
set_option linter.unusedVariables false
theorem own:ownKnob Try.prog.godebug=none:=by kernel_rfl
theorem laidOut:laidOutB Try.prog=true:=by kernel_rfl
set_option maxRecDepth 100000 in
theorem lifted (os:Os) (started:os.Started) (H:Type) (enc:TypeId×Value→H) :
  ReturnsInHanded {} Try.checked os 4 .any (Rows.shipOneSpec.pre6 enc Try.prog Try.f4 Rows.shipOneRow.domain false) (Rows.shipOneSpec.post enc Try.prog Try.f4 false true false false):=by
 refine returnsInHanded_of_change_sized (C:=Try.checked) own started (by kernel_rfl) Try.func4
  (ChangeSpec.witness6 (enc:=enc) (C:=Try.checked) false ⟨#[],#[.slice none 0 0,.slice none 0 0],[]⟩ 8 (by kernel_rfl) (by kernel_rfl) (by kernel_rfl) (by kernel_rfl)) ?_
 intro W base args ds gs before hval0 hW hcnd hsz0 _
 have hsz:(DataW.weightsEach Try.prog (Try.f4.params.toList++Rows.shipOneSpec.plain.varTypes Try.prog) (ds++gs)).all (·≤reachBytes)=true:=hsz0
 have hval:∀ (j:Nat) t v,Try.f4.params[j]?=some t→args[j]?=some v→Value.okWide Try.prog W .any base t v:=hval0
 have hW':=hW
 obtain ⟨p,q,hA0,hV,rfl,hfz,hnd⟩:=hW
 have hA:DataW.TrodAll enc Try.prog W 0 (fun _=>true) true Try.f4.params.toList args.toList ds p:=hA0
 rw [Try.params4] at hA hval hsz
 obtain ⟨v0,vs0,d0,ds0,p0,q0,hargs,rfl,rfl,h0,r0⟩:=trodAll_cons hA
 obtain ⟨v1,vs1,d1,ds1,p1,q1,rfl,rfl,rfl,h1,r1⟩:=trodAll_cons r0
 obtain ⟨rfl,rfl,rfl⟩:=trodAll_nil r1
 obtain rfl:args=#[v0,v1]:=by cases args;simp_all
 obtain ⟨rfl,rfl⟩:=trodVars_none hV
 have k0:=h0
 have lt0:∀ x ∈ p0,x.block < W.heap.size:=by obtain ⟨m,hm⟩:=k0;exact DataW.trod_lt m _ _ _ hm
 obtain ⟨n0,hf0⟩:=h0
 obtain ⟨y0,K0,g0,m0⟩:=(Open.opn_slice (B:=80) Try.underlying22 (by kernel_rfl) (by kernel_rfl) Pr.opn53).out H enc W n0 _ _ hf0 (Open.weights_at hsz (j:=0) (t:=22) rfl rfl)
 obtain ⟨a0,len0,cap0,rfl⟩:=okWide_slice Try.underlying22 (hval 0 22 v0 rfl rfl)
 obtain ⟨A0,c0,e0,hc0,hr0⟩:=K0
 simp only [Value.cells,List.cons.injEq,Value.slice.injEq,and_true] at e0
 obtain ⟨rfl,rfl,rfl⟩:=e0
 have k1:=h1
 have lt1:∀ x ∈ p1,x.block < W.heap.size:=by obtain ⟨m,hm⟩:=k1;exact DataW.trod_lt m _ _ _ hm
 obtain ⟨n1,hf1⟩:=h1
 obtain ⟨y1,K1,g1,m1⟩:=(Open.opn_slice (B:=16) Try.underlying40 (by kernel_rfl) (by kernel_rfl) Pr.opn45).out H enc W n1 _ _ hf1 (Open.weights_at hsz (j:=1) (t:=40) rfl rfl)
 obtain ⟨a1,len1,cap1,rfl⟩:=okWide_slice Try.underlying40 (hval 1 40 v1 rfl rfl)
 obtain ⟨A1,c1,e1,hc1,hr1⟩:=K1
 simp only [Value.cells,List.cons.injEq,Value.slice.injEq,and_true] at e1
 obtain ⟨rfl,rfl,rfl⟩:=e1
 clear hA0 hval0 hsz0 hsz
 have hk:=Pure.ShipOne y0 y1 g0 g1
 refine (Pr.latticelaw20_ShipOne.calls _ _ y0 _ _ y1 true W hr0 hc0 hr1 hc1 hk).mono fun e W' ⟨he,bel0⟩=>?_
 have bel:Below W.heap.size W W':=bel0
 subst he
 exact ⟨_,rfl,_,_,_,[],_,[],hW',trodAll_mk1 (shut_bool Try.underlying4 _),(trodAll_cons_mk (Below.trod laidOut (by kernel_rfl) (of_decide_eq_true (by kernel_rfl)) k0 bel lt0) (trodAll_cons_mk (Below.trod laidOut (by kernel_rfl) (of_decide_eq_true (by kernel_rfl)) k1 bel lt1) trodAll_mk0)),rfl,bel.frame _,fun h=>by cases h⟩
theorem over:Rows.shipOneRow.holds Try.pinned (OpenSpec.ofChange Rows.shipOneSpec) :=
 OpenClaim.holds_of_wide 4 Try.f4 rfl rfl rfl rfl rfl rfl rfl ⟨rfl,rfl,rfl,rfl,rfl⟩ rfl rfl rfl rfl rfl (by kernel_rfl) Try.func4 (by kernel_rfl)
  (of_decide_eq_true (by kernel_rfl)) (by unfold Func.isWrapper;first|(rw [if_pos (by decide +kernel)];kernel_rfl)|(rw [if_neg (by decide +kernel)];exact ⟨rfl,rfl⟩))
  (fun os started H enc _=>lifted os started H enc)
theorem proved:Rows.ShipOneSaid:=over
#print axioms proved
end Go.Proofs.Ytgjibcfkjaedfaa.shipOne
namespace Go.Proofs.Ytgjibcfkjaedfaa
theorem shipOne_holds:Rows.ShipOneSaid:=shipOne.proved
end Go.Proofs.Ytgjibcfkjaedfaa
