-- Parts melded by a program of this session.
import Derived.Below
import Derived.Deep.Draws
import Derived.Deep.AppendLies
import Derived.Maps.AppendAt
import Derived.OwnWalk
import Derived.Laws.BytesArg
import Derived.Laws.MakeOwn
import Derived.Laws.OwnMore
import Derived.Deep.OwnRows
import Derived.Tactics
import Derived.Lib.ConvBytes
import Derived.Laws.Slices
import Derived.WalkKit
import Derived.KernelRfl
import Derived.RowKit3
import Derived.Deep.LoopGhost
import Derived.Deep.QuietTactic
import Derived.BigQuiet
import Derived.WideLaws
import Derived.Deep.DeepCutAuto
import Derived.Deep.CutBlock
import Derived.Deep.RegionHeld3
import Derived.Laws.Rows
import Derived.Lib.AppendStr
import Derived.ArgAppend
import Derived.Laws.IdiomCopy
import Derived.RowKit
import Derived.Test.YtgjibcfkjaedfaaTSTHWWords
import Derived.OrdersHeld
import Derived.Laws.BitsLemmas
import Derived.Test.YtgjibcfkjaedfaaTSTHWRest
import Derived.Laws.StructEq
import Derived.Test.YtgjibcfkjaedfaaProg
import Derived.Shelf.Abstract
import Derived.Test.YtgjibcfkjaedfaaTSTHPrx0
import Derived.Test.YtgjibcfkjaedfaaTSWalS
import Derived.OneCell
import Derived.Lib.SliceRun
import Derived.Test.YtgjibcfkjaedfaaTSTHWire
import Derived.RangeFuncBox
import Derived.RangeFuncLeaves
import Derived.OwnWalkIn
import Derived.TacticsInMore
import Derived.LoopNIn
import Derived.LoopIn
import Derived.Lib.Hide
import Derived.Test.YtgjibcfkjaedfaaTSTHBack
import Derived.Outline
import Derived.Test.YtgjibcfkjaedfaaTSTHRead
import Derived.Test.YtgjibcfkjaedfaaTSTHNdFrom
import Derived.Laws.BitsAllLaws
import Derived.Test.YtgjibcfkjaedfaaTSTHCrc
import Derived.Test.YtgjibcfkjaedfaaTSTHPrx3
import Derived.Test.YtgjibcfkjaedfaaTSTHPrx4
import Derived.Test.YtgjibcfkjaedfaaTSTHPrx5
import Derived.Test.YtgjibcfkjaedfaaTSTHPrx1
import Derived.Test.YtgjibcfkjaedfaaTSTHRefW
import Derived.Test.YtgjibcfkjaedfaaTSTHPrxS
import Derived.Test.YtgjibcfkjaedfaaTSTHPrx15
import Derived.Test.YtgjibcfkjaedfaaTSTHPrx16
import Derived.Test.YtgjibcfkjaedfaaTSTHPureNode
import Derived.Deep.RegionLaw
import Derived.Laws.CopyOwn
import Derived.Test.YtgjibcfkjaedfaaTSTHPageEnc
import Derived.Test.YtgjibcfkjaedfaaTSTHPageFit
import Derived.Test.YtgjibcfkjaedfaaTSTHPageRd
import Derived.Test.YtgjibcfkjaedfaaTSTHPageNode
import Derived.Test.YtgjibcfkjaedfaaTSTHPageDec
import Derived.Test.YtgjibcfkjaedfaaTSTHCrcR
import Derived.Test.YtgjibcfkjaedfaaTSTHPageRt
import Derived.Test.YtgjibcfkjaedfaaTSTHPrx17
import Derived.Test.YtgjibcfkjaedfaaTSTHPagePure
import Derived.Test.YtgjibcfkjaedfaaTSTHRefRd
import Derived.Test.YtgjibcfkjaedfaaTSTHPageRef
import Derived.Test.YtgjibcfkjaedfaaTSTHRecIR
import Derived.Lib.SlBytesConst
import Derived.StillTailTactics
import Derived.Test.YtgjibcfkjaedfaaTSTHRecV
import Derived.Test.YtgjibcfkjaedfaaTSTHRecChkP
import Derived.Test.YtgjibcfkjaedfaaTSTHRecChkA
import Derived.Test.YtgjibcfkjaedfaaTSTHRecChkB
import Derived.Test.YtgjibcfkjaedfaaTSTHRecChkE
import Derived.Test.YtgjibcfkjaedfaaTSTHRecChk
import Derived.Test.YtgjibcfkjaedfaaTSTHRecEnc
import Derived.Test.YtgjibcfkjaedfaaTSTHRecRead
import Derived.Test.YtgjibcfkjaedfaaTSTHRecRight
import Derived.Test.YtgjibcfkjaedfaaTSTHRecLaw
import Derived.Test.YtgjibcfkjaedfaaTSTHRecK
import Derived.Test.YtgjibcfkjaedfaaTSTHRecEncs
import Derived.Test.YtgjibcfkjaedfaaTSWalA
import Derived.Test.YtgjibcfkjaedfaaTSWalApp
import Derived.Test.YtgjibcfkjaedfaaTSRefA
import Derived.WalkMore
import Derived.Test.YtgjibcfkjaedfaaTSShA
import Derived.Test.YtgjibcfkjaedfaaTSShB
import Derived.Test.YtgjibcfkjaedfaaTSShC
import Derived.Test.YtgjibcfkjaedfaaRows
import Derived.OpenShut
import Derived.SizedLaws
import Derived.ChangeArms
import Derived.ChangeOld
import Derived.DataReads
import Derived.ProofKit
import Derived.ShutString
import Derived.Carry
set_option linter.unusedVariables false
set_option linter.unusedSimpArgs false
namespace Go.Proofs.YtgjibcfkjaedfaaW.PrintWords
open Go.RowKit
theorem LeO.ite {α:Type} {c:Prop} [Decidable c] {a a' b b':Option α} (h:LeO a a') (k:LeO b b'):LeO (if c then a else b) (if c then a' else b'):=by
  split
  · exact h
  · exact k
section
variable {P:Program} {ops:Array Oper} {rest:List Oper} {o:Oper} {a:Act} {Q:Exit→Act→World→Prop}
end
section
variable {P:Program} {ops:Array Oper} {o:Oper} {a:Act} {Q:Exit→Act→World→Prop} {K:Act→World→Prop}
end
section
variable {α:Type} {enc:α→Value} {d:α}
end
section
variable {α:Type} {P:Program} {ops:Array Oper} {rest:List Oper} {o:Oper} {a:Act} {Q:Exit→Act→World→Prop}
end
section
variable {P:Program}
end
section
variable {α:Type} {R R':α→List Value→Prop} {e:TypeId} {size:Nat} {w w1:World} {base:Nat} {v:Value} {ps:List α}
theorem OwnRow.keep (h:OwnRow R e size w base v ps) {g:Nat} {t:TypeId} {cells:Array Value} (hb:w.heap[g]?=some (.cells cells t (0,0))) (ht:e≠t) (hk:KeepBut w w1 g none):OwnRow R e size w1 base v ps:=by
  obtain ⟨inner,ho,hr⟩:=h
  exact ⟨inner,hk.own ho (Ne.symm (own_ne ho hb ht)) (by cases v.ownBlock <;> simp),hr⟩
end
section
variable {P:Program} {ops:Array Oper} {rest:List Oper} {o:Oper} {a:Act} {Q:Exit→Act→World→Prop} {α:Type} {R:α→List Value→Prop}
end
namespace Kd
section
variable {α:Type} {d:Kd α} {e:Nat} {w w1:World} {base:Nat} {ok ok':Nat→Prop} {v:Value} {xs:List α}
end
section
variable {P:Program} {ops:Array Oper} {rest:List Oper} {o:Oper} {a:Act} {Q:Exit→Act→World→Prop} {α:Type}
end
section
variable {P:Program} {ops:Array Oper} {o:Oper} {a:Act} {Q:Exit→Act→World→Prop} {Kc:Act→World→Prop} {α:Type}
end
end Kd
namespace Kd
end Kd
namespace Kd
section
variable {α β:Type} {d:Kd α} {d':Kd β} {e e':Nat} {w w1 W:World} {base b b':Nat} {ok ok' okv oku:Nat→Prop} {v u:Value} {xs:List α} {ys:List β}
theorem R_over (h:d.R e W b ok u xs) (hv:d'.R e' W b' ok' v ys) (ht:∀ q,q ∈ e::d.E→q≠e') (hg:W.grownBy w1 v.ownBlock):d.R e w1 b ok u xs:=by
  obtain ⟨inner,ho⟩:=R_own hv
  refine R_mono (R_move (R_bound h) (fun k hk=>hg.block k hk.2.2.1 (fun he=>?_))) (fun _ hk=>hk.1)
  obtain ⟨_,_,_,q,hq,cells,hc⟩:=hk
  obtain ⟨cells',hc'⟩:=own_typed ho k he.symm
  rw [hc] at hc'
  injection hc' with hc'
  injection hc' with _ hc'
  exact ht q hq hc'
end
section
variable {w W:World} {A:Option Addr} {n:Nat}
end
section
variable {P:Program} {ops:Array Oper} {rest:List Oper} {o:Oper} {a:Act} {Q:Exit→Act→World→Prop}
end
end Kd
section
variable {P:Program}
end
section
variable {w w1:World} {base n size:Nat} {e:TypeId} {v:Value} {xs:List Value}
end
namespace Kd
section
variable {α:Type} {d:Kd α} {e:Nat} {w w1 W:World} {base:Nat} {ok ok':Nat→Prop} {v:Value} {xs:List α}
end
end Kd
namespace Kd
section
variable {α:Type} {d:Kd α} {e e':Nat} {w w1 W:World} {base:Nat} {ok:Nat→Prop} {u v:Value} {xs:List α}
end
end Kd
namespace Kd
section
variable {P:Program} {ops:Array Oper} {rest:List Oper} {o:Oper} {a:Act} {Q:Exit→Act→World→Prop} {α:Type}
end
end Kd
namespace Kd
section
variable {α:Type} {k:Kd α} {w:World} {A:Option Addr} {xs:List α} {m c:Nat}
end
end Kd
section
variable {P:Program}
end
theorem keep_cell {w W:World} {g:Nat} (h:KeepBut w W g none) {a:Addr} {v:Value} (hc:w.cell? a=some v) (hne:a.block≠g):W.cell? a=some v:=by
  have:=h.2 a.block (World.block_lt_of_cell? w a hc) hne (by simp)
  simpa [World.cell?,this] using hc
theorem ReadsInt.keep {w W:World} {k:IntKind} {A:Option Addr} {n g:Nat} {xs:List Int} (h:ReadsInt w k A n xs) (hk:KeepBut w W g none) (hf:∀ ad,A=some ad→0 < n→ad.block≠g):ReadsInt W k A n xs :=
  ⟨h.1,h.2.1,fun hn=>by
    obtain ⟨ad,e,hc⟩:=h.2.2 hn
    exact ⟨ad,e,fun j hj=>keep_cell hk (hc j hj) (by rw [add_block];exact hf ad e hn)⟩⟩
theorem ReadsOf.keep {α:Type} {enc:α→Value} {d:α} {w W:World} {A:Option Addr} {n g:Nat} {xs:List α} (h:ReadsOf enc d w A n xs) (hk:KeepBut w W g none) (hf:∀ ad,A=some ad→0 < n→ad.block≠g):ReadsOf enc d W A n xs :=
  ⟨h.1,h.2.1,fun hn=>by
    obtain ⟨ad,e,hc⟩:=h.2.2 hn
    exact ⟨ad,e,fun j hj=>keep_cell hk (hc j hj) (by rw [add_block];exact hf ad e hn)⟩⟩
section
variable {P:Program} {ops:Array Oper} {rest:List Oper} {o:Oper} {a:Act} {Q:Exit→Act→World→Prop}
end
section
variable {P:Program} {ops:Array Oper} {rest:List Oper} {o:Oper} {a:Act} {Q:Exit→Act→World→Prop} {W:World}
end
end Go.Proofs.YtgjibcfkjaedfaaW.PrintWords

namespace Go.Proofs.YtgjibcfkjaedfaaW.PrintWords
open Go.RowKit
section
variable {w W W2:World} {S S2 S':Nat→Prop}
theorem Kept.keep {g:Nat} (h:KeepBut w W g none) (k:Kept W W2 S2) (hs:∀ k,S2 k→w.heap.size≤k):KeepBut w W2 g none :=
 ⟨Nat.le_trans h.1 k.1,fun i hi hg hr=>(k.2 i (Nat.lt_of_lt_of_le hi h.1) (fun h2=>by have:=hs i h2;omega)).trans (h.2 i hi hg hr)⟩
end
end Go.Proofs.YtgjibcfkjaedfaaW.PrintWords

namespace Go.Proofs.YtgjibcfkjaedfaaW.PrintWords
open Go.RowKit
namespace Foot
variable {P Q:World→Prop} {W W1:World} {ok ok':Nat→Prop}
theorem bound (h:Foot P W ok):Foot P W (fun k=>ok k∧k < W.heap.size):=fun W' hW=>h W' (fun k hk hlt=>hW k ⟨hk,hlt⟩ hlt)
end Foot
namespace Kd
section
variable {α β:Type} {d:Kd α} {e base n n' cc g N:Nat} {ok ok' okp S:Nat→Prop} {w w0 w1 W W1:World} {A A':Option Addr} {u v v1:Value} {xs:List α} {xs':List β} {d':Kd β} {x:α} {c:List Value}
end
end Kd
end Go.Proofs.YtgjibcfkjaedfaaW.PrintWords

namespace Go.Proofs.Ytgjibcfkjaedfaa.Rec
open Go.RowKit Go.Proofs.YtgjibcfkjaedfaaW.PrintWords Go.Proofs.YtgjibcfkjaedfaaW.PrintLast Go.Proofs.YtgjibcfkjaedfaaW.PrintMore Go.Proofs.Ytgjibcfkjaedfaa.Wire Go.Proofs.Ytgjibcfkjaedfaa.Crc Go.Proofs.Ytgjibcfkjaedfaa.Pr Go.Proofs.Ytgjibcfkjaedfaa.Page
open Go.Proofs.Ytgjibcfkjaedfaa.Back (AllB)
open Go.Proofs.Ytgjibcfkjaedfaa.Pure
set_option linter.unusedVariables false
set_option linter.unusedSimpArgs false
theorem byt_E (q:Nat) (hq:q ∈ 5::(Kd.int .u8).E):q=5:=by
 simpa [Kd.int,Kd.scalar] using hq
theorem RRec.over {w w1:World} {b b':Nat} {u v:Value} {xs:List RecS} {ys:List Int} (h:RRec w b u xs) (hv:RByt w b' v ys) (hg:w.grownBy w1 v.ownBlock):RRec w1 b u xs :=
 Kd.R_over h hv (fun q hq=>by rw [rec_E q hq];decide) hg
theorem RByt.over {w w1:World} {b b':Nat} {u v:Value} {xs:List RecS} {ys:List Int} (h:RByt w b v ys) (hv:RRec w b' u xs) (hg:w.grownBy w1 u.ownBlock):RByt w1 b v ys :=
 Kd.R_over h hv (fun q hq=>by rw [byt_E q hq];decide) hg
end Go.Proofs.Ytgjibcfkjaedfaa.Rec

namespace Go.Proofs.Ytgjibcfkjaedfaa.Wal
open Go.RowKit Go.Proofs.YtgjibcfkjaedfaaW.PrintWords Go.Proofs.YtgjibcfkjaedfaaW.PrintLast Go.Proofs.YtgjibcfkjaedfaaW.PrintMore Go.Proofs.Ytgjibcfkjaedfaa.Wire Go.Proofs.Ytgjibcfkjaedfaa.Pr Go.Proofs.Ytgjibcfkjaedfaa.Rec
open Go.Proofs.Ytgjibcfkjaedfaa.Back (AllB)
set_option linter.unusedVariables false
set_option linter.unusedSimpArgs false
abbrev r2S:RecS:=⟨2,3,1,0,0,0,⟨#[]⟩,⟨#[]⟩⟩
theorem len2:(frameB (toV r2S)).length=43:=by
 rw [frame_length,body_length]
 rfl
end Go.Proofs.Ytgjibcfkjaedfaa.Wal

namespace Go.Proofs.Ytgjibcfkjaedfaa.Wal
open Go.RowKit Go.Proofs.YtgjibcfkjaedfaaW.PrintWords Go.Proofs.YtgjibcfkjaedfaaW.PrintLast Go.Proofs.YtgjibcfkjaedfaaW.PrintMore Go.Proofs.Ytgjibcfkjaedfaa.Wire Go.Proofs.Ytgjibcfkjaedfaa.Pr Go.Proofs.Ytgjibcfkjaedfaa.Rec
set_option linter.unusedVariables false
set_option linter.unusedSimpArgs false
theorem neMk (W:World) (a b a' b':Int):(binOp .neq 24 (.agg #[.int .i64 a,.int .i64 b]) (.agg #[.int .i64 a',.int .i64 b'])).run Try.prog W=.ok (.bool (!(a==a'&&b==b'))) W:=by
 rw [run_neq_struct,eqA_of (d:=9999) (r:=(a==a'&&b==b')) Try.underlying24 (by kernel_rfl)]
 ·rfl
 ·exact eqf_cons (a:=.int .i64 a) (b:=.int .i64 a') (by decide) (by kernel_rfl) (by kernel_rfl) (by kernel_rfl) (eqf_last (a:=.int .i64 b) (b:=.int .i64 b') (by decide) (by kernel_rfl) (by kernel_rfl) (by kernel_rfl))
structure Sq (w W:World) (ok ok':Nat→Prop) (g g' sg tg:Nat) (l:List RecS) (nx mt nx' mt':Int):Prop where
 lg:LogAt 98 W ok g l 0
 lr:LogAt 37 W ok' g' l 0
 s:SnAt 101 W sg nx mt
 t:SnAt 63 W tg nx' mt'
 f1:∀ k,ok k→k≠sg∧k≠tg
 f2:∀ k,ok' k→k≠sg∧k≠tg
 bs:w.heap.size≤sg
 bt:w.heap.size≤tg
 bw:Below w.heap.size w W
section
variable {w W W1:World} {ok ok':Nat→Prop} {g g' sg tg b:Nat} {l:List RecS} {nx mt nx' mt' x y kd n:Int} {T:Nat}
theorem SnAt.ne {T T2:Nat} {g2:Nat} (h:SnAt T W g nx mt) (h2:SnAt T2 W g2 x y) (hT:T≠T2):g≠g2:=by
 rintro rfl
 have e:W.heap[g]?=some _:=h
 have e2:W.heap[g]?=some _:=h2
 rw [e] at e2
 injection e2 with e2
 injection e2 with _ e3
 exact hT e3
theorem Sq.below (h:Sq w W ok ok' g g' sg tg l nx mt nx' mt') (hB:Below W.heap.size W W1):Sq w W1 ok ok' g g' sg tg l nx mt nx' mt' :=
 ⟨h.lg.below hB,h.lr.below hB,h.s.below hB,h.t.below hB,h.f1,h.f2,h.bs,h.bt,below_from2 h.bw (Nat.le_refl _) hB⟩
theorem Sq.ne (h:Sq w W ok ok' g g' sg tg l nx mt nx' mt'):sg≠tg:=h.s.ne h.t (by decide)
theorem Sq.onS (h:Sq w W ok ok' g g' sg tg l nx mt nx' mt') (hS:SnAt 101 W1 sg x y) (hC:Chg W W1 (fun k=>k=sg)):Sq w W1 ok ok' g g' sg tg l x y nx' mt' :=
 ⟨h.lg.chg hC (fun k hk _ e=>(h.f1 k hk).1 e),h.lr.chg hC (fun k hk _ e=>(h.f2 k hk).1 e),hS,h.t.chg hC (fun e=>h.ne e.symm),h.f1,h.f2,h.bs,h.bt,h.bw.trans (hC.below h.bw.size (fun k hk=>by rw [hk];exact h.bs))⟩
theorem Sq.onT (h:Sq w W ok ok' g g' sg tg l nx mt nx' mt') (hT:SnAt 63 W1 tg x y) (hC:Chg W W1 (fun k=>k=tg)):Sq w W1 ok ok' g g' sg tg l nx mt x y :=
 ⟨h.lg.chg hC (fun k hk _ e=>(h.f1 k hk).2 e),h.lr.chg hC (fun k hk _ e=>(h.f2 k hk).2 e),h.s.chg hC (fun e=>h.ne e),hT,h.f1,h.f2,h.bs,h.bt,h.bw.trans (hC.below h.bw.size (fun k hk=>by rw [hk];exact h.bt))⟩
theorem SnAt.num (h:SnAt T W b kd n):W.cell? ⟨b,1,none⟩=some (.int .i64 n):=h.cells.2.1
end
def SnIn (w:World) (m:Nat) (ok ok':Nat→Prop) (g g' sg tg:Nat) (l:List RecS) (v51:Value) (wr:World):Prop :=
 ∃ (k:Nat) (nx mt:Int),k≤m∧v51=.int .i64 k∧Aside0 (Sq w wr ok ok' g g' sg tg l nx mt nx mt)∧Aside0 (SnOk nx mt)
def SnOut (w:World) (ok ok':Nat→Prop) (g g' sg tg:Nat) (l:List RecS) (wx:World):Prop :=
 ∃ (nx mt:Int),Aside0 (Sq w wx ok ok' g g' sg tg l nx mt nx mt)∧Aside0 (SnOk nx mt)
set_option maxHeartbeats 16000000 in
set_option maxRecDepth 100000 in
theorem shipSends_ok (A0:Option Addr) (c0:Nat) (rs:List RecS) (nx0:Int) (A1:Option Addr) (c1:Nat) (xs:List S59) (w:World) (hr0:Kd.C kRec w A0 rs.length rs) (hv0:∀ x ∈ rs,x.f7.size≤140737488351232) (hr1:Kd.C k59 w A1 xs.length xs) :
  Calls Try.prog 6 #[.slice A0 rs.length c0,.int .i64 nx0,.slice A1 xs.length c1] w fun e w'=>e=.returned (.bool true)∧Below w.heap.size w w':=by
 have hbo:=both_ok A0 c0 rs w hr0 hv0
 have HX:=Aside0.mk hr1
 have HLO:=Aside0.mk (logF_ok rs)
 have hna:xs.length≤9223372036854775807:=hr1.2.1
 generalize logF rs=l0 at hbo HLO
 clear hr0 hv0 hr1
 by_cases hnx:nx0 < 1∨1099511627776 < nx0
 ·have HNX:=Aside0.mk hnx
  clear hnx
  go_enter Try.func6,Try.ntmps6
  go_wp2_with (first
   | (go_at_call 14;(with_reducible refine hbo.mono ?_);rintro e w1 ⟨g,g',rfl,hT,hB⟩;(have HB:=Aside0.mk hB);clear hB hbo hT)
   | (go_at_call 22;(with_reducible refine (snew_no nx0 HNX.out _).mono ?_);rintro e w2 ⟨rfl,hB⟩;(replace HB:=Aside0.mk (below_from2 HB.out (Nat.le_refl _) hB));clear hB)
   | (go_at_call 24;(with_reducible refine (tnew_no nx0 HNX.out _).mono ?_);rintro e w3 ⟨rfl,hB⟩;(replace HB:=Aside0.mk (below_from2 HB.out (Nat.le_refl _) hB));clear hB)
   | (go_at_call 19;(with_reducible refine (speaks20_ok _).mono ?_);rintro e w7 ⟨rfl,hB⟩;(replace HB:=Aside0.mk (below_from2 HB.out (Nat.le_refl _) hB));clear hB))
  go_ret
  exact ⟨rfl,HB.out⟩
 ·have h1:1≤nx0:=by omega
  have h2:nx0≤1099511627776:=by omega
  have HNX:=Aside0.mk (show 1≤nx0∧nx0≤1099511627776 from ⟨h1,h2⟩)
  clear hnx h1 h2
  go_enter Try.func6,Try.ntmps6
  go_wp2_with (first
   | (go_at_call 14;(with_reducible refine hbo.mono ?_);rintro e w1 ⟨g,g',rfl,hT,hB⟩;(have HB:=Aside0.mk hB);(have HT:=Aside0.mk hT);clear hB hbo hT)
   | (go_at_call 22;(with_reducible refine (snew_ok nx0 HNX.out.1 HNX.out.2 _).mono ?_);rintro e w2 ⟨rfl,hS,hB⟩;(have HB2:=Aside0.mk hB);(have HS:=Aside0.mk hS);clear hB hS)
   | (go_at_call 24;(with_reducible refine (tnew_ok nx0 HNX.out.1 HNX.out.2 _).mono ?_);rintro e w3 ⟨rfl,hT2,hB⟩;(have HB3:=Aside0.mk hB);(have HT2:=Aside0.mk hT2);clear hB hT2))
  have hsq:∃ ok ok':Nat→Prop,Sq w w3 ok ok' g g' w1.heap.size w2.heap.size l0 nx0 0 nx0 0:=by
   obtain ⟨ok,ok',q1,q2,q3,q4,q5⟩:=HT.out
   have hs1:=HS.out.lt
   refine ⟨_,_,(q1.bound.below HB2.out).below HB3.out,(q2.bound.below HB2.out).below HB3.out,HS.out.below HB3.out,HT2.out,fun k hk=>?_,fun k hk=>?_,HB.out.size,Nat.le_trans HB.out.size HB2.out.size,below_from2 (below_from2 HB.out (Nat.le_refl _) HB2.out) (Nat.le_refl _) HB3.out⟩
   ·have:=hk.2
    have:=HB2.out.size
    exact ⟨by omega,by omega⟩
   ·have:=hk.2
    have:=HB2.out.size
    exact ⟨by omega,by omega⟩
  obtain ⟨ok,ok',hsq⟩:=hsq
  have HQ:=Aside0.mk hsq
  have HSO:=Aside0.mk (show SnOk nx0 0 from ⟨by omega,by have:=HNX.out;omega,HNX.out.2⟩)
  clear hsq HB HT HB2 HS HB3 HT2 HNX
  generalize w1.heap.size=sg at HQ ⊢
  generalize w2.heap.size=tg at HQ ⊢
  go_loopw [51] (fun v51 wr=>SnIn w xs.length ok ok' g g' sg tg l0 v51 wr) (fun v51 _=>xs.length - (intOf v51).toNat)
  case atStart=>exact ⟨0,nx0,0,by omega,rfl,HQ,HSO⟩
  case round =>
   clear HQ HSO
   obtain ⟨k,nx,mt,hk,rfl,HQ,HSO⟩:=hrel
   by_cases hlt:k < xs.length
   ·have hltI:(k:Int) < (xs.length:Int):=by omega
    have hk0:(0:Int)≤(k:Int):=by omega
    obtain ⟨ad,rfl,hx0,hx1⟩:=at_T59 (Kd.C_below HX.out HQ.out.bw) (k:Int) hk0 hltI
    rw [Int.toNat_natCast] at hx0 hx1
    generalize rd_T59 xs (k:Int)=x at hx0 hx1
    obtain ⟨kd,n⟩:=x
    dsimp only at hx0 hx1
    have HBX:Aside0 (SnAt 59 (wr.alloc (.cells #[.int .i64 kd,.int .i64 n] 59)) wr.heap.size kd n):=⟨blk_newN _ _⟩
    have HQB:=Aside0.mk (HQ.out.below (below_alloc (Below.refl wr.heap.size wr) (.cells #[.int .i64 kd,.int .i64 n] 59)))
    have HLS:=Aside0.mk HQ.out.s.lt
    have HLT:=Aside0.mk HQ.out.t.lt
    obtain ⟨b0,b1,_,_⟩:=HBX.out.cells
    clear HQ
    go_upto_block 2 with (fail)
    go_cut [] (fun wx=>SnOut w ok ok' g g' sg tg l0 wx)
    case first =>
     have hkd:((kd==0)=true)∨((kd==0)=false∧(kd==1)=true)∨((kd==0)=false∧(kd==1)=false):=by
      rcases (kd==0) <;> rcases (kd==1) <;> simp
     rcases hkd with d0|⟨d0,d1⟩|⟨d0,d1⟩
     ·obtain ⟨⟨nx1,mt1,q1⟩,hP⟩:∃ P,ackS nx mt n=P:=⟨_,rfl⟩
      have HA1:=Aside0.mk (fun (W:World) (h:SnAt 101 W sg nx mt)=>sack_ok h HSO.out n)
      have HA2:=Aside0.mk (fun (W:World) (h:SnAt 63 W tg nx mt)=>tack_ok h HSO.out n)
      have hso:=HSO.out.ack n
      rw [hP] at HA1 HA2 hso
      dsimp only at HA1 HA2 hso
      have HSO1:=Aside0.mk hso
      have e2:(q1 != q1)=false:=by simp
      clear hP hso
      go_upto_region 17 with (fail)
      have HBX0:=HBX
      replace HBX:=Aside0.mk (HBX.out.below (below_drew (Below.refl _ _)))
      replace HQB:=Aside0.mk (HQB.out.below (below_drew (Below.refl _ _)))
      go_region_held3 (fun W=>W.cell? ⟨wr.heap.size,1,none⟩=some (.int .i64 n))
       (first|(with_reducible exact HBX.out.num)|(with_reducible exact HBX0.out.num))
       (first
        | (go_at_call 25;(with_reducible refine (HA1.out _ HQB.out.s).mono ?_);rintro e w3 ⟨rfl,hS,hC⟩;(replace HBX:=Aside0.mk (HBX.out.chg hC (fun h=>by have:=HLS.out;omega)));(replace HQB:=Aside0.mk (HQB.out.onS hS hC));clear hS hC)
        | (go_at_call 26;(with_reducible refine (HA2.out _ HQB.out.t).mono ?_);rintro e w4 ⟨rfl,hS,hC⟩;(replace HBX:=Aside0.mk (HBX.out.chg hC (fun h=>by have:=HLT.out;omega)));(replace HQB:=Aside0.mk (HQB.out.onT hS hC));clear hS hC))
      all_goals
       go_wp2
       go_meet
       exact ⟨nx1,mt1,HQB,HSO1⟩
     ·obtain ⟨⟨nx1,mt1,q1⟩,hP⟩:∃ P,refS nx mt n=P:=⟨_,rfl⟩
      have HA1:=Aside0.mk (fun (W:World) (h:SnAt 101 W sg nx mt)=>srefu_ok h HSO.out n)
      have HA2:=Aside0.mk (fun (W:World) (h:SnAt 63 W tg nx mt)=>trefu_ok h HSO.out n)
      have hso:=HSO.out.ref n
      rw [hP] at HA1 HA2 hso
      dsimp only at HA1 HA2 hso
      have HSO1:=Aside0.mk hso
      have e2:(q1 != q1)=false:=by simp
      clear hP hso
      go_upto_region 20 with (fail)
      have HBX0:=HBX
      replace HBX:=Aside0.mk (HBX.out.below (below_drew (Below.refl _ _)))
      replace HQB:=Aside0.mk (HQB.out.below (below_drew (Below.refl _ _)))
      go_region_held3 (fun W=>W.cell? ⟨wr.heap.size,1,none⟩=some (.int .i64 n))
       (first|(with_reducible exact HBX.out.num)|(with_reducible exact HBX0.out.num))
       (first
        | (go_at_call 27;(with_reducible refine (HA1.out _ HQB.out.s).mono ?_);rintro e w3 ⟨rfl,hS,hC⟩;(replace HBX:=Aside0.mk (HBX.out.chg hC (fun h=>by have:=HLS.out;omega)));(replace HQB:=Aside0.mk (HQB.out.onS hS hC));clear hS hC)
        | (go_at_call 28;(with_reducible refine (HA2.out _ HQB.out.t).mono ?_);rintro e w4 ⟨rfl,hS,hC⟩;(replace HBX:=Aside0.mk (HBX.out.chg hC (fun h=>by have:=HLT.out;omega)));(replace HQB:=Aside0.mk (HQB.out.onT hS hC));clear hS hC))
      all_goals
       go_wp2
       go_meet
       exact ⟨nx1,mt1,HQB,HSO1⟩
     ·obtain ⟨⟨m1,m2⟩,hM⟩:∃ q,markF l0 (nx - 1)=q:=⟨_,rfl⟩
      obtain ⟨fs,hF⟩:∃ q,fromF l0 nx n=q:=⟨_,rfl⟩
      have hfl:=fromF_length l0 nx n
      have HA1:=Aside0.mk (fun (W:World) (h:Sq w W ok ok' g g' sg tg l0 nx mt nx mt)=>ssend_ok (most:=n) h.s HSO.out h.lg HLO.out.len)
      have HA2:=Aside0.mk (fun (W:World) (h:Sq w W ok ok' g g' sg tg l0 nx mt nx mt)=>tsend_ok (most:=n) h.t HSO.out h.lr HLO.out.len HLO.out.lsn)
      rw [hM,hF] at HA1 HA2
      rw [hF] at hfl
      have HFL:=Aside0.mk hfl
      have hne:∀ W:World,(binOp .neq 24 (.agg #[.int .i64 m1,.int .i64 m2]) (.agg #[.int .i64 m1,.int .i64 m2])).run Try.prog W=.ok (.bool false) W:=fun W=>by
       have h:=neMk W m1 m2 m1 m2
       rw [beq_self_eq_true,beq_self_eq_true] at h
       exact h
      dsimp only at HA1 HA2
      clear hM hF hfl
      go_wp2_with (first
       | (go_at_call 23;(with_reducible refine (HA1.out _ HQB.out).mono ?_);rintro e w3 ⟨A3,c3,rfl,hc3,hC3,hB⟩;clear b0 b1;(have hB2:=below_alloc hB (.cells #[.int .i64 m1,.int .i64 m2] 24));(replace HBX:=Aside0.mk (HBX.out.below hB2));(replace HQB:=Aside0.mk (HQB.out.below hB2));(have HM1:=Aside0.mk (show SnAt 24 (w3.alloc (.cells #[.int .i64 m1,.int .i64 m2] 24)) w3.heap.size m1 m2 from blk_newN _ _));(have HF1:=Aside0.mk (Kd.C_below hC3 (below_alloc (Below.refl w3.heap.size w3) (.cells #[.int .i64 m1,.int .i64 m2] 24))));(have HC3:=Aside0.mk hc3);obtain ⟨b0,b1,_,_⟩:=HBX.out.cells;clear hB hB2 hC3 hc3)
       | (go_at_call 29;(with_reducible refine (HA2.out _ HQB.out).mono ?_);rintro e w4 ⟨A4,c4,rfl,hc4,hC4,hB⟩;clear b0 b1;(have hB2:=below_alloc hB (.cells #[.int .i64 m1,.int .i64 m2] 24));(replace HQB:=Aside0.mk (HQB.out.below hB2));(replace HM1:=Aside0.mk (HM1.out.below hB2));(have HM2:=Aside0.mk (show SnAt 24 (w4.alloc (.cells #[.int .i64 m1,.int .i64 m2] 24)) w4.heap.size m1 m2 from blk_newN _ _));(replace HF1:=Aside0.mk (Kd.C_below HF1.out hB2));obtain ⟨b0,b1,_,_⟩:=HM1.out.cells;obtain ⟨d0,d1',_,_⟩:=HM2.out.cells;(have hrs:=records_same A3 c3 A4 c4 fs _ HF1.out HC3.out (Kd.C_below hC4 (below_alloc (Below.refl w4.heap.size w4) (.cells #[.int .i64 m1,.int .i64 m2] 24))) hc4 (by have h1:=HFL.out;have h2:=HLO.out.len;omega));clear hB hB2 hC4 hc4)
       | (go_at_call 17;(with_reducible refine hrs.mono ?_);rintro e w5 ⟨rfl,hB⟩;(replace HQB:=Aside0.mk (HQB.out.below hB));clear hB hrs b0 b1 d0 d1'))
      go_meet
      exact ⟨nx,mt,HQB,HSO⟩
    case rest =>
     obtain ⟨nx2,mt2,HQ2,HSO2⟩:=hcut
     clear HQB HBX b0 b1 hx0 hx1 HLS HLT HSO
     obtain ⟨t0,t1,_,_⟩:=HQ2.out.t.cells
     have hat:=sat_ok HQ2.out.s
     have hlt2:=HSO2.out.lt
     have g1:(nx2 != nx2)=false:=by simp
     have g2:(mt2 != mt2)=false:=by simp
     have g3:decide (mt2≥nx2)=false:=decide_eq_false (by omega)
     have g3':¬ mt2≥nx2:=by omega
     clear hlt2
     go_wp2_with (go_at_call 30;(with_reducible refine hat.mono ?_);rintro e w6 ⟨rfl,hB⟩;clear t0 t1;(replace HQ2:=Aside0.mk (HQ2.out.below hB));obtain ⟨t0,t1,_,_⟩:=HQ2.out.t.cells;clear hB hat)
     repeat (go_quiet (fail);try go_wp2)
     go_roundw
     case rel=>exact ⟨k+1,nx2,mt2,by omega,by go_num,⟨HQ2.out.below (Drawn0.below (by repeat (first|exact Drawn0.refl _|apply Drawn0.step)))⟩,HSO2⟩
     case measure=>simp [intOf];omega
   ·have hge:¬ (k:Int) < (xs.length:Int):=by omega
    go_wp2_with (go_at_call 19;(with_reducible refine (speaks20_ok _).mono ?_);rintro e w7 ⟨rfl,hB⟩;(replace HQ:=Aside0.mk (HQ.out.below hB));clear hB)
    go_ret
    exact ⟨rfl,HQ.out.bw⟩
end Go.Proofs.Ytgjibcfkjaedfaa.Wal

namespace Go.Proofs.Ytgjibcfkjaedfaa.Pr
open Go.RowKit Go.Proofs.YtgjibcfkjaedfaaW.PrintWords Go.Proofs.YtgjibcfkjaedfaaW.PrintLast Go.Proofs.YtgjibcfkjaedfaaW.PrintMore
attribute [local go_sem] max2_int min2_int max_two min_two max_three min_three max_four min_four
set_option linter.unusedVariables false
set_option linter.unusedSimpArgs false
noncomputable def latticelaw20_ShipSends.f (a0:List S53) (a1:Int) (a2:List S59):Option Bool:=@ite _ (∀ x ∈ a0,x.f7.size≤140737488351232) (Classical.propDecidable _) (some true) none
theorem latticelaw20_ShipSends.calls (A0:Option Addr) (c0:Nat) (a0:List S53) (a1:Int) (A2:Option Addr) (c2:Nat) (a2:List S59) (r:Bool) (w:World) (hr0:Kd.C k53 w A0 a0.length a0) (hc0:a0.length≤c0) (hr2:Kd.C k59 w A2 a2.length a2) (hc2:a2.length≤c2) (h:latticelaw20_ShipSends.f a0 a1 a2=some r) :
  Calls Try.prog 6 #[.slice A0 a0.length c0,.int .i64 a1,.slice A2 a2.length c2] w fun e w'=>e=.returned (.bool r)∧Below w.heap.size w w':=by
 unfold latticelaw20_ShipSends.f at h
 split at h
 ·rename_i hn
  injection h with h
  subst h
  exact Wal.shipSends_ok A0 c0 a0 a1 A2 c2 a2 w hr0 hn hr2
 ·cases h
end Go.Proofs.Ytgjibcfkjaedfaa.Pr

namespace Go.Proofs.Ytgjibcfkjaedfaa.Open
open Go.RowKit Go.ChangeShapes Go.WideShapes Go.Proofs.YtgjibcfkjaedfaaW.PrintWords
abbrev reachN:Nat:=140737488351232
structure Opn (P:Program) (t:TypeId) {α:Type} (d:Kd α) (g:α→Prop) (m:α→Nat):Prop where
 sz:P.cellsOf t=d.sz
 out:∀ (H:Type) (enc:TypeId×Value→H) (W:World) (n:Nat) (cs:List Value) (x:DataW H×List MemPlace),DataW.trod enc P W 0 (fun _=>true) true n t cs=some x →
  (∀ q ∈ x.1.weights P t,q≤reachN)→∃ y:α,d.K W y cs∧g y∧m y≤Rows.uptoBulk x.1
section
variable {P:Program} {t e:TypeId}
theorem opn_int {k:IntKind} (ht:P.underlying t=some (.int k)) (hc:P.cellsOf t=1):Opn P t (Kd.int k) (fun y=>(Lit.int k y).wf=true) (fun _=>1) where
 sz:=hc
 out:=by
  intro H enc W n cs x h _
  obtain ⟨y,rfl,rfl,hw⟩:=DataW.trod_int ht h
  exact ⟨y,rfl,hw,Nat.le_refl _⟩
theorem opn_string (ht:P.underlying t=some .string) (hc:P.cellsOf t=1):Opn P t Kd.string (fun y=>y.size≤reachN) (fun y=>y.size+1) where
 sz:=hc
 out:=by
  intro H enc W n cs x h hq
  obtain ⟨y,rfl,rfl,hw⟩:=DataW.trod_string ht h
  have:=hq y.data.toList.length (by simp [DataW.weights])
  exact ⟨y,rfl,by simpa using this,by simp [Rows.uptoBulk]⟩
theorem list_of {α:Type} (p:Nat→α→Prop):∀ len,(∀ i,i < len→∃ y,p i y)→∃ ys:List α,ys.length=len∧∀ i y,ys[i]?=some y→p i y
 | 0,_=>⟨[],rfl,fun i y h=>by simp at h⟩
 | len+1,h=>by
  obtain ⟨ys,hl,hy⟩:=list_of p len (fun i hi=>h i (by omega))
  obtain ⟨y,hp⟩:=h len (by omega)
  refine ⟨ys++[y],by simp [hl],fun i z hz=>?_⟩
  by_cases hi:i < len
  ·rw [List.getElem?_append_left (by omega)] at hz
   exact hy i z hz
  ·by_cases he:i=len
   ·subst he
    rw [List.getElem?_append_right (by omega),hl] at hz
    simp at hz
    subst hz
    exact hp
   ·rw [List.getElem?_eq_none (by simp;omega)] at hz
    cases hz
theorem bulk_sum {H α:Type} (m:α→Nat):∀ (ys:List α) (es:List (DataW H)),ys.length=es.length→(∀ (i:Nat) (y:α) (x:DataW H),ys[i]?=some y→es[i]?=some x→m y≤Rows.uptoBulk x)→(ys.map m).sum≤Rows.uptoBulkAll es
 | [],[],_,_=>by simp
 | [],_::_,h,_=>by simp at h
 | _::_,[],h,_=>by simp at h
 | y::ys,x::es,h,hm=>by
  have ih:=bulk_sum m ys es (by simpa using h) (fun i a b ha hb=>hm (i+1) a b (by simpa using ha) (by simpa using hb))
  have h0:=hm 0 y x rfl rfl
  simp only [List.map_cons,List.sum_cons,Rows.uptoBulkAll]
  omega
theorem addr_add (a:Addr) (x y:Nat):(a.add x).add y=a.add (x+y):=by
 by_cases hx:x=0
 ·subst hx;simp [Addr.add]
 ·by_cases hy:y=0
  ·subst hy;simp [Addr.add]
  ·simp [Addr.add,hx,hy,Nat.add_assoc]
theorem weights_all {H:Type} {P:Program} {e:TypeId}:∀ (es:List (DataW H)) (x:DataW H),x ∈ es→∀ q ∈ x.weights P e,q ∈ DataW.weightsAll P e es
 | [],_,h=>by simp at h
 | y::r,x,h=>by
  intro q hq
  simp only [DataW.weightsAll,List.mem_append]
  rcases List.mem_cons.1 h with rfl|h
  ·exact .inl hq
  ·exact .inr (weights_all r x h q hq)
theorem opn_slice {α:Type} {d:Kd α} {g:α→Prop} {m:α→Nat} {B:Nat} (ht:P.underlying t=some (.slice e)) (hc:P.cellsOf t=1) (hB:P.bytesOf e=B) (he:Opn P e d g m) :
  Opn P t (Kd.slice e d) (fun xs=>xs.length≤maxLen∧xs.length*B≤reachN∧∀ y ∈ xs,g y) (fun xs=>(xs.map m).sum+1) where
 sz:=hc
 out:=by
  intro H enc W n cs x h hq
  rcases DataW.trod_slice ht h with ⟨rfl,rfl⟩|⟨a,len,cap,elems,rest,n,_,rfl,rfl,hb,hl,hm,hlen,hel,hsp,_⟩
  ·exact ⟨[],⟨none,0,rfl,Nat.le_refl _,Kd.C_nil d W⟩,⟨by simp,by simp,by simp⟩,by simp [Rows.uptoBulk]⟩
  ·have hw:∀ q ∈ DataW.weightsAll P e (elems.map (·.1)),q≤reachN:=fun q hq'=>hq q (by simp only [DataW.weights,ht];exact List.mem_cons_of_mem _ (List.mem_append_left _ hq'))
   have h0:=hq (((elems.map (·.1)).length+(rest.map (·.1)).length)*P.bytesOf e) (by simp only [DataW.weights,ht];exact List.mem_cons_self)
   have each:∀ i,i < len→∃ y:α,∃ c:List Value,∃ z:DataW H×List MemPlace,elems[i]?=some z∧d.K W y c∧g y∧m y≤Rows.uptoBulk z.1∧∀ j u,c[j]?=some u→W.cell? (a.add (i*d.sz+j))=some u:=by
    intro i hi
    have h1:=hel i hi
    rw [List.getElem?_eq_getElem (by omega)] at h1
    obtain ⟨c,hcs,hx⟩:=Option.bind_eq_some_iff.1 h1
    obtain ⟨_,hcl,hcell⟩:=World.cells?_some hcs
    obtain ⟨y,hy,hg,hbk⟩:=he.out H enc W n c _ hx (fun q hq'=>hw q (weights_all _ _ (List.mem_map_of_mem (List.getElem_mem (by omega))) q hq'))
    refine ⟨y,c,_,List.getElem?_eq_getElem (by omega),hy,hg,hbk,fun j u hu=>?_⟩
    have hj:j < P.cellsOf e:=by
     have:=(List.getElem?_eq_some_iff.1 hu).1
     omega
    have h2:=hcell j hj
    rw [hu,he.sz,addr_add] at h2
    exact h2
   obtain ⟨ys,hyl,hys⟩:=list_of _ len each
   have hyl2:ys.length=elems.length:=by omega
   refine ⟨ys,⟨some a,cap,by rw [hyl],by omega,?_⟩,⟨by omega,?_,?_⟩,?_⟩
   ·refine ⟨rfl,by unfold maxLen at hm;omega,fun _=>⟨a,rfl,fun j p hp=>?_⟩⟩
    obtain ⟨c,z,_,hK,_,_,hcell⟩:=hys j p hp
    exact ⟨c,d.K_len hK,hK,hcell⟩
   ·rw [hB] at h0
    simp only [List.length_map] at h0
    have:ys.length*B≤(elems.length+rest.length)*B:=Nat.mul_le_mul_right _ (by omega)
    omega
   ·intro y hy
    obtain ⟨j,hj,rfl⟩:=List.getElem_of_mem hy
    obtain ⟨c,z,_,_,hg,_⟩:=hys j _ (List.getElem?_eq_getElem hj)
    exact hg
   ·have:=bulk_sum m ys (elems.map (·.1)) (by simp [hyl2]) (fun i y z hy hz=>by
     obtain ⟨c,z',h2,_,_,h3,_⟩:=hys i y hy
     rw [List.getElem?_map,h2] at hz
     simp at hz
     subst hz
     exact h3)
    simp only [Rows.uptoBulk]
    omega
structure OpnF (P:Program) (fs:List Field) (o:Nat) {α:Type} (d:Kd α) (g:α→Prop) (m:α→Nat):Prop where
 out:∀ (H:Type) (enc:TypeId×Value→H) (W:World) (n:Nat) (cs:List Value) (xs:List (DataW H×List MemPlace)),cs.length=o+d.sz→xs.length=fs.length →
  (∀ (i:Nat) (f:Field),fs[i]?=some f→DataW.trod enc P W 0 (fun _=>true) true n f.type ((cs.drop f.offset).take (P.cellsOf f.type))=xs[i]?) →
  (∀ q ∈ DataW.weightsEach P (fs.map (·.type)) (xs.map (·.1)),q≤reachN)→∃ y:α,d.K W y (cs.drop o)∧g y∧m y≤Rows.uptoBulkAll (xs.map (·.1))
theorem opnF_last {α:Type} {f:Field} {o:Nat} {d:Kd α} {g:α→Prop} {m:α→Nat} (hf:f.offset=o) (h:Opn P f.type d g m):OpnF P [f] o d g m where
 out:=by
  intro H enc W n cs xs hcs hxs hel hq
  match xs,hxs with
  | [x],_ =>
   have h0:=hel 0 f rfl
   rw [hf,h.sz,List.take_of_length_le (by rw [List.length_drop];omega)] at h0
   obtain ⟨y,hy,hg,hb⟩:=h.out H enc W n _ x (by simpa using h0) (fun q hq'=>hq q (by simp [DataW.weightsEach];exact hq'))
   exact ⟨y,hy,hg,by simp [Rows.uptoBulkAll];exact hb⟩
theorem opnF_cons {α β:Type} {f:Field} {fs:List Field} {o:Nat} {a:Kd α} {b:Kd β} {g:α→Prop} {m:α→Nat} {g':β→Prop} {m':β→Nat} (hf:f.offset=o) (h:Opn P f.type a g m) (hr:OpnF P fs (o+a.sz) b g' m') :
  OpnF P (f::fs) o (Kd.pair a b) (fun y=>g y.1∧g' y.2) (fun y=>m y.1+m' y.2) where
 out:=by
  intro H enc W n cs xs hcs hxs hel hq
  match xs,hxs with
  | x::xs,hxs =>
   have hsz:(Kd.pair a b).sz=a.sz+b.sz:=rfl
   have h0:=hel 0 f rfl
   rw [hf,h.sz] at h0
   obtain ⟨y,hy,hg,hb⟩:=h.out H enc W n _ x (by simpa using h0) (fun q hq'=>hq q (by simp only [List.map_cons,DataW.weightsEach];exact List.mem_append_left _ hq'))
   obtain ⟨z,hz,hg',hb'⟩:=hr.out H enc W n cs xs (by omega) (by simpa using hxs) (fun i f' hf'=>by simpa using hel (i+1) f' (by simpa using hf')) (fun q hq'=>hq q (by simp only [List.map_cons,DataW.weightsEach];exact List.mem_append_right _ hq'))
   refine ⟨(y,z),⟨(cs.drop o).take a.sz,cs.drop (o+a.sz),?_,hy,hz⟩,⟨hg,hg'⟩,?_⟩
   ·rw [← List.drop_drop,List.take_append_drop]
   ·simp only [List.map_cons,Rows.uptoBulkAll]
    omega
theorem opn_struct {α β:Type} {fs:Array Field} {d:Kd α} {g:α→Prop} {m:α→Nat} (ht:P.underlying t=some (.struct fs)) (hc:P.cellsOf t=d.sz) (h:OpnF P fs.toList 0 d g m) (f:β→α) (inv:α→β) (hfi:∀ a,f (inv a)=a) :
  Opn P t (Kd.iso d f) (fun y=>g (f y)) (fun y=>m (f y)+1) where
 sz:=hc
 out:=by
  intro H enc W n cs x hx hq
  obtain ⟨xs,n,_,rfl,hl,hxs,hel⟩:=DataW.trod_struct ht hx
  obtain ⟨y,hy,hg,hb⟩:=h.out H enc W n cs xs (by omega) (by simpa using hxs) (fun i f' hf'=>hel i f' (by simpa using hf')) (fun q hq'=>hq q (by simp only [DataW.weights,ht];exact hq'))
  refine ⟨inv y,?_,?_,?_⟩
  ·show d.K W (f (inv y)) cs
   rw [hfi]
   simpa using hy
  ·rw [hfi];exact hg
  ·rw [hfi];simp only [Rows.uptoBulk];omega
end
theorem weights_at {H:Type} {P:Program} {ts:List TypeId} {ds:List (DataW H)} (h:(DataW.weightsEach P ts ds).all (·≤reachBytes)=true) {j:Nat} {t:TypeId} {d:DataW H} (ht:ts[j]?=some t) (hd:ds[j]?=some d):∀ q ∈ d.weights P t,q≤reachN:=by
 intro q hq
 have h1:=List.all_eq_true.1 h _ (DataW.weights_mem_each ht hd q hq)
 have h2:q≤reachBytes:=by simpa using h1
 exact h2
end Go.Proofs.Ytgjibcfkjaedfaa.Open

namespace Go.Proofs.Ytgjibcfkjaedfaa.Pr
open Go.RowKit
set_option linter.unusedVariables false
def good53 (y:S53):Prop:=(Lit.int .i64 y.f0).wf=true∧(Lit.int .i64 y.f1).wf=true∧(Lit.int .i64 y.f2).wf=true∧(Lit.int .i64 y.f3).wf=true∧(Lit.int .i64 y.f4).wf=true∧(Lit.int .i64 y.f5).wf=true∧y.f6.size≤140737488351232∧y.f7.size≤140737488351232
def bulk53 (y:S53):Nat:=(1+(1+(1+(1+(1+(1+((y.f6.size+1)+(y.f7.size+1))))))))+1
def good59 (y:S59):Prop:=(Lit.int .i64 y.f0).wf=true∧(Lit.int .i64 y.f1).wf=true
def bulk59 (y:S59):Nat:=(1+1)+1
end Go.Proofs.Ytgjibcfkjaedfaa.Pr

namespace Go.Proofs.Ytgjibcfkjaedfaa.Pr
open Go.RowKit Go.Proofs.YtgjibcfkjaedfaaW.PrintWords
theorem opn53:Open.Opn Try.prog 53 k53 good53 bulk53 :=
 Open.opn_struct Try.underlying53 (by kernel_rfl) (Open.opnF_cons rfl (Open.opn_int Try.underlying3 (by kernel_rfl)) (Open.opnF_cons rfl (Open.opn_int Try.underlying3 (by kernel_rfl)) (Open.opnF_cons rfl (Open.opn_int Try.underlying3 (by kernel_rfl)) (Open.opnF_cons rfl (Open.opn_int Try.underlying3 (by kernel_rfl)) (Open.opnF_cons rfl (Open.opn_int Try.underlying3 (by kernel_rfl)) (Open.opnF_cons rfl (Open.opn_int Try.underlying3 (by kernel_rfl)) (Open.opnF_cons rfl (Open.opn_string Try.underlying9 (by kernel_rfl)) (Open.opnF_last rfl (Open.opn_string Try.underlying9 (by kernel_rfl)))))))))) (fun x:S53=>(x.f0,x.f1,x.f2,x.f3,x.f4,x.f5,x.f6,x.f7)) (fun p=>⟨p.1,p.2.1,p.2.2.1,p.2.2.2.1,p.2.2.2.2.1,p.2.2.2.2.2.1,p.2.2.2.2.2.2.1,p.2.2.2.2.2.2.2⟩) (fun _=>rfl)
theorem opn59:Open.Opn Try.prog 59 k59 good59 bulk59 :=
 Open.opn_struct Try.underlying59 (by kernel_rfl) (Open.opnF_cons rfl (Open.opn_int Try.underlying3 (by kernel_rfl)) (Open.opnF_last rfl (Open.opn_int Try.underlying3 (by kernel_rfl)))) (fun x:S59=>(x.f0,x.f1)) (fun p=>⟨p.1,p.2⟩) (fun _=>rfl)
end Go.Proofs.Ytgjibcfkjaedfaa.Pr

namespace Go.Proofs.Ytgjibcfkjaedfaa.Pr
open Go.RowKit Go.Proofs.YtgjibcfkjaedfaaW.PrintWords Go.Proofs.YtgjibcfkjaedfaaW.PrintLast
set_option linter.unusedVariables false in
def latticelaw20_ShipSends.Stated:Prop:=∀ (a0:List (S53)) (a1:Int) (a2:List (S59)),((a0.length≤maxLen∧a0.length*80≤140737488351232∧∀ e ∈ a0,good53 e))→((Lit.int .i64 a1).wf=true)→((a2.length≤maxLen∧a2.length*16≤140737488351232∧∀ e ∈ a2,good59 e))→latticelaw20_ShipSends.f a0 a1 a2=some true
end Go.Proofs.Ytgjibcfkjaedfaa.Pr

namespace Go.Proofs.Ytgjibcfkjaedfaa.Pure
open Go.RowKit Go.Proofs.Ytgjibcfkjaedfaa.Pr Go.Proofs.YtgjibcfkjaedfaaW.PrintWords Go.Proofs.YtgjibcfkjaedfaaW.PrintLast
theorem ShipSends:latticelaw20_ShipSends.Stated:=by
 intro a0 a1 a2 h0 _ _
 unfold latticelaw20_ShipSends.f
 rw [if_pos]
 intro x hx
 obtain ⟨_,_,_,_,_,_,_,hv⟩:=h0.2.2 x hx
 exact hv
end Go.Proofs.Ytgjibcfkjaedfaa.Pure

/- The law ShipSends returns true at every input, and each argument reads afterwards as it read before: What a sender sends, step by step.
   Conditions: none but those that the row itself prints. Written by a program of this session over the kit's printer. -/
namespace Go.Proofs.Ytgjibcfkjaedfaa.shipSends
open Go.ChangeShapes Go.WideShapes Go.ChangeAt Go.RowKit
open Go.ChangeMaps (open_string shut_string)
set_option linter.unusedVariables false
theorem own:ownKnob Try.prog.godebug=none:=by kernel_rfl
theorem laidOut:laidOutB Try.prog=true:=by kernel_rfl
set_option maxRecDepth 100000 in
theorem lifted (os:Os) (started:os.Started) (H:Type) (enc:TypeId×Value→H) :
  ReturnsInHanded {} Try.checked os 6 .any (Rows.shipSendsSpec.pre6 enc Try.prog Try.f6 Rows.shipSendsRow.domain false) (Rows.shipSendsSpec.post enc Try.prog Try.f6 false true false false):=by
 refine returnsInHanded_of_change_sized (C:=Try.checked) own started (by kernel_rfl) Try.func6
  (ChangeSpec.witness6 (enc:=enc) (C:=Try.checked) false ⟨#[],#[.slice none 0 0,.int .i64 0,.slice none 0 0],[]⟩ 8 (by kernel_rfl) (by kernel_rfl) (by kernel_rfl) (by kernel_rfl)) ?_
 intro W base args ds gs before hval0 hW hcnd hsz0 _
 have hsz:(DataW.weightsEach Try.prog (Try.f6.params.toList++Rows.shipSendsSpec.plain.varTypes Try.prog) (ds++gs)).all (·≤reachBytes)=true:=hsz0
 have hval:∀ (j:Nat) t v,Try.f6.params[j]?=some t→args[j]?=some v→Value.okWide Try.prog W .any base t v:=hval0
 have hW':=hW
 obtain ⟨p,q,hA0,hV,rfl,hfz,hnd⟩:=hW
 have hA:DataW.TrodAll enc Try.prog W 0 (fun _=>true) true Try.f6.params.toList args.toList ds p:=hA0
 rw [Try.params6] at hA hval hsz
 obtain ⟨v0,vs0,d0,ds0,p0,q0,hargs,rfl,rfl,h0,r0⟩:=trodAll_cons hA
 obtain ⟨v1,vs1,d1,ds1,p1,q1,rfl,rfl,rfl,h1,r1⟩:=trodAll_cons r0
 obtain ⟨v2,vs2,d2,ds2,p2,q2,rfl,rfl,rfl,h2,r2⟩:=trodAll_cons r1
 obtain ⟨rfl,rfl,rfl⟩:=trodAll_nil r2
 obtain rfl:args=#[v0,v1,v2]:=by cases args;simp_all
 obtain ⟨rfl,rfl⟩:=trodVars_none hV
 have k0:=h0
 have lt0:∀ x ∈ p0,x.block < W.heap.size:=by obtain ⟨m,hm⟩:=k0;exact DataW.trod_lt m _ _ _ hm
 obtain ⟨n0,hf0⟩:=h0
 obtain ⟨y0,K0,g0,m0⟩:=(Open.opn_slice (B:=80) Try.underlying22 (by kernel_rfl) (by kernel_rfl) Pr.opn53).out H enc W n0 _ _ hf0 (Open.weights_at hsz (j:=0) (t:=22) rfl rfl)
 obtain ⟨a0,len0,cap0,rfl⟩:=okWide_slice Try.underlying22 (hval 0 22 v0 rfl rfl)
 obtain ⟨A0,c0,e0,hc0,hr0⟩:=K0
 simp only [Value.cells,List.cons.injEq,Value.slice.injEq,and_true] at e0
 obtain ⟨rfl,rfl,rfl⟩:=e0
 have k1:=h1
 obtain ⟨y1,rfl,rfl,rfl,g1⟩:=open_int Try.underlying3 (hval 1 3 v1 rfl rfl) h1
 have k2:=h2
 have lt2:∀ x ∈ p2,x.block < W.heap.size:=by obtain ⟨m,hm⟩:=k2;exact DataW.trod_lt m _ _ _ hm
 obtain ⟨n2,hf2⟩:=h2
 obtain ⟨y2,K2,g2,m2⟩:=(Open.opn_slice (B:=16) Try.underlying54 (by kernel_rfl) (by kernel_rfl) Pr.opn59).out H enc W n2 _ _ hf2 (Open.weights_at hsz (j:=2) (t:=54) rfl rfl)
 obtain ⟨a2,len2,cap2,rfl⟩:=okWide_slice Try.underlying54 (hval 2 54 v2 rfl rfl)
 obtain ⟨A2,c2,e2,hc2,hr2⟩:=K2
 simp only [Value.cells,List.cons.injEq,Value.slice.injEq,and_true] at e2
 obtain ⟨rfl,rfl,rfl⟩:=e2
 clear hA0 hval0 hsz0 hsz
 have hk:=Pure.ShipSends y0 y1 y2 g0 g1 g2
 refine (Pr.latticelaw20_ShipSends.calls _ _ y0 y1 _ _ y2 true W hr0 hc0 hr2 hc2 hk).mono fun e W' ⟨he,bel0⟩=>?_
 have bel:Below W.heap.size W W':=bel0
 subst he
 exact ⟨_,rfl,_,_,_,[],_,[],hW',trodAll_mk1 (shut_bool Try.underlying4 _),(trodAll_cons_mk (Below.trod laidOut (by kernel_rfl) (of_decide_eq_true (by kernel_rfl)) k0 bel lt0) (trodAll_cons_mk (shut_int Try.underlying3 g1) (trodAll_cons_mk (Below.trod laidOut (by kernel_rfl) (of_decide_eq_true (by kernel_rfl)) k2 bel lt2) trodAll_mk0))),rfl,bel.frame _,fun h=>by cases h⟩
theorem over:Rows.shipSendsRow.holds Try.pinned (OpenSpec.ofChange Rows.shipSendsSpec) :=
 OpenClaim.holds_of_wide 6 Try.f6 rfl rfl rfl rfl rfl rfl rfl ⟨rfl,rfl,rfl,rfl,rfl⟩ rfl rfl rfl rfl rfl (by kernel_rfl) Try.func6 (by kernel_rfl)
  (of_decide_eq_true (by kernel_rfl)) (by unfold Func.isWrapper;first|(rw [if_pos (by decide +kernel)];kernel_rfl)|(rw [if_neg (by decide +kernel)];exact ⟨rfl,rfl⟩))
  (fun os started H enc _=>lifted os started H enc)
theorem proved:Rows.ShipSendsSaid:=over
#print axioms proved
end Go.Proofs.Ytgjibcfkjaedfaa.shipSends
namespace Go.Proofs.Ytgjibcfkjaedfaa
theorem shipSends_holds:Rows.ShipSendsSaid:=shipSends.proved
end Go.Proofs.Ytgjibcfkjaedfaa
