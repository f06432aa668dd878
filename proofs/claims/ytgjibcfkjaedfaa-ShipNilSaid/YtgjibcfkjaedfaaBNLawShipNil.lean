-- Parts melded by a program of this session.
import Derived.Below
import Derived.Deep.Draws
import Derived.Deep.AppendLies
import Derived.Maps.AppendAt
import Derived.OwnWalk
import Derived.Laws.BytesArg
import Derived.Laws.MakeOwn
import Derived.Laws.OwnMore
import Derived.Deep.OwnRows
import Derived.Tactics
import Derived.Lib.ConvBytes
import Derived.Laws.Slices
import Derived.WalkKit
import Derived.KernelRfl
import Derived.RowKit3
import Derived.Deep.LoopGhost
import Derived.Deep.QuietTactic
import Derived.BigQuiet
import Derived.WideLaws
import Derived.Deep.DeepCutAuto
import Derived.Deep.CutBlock
import Derived.Deep.RegionHeld3
import Derived.Laws.Rows
import Derived.Lib.AppendStr
import Derived.ArgAppend
import Derived.Laws.IdiomCopy
import Derived.RowKit
import Derived.Test.YtgjibcfkjaedfaaTSTHWWords
import Derived.OrdersHeld
import Derived.Laws.BitsLemmas
import Derived.Test.YtgjibcfkjaedfaaTSTHWRest
import Derived.Laws.StructEq
import Derived.Test.YtgjibcfkjaedfaaProg
import Derived.Shelf.Abstract
import Derived.Test.YtgjibcfkjaedfaaTSTHPrx0
import Derived.OneCell
import Derived.Lib.SliceRun
import Derived.Test.YtgjibcfkjaedfaaTSTHWire
import Derived.RangeFuncBox
import Derived.RangeFuncLeaves
import Derived.OwnWalkIn
import Derived.TacticsInMore
import Derived.LoopNIn
import Derived.LoopIn
import Derived.Lib.Hide
import Derived.Test.YtgjibcfkjaedfaaTSTHBack
import Derived.Outline
import Derived.Test.YtgjibcfkjaedfaaTSTHRead
import Derived.Test.YtgjibcfkjaedfaaTSTHNdFrom
import Derived.Laws.BitsAllLaws
import Derived.Test.YtgjibcfkjaedfaaTSTHCrc
import Derived.Test.YtgjibcfkjaedfaaTSTHPrx3
import Derived.Test.YtgjibcfkjaedfaaTSTHPrx4
import Derived.Test.YtgjibcfkjaedfaaTSTHPrx5
import Derived.Test.YtgjibcfkjaedfaaTSTHPrx1
import Derived.Test.YtgjibcfkjaedfaaTSTHRefW
import Derived.Test.YtgjibcfkjaedfaaTSTHPrxS
import Derived.Test.YtgjibcfkjaedfaaTSTHPureNode
import Derived.Deep.RegionLaw
import Derived.Laws.CopyOwn
import Derived.Test.YtgjibcfkjaedfaaTSTHPageEnc
import Derived.Test.YtgjibcfkjaedfaaTSTHPageFit
import Derived.Test.YtgjibcfkjaedfaaTSTHPageRd
import Derived.Test.YtgjibcfkjaedfaaTSTHPageNode
import Derived.Test.YtgjibcfkjaedfaaTSTHPageDec
import Derived.Test.YtgjibcfkjaedfaaTSTHCrcR
import Derived.Test.YtgjibcfkjaedfaaTSTHPageRt
import Derived.Test.YtgjibcfkjaedfaaTSTHPageRef
import Derived.Test.YtgjibcfkjaedfaaTSTHRecIR
import Derived.Lib.SlBytesConst
import Derived.StillTailTactics
import Derived.Test.YtgjibcfkjaedfaaTSTHRecV
import Derived.Test.YtgjibcfkjaedfaaTSTHRecChkP
import Derived.Test.YtgjibcfkjaedfaaTSTHRecChkA
import Derived.Test.YtgjibcfkjaedfaaTSTHRecChkB
import Derived.Test.YtgjibcfkjaedfaaTSTHRecChkE
import Derived.Test.YtgjibcfkjaedfaaTSTHRecChk
import Derived.Test.YtgjibcfkjaedfaaTSTHRecEnc
import Derived.Test.YtgjibcfkjaedfaaTSTHRecRead
import Derived.Test.YtgjibcfkjaedfaaTSTHRecLaw
import Derived.Test.YtgjibcfkjaedfaaTSTHRecK
import Derived.Test.YtgjibcfkjaedfaaTSTHRecEncs
import Derived.Test.YtgjibcfkjaedfaaTSWalA
import Derived.Test.YtgjibcfkjaedfaaTSWalApp
import Derived.Test.YtgjibcfkjaedfaaTSRefA
import Derived.WalkMore
import Derived.Test.YtgjibcfkjaedfaaTSWalS
import Derived.Test.YtgjibcfkjaedfaaTSShA
import Derived.Test.YtgjibcfkjaedfaaTSShB
import Derived.Test.YtgjibcfkjaedfaaTSShC
import Derived.OpenShut
import Derived.Test.YtgjibcfkjaedfaaRows
import Derived.SizedLaws
import Derived.ChangeArms
import Derived.ChangeOld
import Derived.DataReads
import Derived.ProofKit
import Derived.ShutString
import Derived.Carry
set_option linter.unusedVariables false
set_option linter.unusedSimpArgs false
namespace Go.Proofs.YtgjibcfkjaedfaaW.PrintWords
open Go.RowKit
section
variable {P:Program} {ops:Array Oper} {rest:List Oper} {o:Oper} {a:Act} {Q:Exit→Act→World→Prop}
end
section
variable {P:Program} {ops:Array Oper} {o:Oper} {a:Act} {Q:Exit→Act→World→Prop} {K:Act→World→Prop}
end
section
variable {α:Type} {enc:α→Value} {d:α}
end
section
variable {α:Type} {P:Program} {ops:Array Oper} {rest:List Oper} {o:Oper} {a:Act} {Q:Exit→Act→World→Prop}
end
section
variable {P:Program}
end
section
variable {α:Type} {R R':α→List Value→Prop} {e:TypeId} {size:Nat} {w w1:World} {base:Nat} {v:Value} {ps:List α}
theorem OwnRow.keep (h:OwnRow R e size w base v ps) {g:Nat} {t:TypeId} {cells:Array Value} (hb:w.heap[g]?=some (.cells cells t (0,0))) (ht:e≠t) (hk:KeepBut w w1 g none):OwnRow R e size w1 base v ps:=by
  obtain ⟨inner,ho,hr⟩:=h
  exact ⟨inner,hk.own ho (Ne.symm (own_ne ho hb ht)) (by cases v.ownBlock <;> simp),hr⟩
end
section
variable {P:Program} {ops:Array Oper} {rest:List Oper} {o:Oper} {a:Act} {Q:Exit→Act→World→Prop} {α:Type} {R:α→List Value→Prop}
end
namespace Kd
section
variable {α:Type} {d:Kd α} {e:Nat} {w w1:World} {base:Nat} {ok ok':Nat→Prop} {v:Value} {xs:List α}
end
section
variable {P:Program} {ops:Array Oper} {rest:List Oper} {o:Oper} {a:Act} {Q:Exit→Act→World→Prop} {α:Type}
end
section
variable {P:Program} {ops:Array Oper} {o:Oper} {a:Act} {Q:Exit→Act→World→Prop} {Kc:Act→World→Prop} {α:Type}
end
end Kd
namespace Kd
section
variable {α β:Type} {d:Kd α} {d':Kd β} {e e':Nat} {w w1 W:World} {base b b':Nat} {ok ok' okv oku:Nat→Prop} {v u:Value} {xs:List α} {ys:List β}
theorem R_over (h:d.R e W b ok u xs) (hv:d'.R e' W b' ok' v ys) (ht:∀ q,q ∈ e::d.E→q≠e') (hg:W.grownBy w1 v.ownBlock):d.R e w1 b ok u xs:=by
  obtain ⟨inner,ho⟩:=R_own hv
  refine R_mono (R_move (R_bound h) (fun k hk=>hg.block k hk.2.2.1 (fun he=>?_))) (fun _ hk=>hk.1)
  obtain ⟨_,_,_,q,hq,cells,hc⟩:=hk
  obtain ⟨cells',hc'⟩:=own_typed ho k he.symm
  rw [hc] at hc'
  injection hc' with hc'
  injection hc' with _ hc'
  exact ht q hq hc'
end
section
variable {w W:World} {A:Option Addr} {n:Nat}
end
section
variable {P:Program} {ops:Array Oper} {rest:List Oper} {o:Oper} {a:Act} {Q:Exit→Act→World→Prop}
end
end Kd
section
variable {P:Program}
end
namespace Kd
end Kd
namespace Kd
section
variable {α:Type} {d:Kd α} {e e':Nat} {w w1 W:World} {base:Nat} {ok:Nat→Prop} {u v:Value} {xs:List α}
end
end Kd
namespace Kd
section
variable {P:Program} {ops:Array Oper} {rest:List Oper} {o:Oper} {a:Act} {Q:Exit→Act→World→Prop} {α:Type}
end
end Kd
namespace Kd
section
variable {α:Type} {k:Kd α} {w:World} {A:Option Addr} {xs:List α} {m c:Nat}
end
end Kd
section
variable {P:Program}
end
theorem keep_cell {w W:World} {g:Nat} (h:KeepBut w W g none) {a:Addr} {v:Value} (hc:w.cell? a=some v) (hne:a.block≠g):W.cell? a=some v:=by
  have:=h.2 a.block (World.block_lt_of_cell? w a hc) hne (by simp)
  simpa [World.cell?,this] using hc
theorem ReadsInt.keep {w W:World} {k:IntKind} {A:Option Addr} {n g:Nat} {xs:List Int} (h:ReadsInt w k A n xs) (hk:KeepBut w W g none) (hf:∀ ad,A=some ad→0 < n→ad.block≠g):ReadsInt W k A n xs :=
  ⟨h.1,h.2.1,fun hn=>by
    obtain ⟨ad,e,hc⟩:=h.2.2 hn
    exact ⟨ad,e,fun j hj=>keep_cell hk (hc j hj) (by rw [add_block];exact hf ad e hn)⟩⟩
theorem ReadsOf.keep {α:Type} {enc:α→Value} {d:α} {w W:World} {A:Option Addr} {n g:Nat} {xs:List α} (h:ReadsOf enc d w A n xs) (hk:KeepBut w W g none) (hf:∀ ad,A=some ad→0 < n→ad.block≠g):ReadsOf enc d W A n xs :=
  ⟨h.1,h.2.1,fun hn=>by
    obtain ⟨ad,e,hc⟩:=h.2.2 hn
    exact ⟨ad,e,fun j hj=>keep_cell hk (hc j hj) (by rw [add_block];exact hf ad e hn)⟩⟩
section
variable {P:Program} {ops:Array Oper} {rest:List Oper} {o:Oper} {a:Act} {Q:Exit→Act→World→Prop}
end
section
variable {P:Program} {ops:Array Oper} {rest:List Oper} {o:Oper} {a:Act} {Q:Exit→Act→World→Prop} {W:World}
end
end Go.Proofs.YtgjibcfkjaedfaaW.PrintWords

namespace Go.Proofs.YtgjibcfkjaedfaaW.PrintWords
open Go.RowKit
section
variable {w W W2:World} {S S2 S':Nat→Prop}
theorem Kept.keep {g:Nat} (h:KeepBut w W g none) (k:Kept W W2 S2) (hs:∀ k,S2 k→w.heap.size≤k):KeepBut w W2 g none :=
 ⟨Nat.le_trans h.1 k.1,fun i hi hg hr=>(k.2 i (Nat.lt_of_lt_of_le hi h.1) (fun h2=>by have:=hs i h2;omega)).trans (h.2 i hi hg hr)⟩
end
end Go.Proofs.YtgjibcfkjaedfaaW.PrintWords

namespace Go.Proofs.YtgjibcfkjaedfaaW.PrintWords
open Go.RowKit
namespace Foot
variable {P Q:World→Prop} {W W1:World} {ok ok':Nat→Prop}
theorem bound (h:Foot P W ok):Foot P W (fun k=>ok k∧k < W.heap.size):=fun W' hW=>h W' (fun k hk hlt=>hW k ⟨hk,hlt⟩ hlt)
end Foot
namespace Kd
end Kd
end Go.Proofs.YtgjibcfkjaedfaaW.PrintWords

namespace Go.Proofs.Ytgjibcfkjaedfaa.Rec
open Go.RowKit Go.Proofs.YtgjibcfkjaedfaaW.PrintWords Go.Proofs.YtgjibcfkjaedfaaW.PrintLast Go.Proofs.YtgjibcfkjaedfaaW.PrintMore Go.Proofs.Ytgjibcfkjaedfaa.Wire Go.Proofs.Ytgjibcfkjaedfaa.Crc Go.Proofs.Ytgjibcfkjaedfaa.Pr Go.Proofs.Ytgjibcfkjaedfaa.Page
open Go.Proofs.Ytgjibcfkjaedfaa.Back (AllB)
open Go.Proofs.Ytgjibcfkjaedfaa.Pure
set_option linter.unusedVariables false
set_option linter.unusedSimpArgs false
theorem byt_E (q:Nat) (hq:q ∈ 5::(Kd.int .u8).E):q=5:=by
 simpa [Kd.int,Kd.scalar] using hq
theorem RRec.over {w w1:World} {b b':Nat} {u v:Value} {xs:List RecS} {ys:List Int} (h:RRec w b u xs) (hv:RByt w b' v ys) (hg:w.grownBy w1 v.ownBlock):RRec w1 b u xs :=
 Kd.R_over h hv (fun q hq=>by rw [rec_E q hq];decide) hg
theorem RByt.over {w w1:World} {b b':Nat} {u v:Value} {xs:List RecS} {ys:List Int} (h:RByt w b v ys) (hv:RRec w b' u xs) (hg:w.grownBy w1 u.ownBlock):RByt w1 b v ys :=
 Kd.R_over h hv (fun q hq=>by rw [byt_E q hq];decide) hg
end Go.Proofs.Ytgjibcfkjaedfaa.Rec

namespace Go.Proofs.Ytgjibcfkjaedfaa.Pr
open Go.RowKit Go.Proofs.YtgjibcfkjaedfaaW.PrintWords Go.Proofs.YtgjibcfkjaedfaaW.PrintLast Go.Proofs.YtgjibcfkjaedfaaW.PrintMore
attribute [local go_sem] max2_int min2_int max_two min_two max_three min_three max_four min_four
set_option linter.unusedVariables false
set_option linter.unusedSimpArgs false
def latticelaw20_ShipNil.f (a0:Int):Option Bool:=some true
theorem latticelaw20_ShipNil.calls (a0:Int) (r:Bool) (w:World) (h:latticelaw20_ShipNil.f a0=some r) :
  Calls Try.prog 7 #[.int .i64 a0] w fun e w'=>e=.returned (.bool r)∧Below w.heap.size w w':=by
 unfold latticelaw20_ShipNil.f at h
 injection h with h
 subst h
 exact Wal.shipNil_ok a0 w
end Go.Proofs.Ytgjibcfkjaedfaa.Pr

namespace Go.Proofs.Ytgjibcfkjaedfaa.Pr
open Go.RowKit Go.Proofs.YtgjibcfkjaedfaaW.PrintWords Go.Proofs.YtgjibcfkjaedfaaW.PrintLast
set_option linter.unusedVariables false in
def latticelaw20_ShipNil.Stated:Prop:=∀ (a0:Int),((Lit.int .i64 a0).wf=true)→latticelaw20_ShipNil.f a0=some true
end Go.Proofs.Ytgjibcfkjaedfaa.Pr

namespace Go.Proofs.Ytgjibcfkjaedfaa.Pure
open Go.RowKit Go.Proofs.Ytgjibcfkjaedfaa.Pr Go.Proofs.YtgjibcfkjaedfaaW.PrintWords Go.Proofs.YtgjibcfkjaedfaaW.PrintLast
theorem ShipNil:latticelaw20_ShipNil.Stated:=by
 intro a0 _
 rfl
end Go.Proofs.Ytgjibcfkjaedfaa.Pure

/- The law ShipNil returns true at every input, and each argument reads afterwards as it read before: A nil sender sends nothing, and a nil log takes nothing.
   Conditions: none but those that the row itself prints. Written by a program of this session over the kit's printer. -/
namespace Go.Proofs.Ytgjibcfkjaedfaa.shipNil
open Go.ChangeShapes Go.WideShapes Go.ChangeAt Go.RowKit
open Go.ChangeMaps (open_string shut_string)
set_option linter.unusedVariables false
theorem own:ownKnob Try.prog.godebug=none:=by kernel_rfl
theorem laidOut:laidOutB Try.prog=true:=by kernel_rfl
set_option maxRecDepth 100000 in
theorem lifted (os:Os) (started:os.Started) (H:Type) (enc:TypeId×Value→H) :
  ReturnsInHanded {} Try.checked os 7 .any (Rows.shipNilSpec.pre6 enc Try.prog Try.f7 Rows.shipNilRow.domain false) (Rows.shipNilSpec.post enc Try.prog Try.f7 false true false false):=by
 refine returnsInHanded_of_change_sized (C:=Try.checked) own started (by kernel_rfl) Try.func7
  (ChangeSpec.witness6 (enc:=enc) (C:=Try.checked) false ⟨#[],#[.int .i64 0],[]⟩ 8 (by kernel_rfl) (by kernel_rfl) (by kernel_rfl) (by kernel_rfl)) ?_
 intro W base args ds gs before hval0 hW hcnd hsz0 _
 have hsz:(DataW.weightsEach Try.prog (Try.f7.params.toList++Rows.shipNilSpec.plain.varTypes Try.prog) (ds++gs)).all (·≤reachBytes)=true:=hsz0
 have hval:∀ (j:Nat) t v,Try.f7.params[j]?=some t→args[j]?=some v→Value.okWide Try.prog W .any base t v:=hval0
 have hW':=hW
 obtain ⟨p,q,hA0,hV,rfl,hfz,hnd⟩:=hW
 have hA:DataW.TrodAll enc Try.prog W 0 (fun _=>true) true Try.f7.params.toList args.toList ds p:=hA0
 rw [Try.params7] at hA hval hsz
 obtain ⟨v0,vs0,d0,ds0,p0,q0,hargs,rfl,rfl,h0,r0⟩:=trodAll_cons hA
 obtain ⟨rfl,rfl,rfl⟩:=trodAll_nil r0
 obtain rfl:args=#[v0]:=by cases args;simp_all
 obtain ⟨rfl,rfl⟩:=trodVars_none hV
 have k0:=h0
 obtain ⟨y0,rfl,rfl,rfl,g0⟩:=open_int Try.underlying3 (hval 0 3 v0 rfl rfl) h0
 clear hA0 hval0 hsz0 hsz
 have hk:=Pure.ShipNil y0 g0
 refine (Pr.latticelaw20_ShipNil.calls y0 true W hk).mono fun e W' ⟨he,bel0⟩=>?_
 have bel:Below W.heap.size W W':=bel0
 subst he
 exact ⟨_,rfl,_,_,_,[],_,[],hW',trodAll_mk1 (shut_bool Try.underlying4 _),(trodAll_cons_mk (shut_int Try.underlying3 g0) trodAll_mk0),rfl,bel.frame _,fun h=>by cases h⟩
theorem over:Rows.shipNilRow.holds Try.pinned (OpenSpec.ofChange Rows.shipNilSpec) :=
 OpenClaim.holds_of_wide 7 Try.f7 rfl rfl rfl rfl rfl rfl rfl ⟨rfl,rfl,rfl,rfl,rfl⟩ rfl rfl rfl rfl rfl (by kernel_rfl) Try.func7 (by kernel_rfl)
  (of_decide_eq_true (by kernel_rfl)) (by unfold Func.isWrapper;first|(rw [if_pos (by decide +kernel)];kernel_rfl)|(rw [if_neg (by decide +kernel)];exact ⟨rfl,rfl⟩))
  (fun os started H enc _=>lifted os started H enc)
theorem proved:Rows.ShipNilSaid:=over
#print axioms proved
end Go.Proofs.Ytgjibcfkjaedfaa.shipNil
namespace Go.Proofs.Ytgjibcfkjaedfaa
theorem shipNil_holds:Rows.ShipNilSaid:=shipNil.proved
end Go.Proofs.Ytgjibcfkjaedfaa
