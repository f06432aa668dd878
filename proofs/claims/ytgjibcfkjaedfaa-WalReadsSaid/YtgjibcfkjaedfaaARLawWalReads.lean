-- Parts melded by a program of this session.
import Derived.Below
import Derived.Deep.Draws
import Derived.Deep.AppendLies
import Derived.Maps.AppendAt
import Derived.OwnWalk
import Derived.Laws.BytesArg
import Derived.Laws.MakeOwn
import Derived.Laws.OwnMore
import Derived.Deep.OwnRows
import Derived.Tactics
import Derived.Lib.ConvBytes
import Derived.Laws.Slices
import Derived.WalkKit
import Derived.KernelRfl
import Derived.RowKit3
import Derived.Deep.LoopGhost
import Derived.Deep.QuietTactic
import Derived.BigQuiet
import Derived.WideLaws
import Derived.Deep.DeepCutAuto
import Derived.Deep.CutBlock
import Derived.Deep.RegionHeld3
import Derived.Laws.Rows
import Derived.Lib.AppendStr
import Derived.ArgAppend
import Derived.Laws.IdiomCopy
import Derived.RowKit
import Derived.Test.YtgjibcfkjaedfaaTHWWords
import Derived.OrdersHeld
import Derived.Laws.BitsLemmas
import Derived.Test.YtgjibcfkjaedfaaTHWRest
import Derived.Laws.StructEq
import Derived.Test.YtgjibcfkjaedfaaProg
import Derived.Shelf.Abstract
import Derived.Test.YtgjibcfkjaedfaaTHPrx0
import Derived.OneCell
import Derived.Lib.SliceRun
import Derived.Test.YtgjibcfkjaedfaaTHWire
import Derived.RangeFuncBox
import Derived.RangeFuncLeaves
import Derived.OwnWalkIn
import Derived.TacticsInMore
import Derived.LoopNIn
import Derived.LoopIn
import Derived.Lib.Hide
import Derived.Test.YtgjibcfkjaedfaaTHBack
import Derived.Outline
import Derived.Test.YtgjibcfkjaedfaaTHRead
import Derived.Test.YtgjibcfkjaedfaaTHNdFrom
import Derived.Laws.BitsAllLaws
import Derived.Test.YtgjibcfkjaedfaaTHCrc
import Derived.Test.YtgjibcfkjaedfaaTHPrx3
import Derived.Test.YtgjibcfkjaedfaaTHPrx4
import Derived.Test.YtgjibcfkjaedfaaTHPrx5
import Derived.Test.YtgjibcfkjaedfaaTHPrx1
import Derived.Test.YtgjibcfkjaedfaaTHRefW
import Derived.Test.YtgjibcfkjaedfaaTHPrxS
import Derived.Test.YtgjibcfkjaedfaaTHPrx15
import Derived.Test.YtgjibcfkjaedfaaTHPrx16
import Derived.Test.YtgjibcfkjaedfaaTHPureNode
import Derived.Deep.RegionLaw
import Derived.Laws.CopyOwn
import Derived.Test.YtgjibcfkjaedfaaTHPageEnc
import Derived.Test.YtgjibcfkjaedfaaTHPageFit
import Derived.Test.YtgjibcfkjaedfaaTHPageRd
import Derived.Test.YtgjibcfkjaedfaaTHPageNode
import Derived.Test.YtgjibcfkjaedfaaTHPageDec
import Derived.Test.YtgjibcfkjaedfaaTHCrcR
import Derived.Test.YtgjibcfkjaedfaaTHPageRt
import Derived.Test.YtgjibcfkjaedfaaTHPrx17
import Derived.Test.YtgjibcfkjaedfaaTHPagePure
import Derived.Test.YtgjibcfkjaedfaaTHRefRd
import Derived.Test.YtgjibcfkjaedfaaTHPageRef
import Derived.Test.YtgjibcfkjaedfaaTHRecIR
import Derived.Lib.SlBytesConst
import Derived.StillTailTactics
import Derived.Test.YtgjibcfkjaedfaaTHRecV
import Derived.Test.YtgjibcfkjaedfaaTHRecChkP
import Derived.Test.YtgjibcfkjaedfaaTHRecChkA
import Derived.Test.YtgjibcfkjaedfaaTHRecChkB
import Derived.Test.YtgjibcfkjaedfaaTHRecChkE
import Derived.Test.YtgjibcfkjaedfaaTHRecChk
import Derived.Test.YtgjibcfkjaedfaaTHRecEnc
import Derived.Test.YtgjibcfkjaedfaaTHRecRead
import Derived.Test.YtgjibcfkjaedfaaTHRecDec
import Derived.Test.YtgjibcfkjaedfaaTHRecRight
import Derived.Test.YtgjibcfkjaedfaaTHRecRefDec
import Derived.Test.YtgjibcfkjaedfaaTHRecLaw
import Derived.Test.YtgjibcfkjaedfaaTHRecK
import Derived.Test.YtgjibcfkjaedfaaTHPrx19
import Derived.Test.YtgjibcfkjaedfaaTHPrx26
import Derived.Test.YtgjibcfkjaedfaaTHRecEncs
import Derived.Test.YtgjibcfkjaedfaaKWA
import Derived.Test.YtgjibcfkjaedfaaKWB
import Derived.WalkMore
import Derived.Test.YtgjibcfkjaedfaaKRA
import Derived.Test.YtgjibcfkjaedfaaKRR
import Derived.Test.YtgjibcfkjaedfaaKWS
import Derived.Test.YtgjibcfkjaedfaaRows
import Derived.OpenShut
import Derived.SizedLaws
import Derived.ChangeArms
import Derived.ChangeOld
import Derived.DataReads
import Derived.ProofKit
import Derived.ShutString
import Derived.Carry
set_option linter.unusedVariables false
set_option linter.unusedSimpArgs false
namespace Go.Proofs.YtgjibcfkjaedfaaW.PrintWords
open Go.RowKit
theorem LeO.ite {α:Type} {c:Prop} [Decidable c] {a a' b b':Option α} (h:LeO a a') (k:LeO b b'):LeO (if c then a else b) (if c then a' else b'):=by
  split
  · exact h
  · exact k
section
variable {P:Program} {ops:Array Oper} {rest:List Oper} {o:Oper} {a:Act} {Q:Exit→Act→World→Prop}
end
section
variable {P:Program} {ops:Array Oper} {o:Oper} {a:Act} {Q:Exit→Act→World→Prop} {K:Act→World→Prop}
end
section
variable {α:Type} {enc:α→Value} {d:α}
end
section
variable {α:Type} {P:Program} {ops:Array Oper} {rest:List Oper} {o:Oper} {a:Act} {Q:Exit→Act→World→Prop}
end
section
variable {P:Program}
end
section
variable {α:Type} {R R':α→List Value→Prop} {e:TypeId} {size:Nat} {w w1:World} {base:Nat} {v:Value} {ps:List α}
end
section
variable {P:Program} {ops:Array Oper} {rest:List Oper} {o:Oper} {a:Act} {Q:Exit→Act→World→Prop} {α:Type} {R:α→List Value→Prop}
end
namespace Kd
section
variable {α:Type} {d:Kd α} {e:Nat} {w w1:World} {base:Nat} {ok ok':Nat→Prop} {v:Value} {xs:List α}
end
section
variable {P:Program} {ops:Array Oper} {rest:List Oper} {o:Oper} {a:Act} {Q:Exit→Act→World→Prop} {α:Type}
end
section
variable {P:Program} {ops:Array Oper} {o:Oper} {a:Act} {Q:Exit→Act→World→Prop} {Kc:Act→World→Prop} {α:Type}
end
end Kd
namespace Kd
end Kd
namespace Kd
section
variable {α β:Type} {d:Kd α} {d':Kd β} {e e':Nat} {w w1 W:World} {base b b':Nat} {ok ok' okv oku:Nat→Prop} {v u:Value} {xs:List α} {ys:List β}
end
section
variable {w W:World} {A:Option Addr} {n:Nat}
end
section
variable {P:Program} {ops:Array Oper} {rest:List Oper} {o:Oper} {a:Act} {Q:Exit→Act→World→Prop}
end
end Kd
section
variable {P:Program}
end
section
variable {w w1:World} {base n size:Nat} {e:TypeId} {v:Value} {xs:List Value}
end
namespace Kd
section
variable {α:Type} {d:Kd α} {e:Nat} {w w1 W:World} {base:Nat} {ok ok':Nat→Prop} {v:Value} {xs:List α}
end
end Kd
namespace Kd
section
variable {α:Type} {d:Kd α} {e e':Nat} {w w1 W:World} {base:Nat} {ok:Nat→Prop} {u v:Value} {xs:List α}
end
end Kd
namespace Kd
section
variable {P:Program} {ops:Array Oper} {rest:List Oper} {o:Oper} {a:Act} {Q:Exit→Act→World→Prop} {α:Type}
end
end Kd
namespace Kd
section
variable {α:Type} {k:Kd α} {w:World} {A:Option Addr} {xs:List α} {m c:Nat}
end
end Kd
section
variable {P:Program}
end
section
variable {P:Program} {ops:Array Oper} {rest:List Oper} {o:Oper} {a:Act} {Q:Exit→Act→World→Prop}
end
section
variable {P:Program} {ops:Array Oper} {rest:List Oper} {o:Oper} {a:Act} {Q:Exit→Act→World→Prop} {W:World}
end
end Go.Proofs.YtgjibcfkjaedfaaW.PrintWords

namespace Go.Proofs.Ytgjibcfkjaedfaa.Wal
open Go.RowKit Go.Proofs.YtgjibcfkjaedfaaW.PrintWords Go.Proofs.YtgjibcfkjaedfaaW.PrintLast Go.Proofs.YtgjibcfkjaedfaaW.PrintMore Go.Proofs.Ytgjibcfkjaedfaa.Wire Go.Proofs.Ytgjibcfkjaedfaa.Pr Go.Proofs.Ytgjibcfkjaedfaa.Rec
open Go.Proofs.Ytgjibcfkjaedfaa.Back (AllB)
set_option linter.unusedVariables false
set_option linter.unusedSimpArgs false
theorem rd_snoc_lt {l:List RecS} {r:RecS} {k:Nat} (h:k < l.length):rd_T53 (l++[r]) (k:Int)=rd_T53 l (k:Int):=by
 unfold rd_T53
 rw [Int.toNat_natCast,List.getD_eq_getElem?_getD,List.getD_eq_getElem?_getD,List.getElem?_append_left h]
theorem rd_snoc_eq {l:List RecS} {r:RecS}:rd_T53 (l++[r]) (l.length:Int)=r:=by
 unfold rd_T53
 rw [Int.toNat_natCast,List.getD_eq_getElem?_getD,List.getElem?_append_right (Nat.le_refl _),Nat.sub_self]
 rfl
theorem LsnOk.snoc {l:List RecS} {r:RecS} (h:LsnOk l) (hr:r.f0=(l.length:Int)+1):LsnOk (l++[r]):=by
 intro k hk
 rw [List.length_append,List.length_singleton] at hk
 by_cases hlt:k < l.length
 ·rw [rd_snoc_lt hlt];exact h k hlt
 ·obtain rfl:k=l.length:=by omega
  rw [rd_snoc_eq];exact hr
theorem Reads.lsn {xs:List Int} {l:List RecS} {u:Nat} (h:Reads xs l u):LsnOk l:=by
 induction h with
 | nil=>intro k hk;simp at hk
 | snoc h hd h1 h2 h3 ih=>exact ih.snoc h1
theorem fromF_all {l:List RecS} {lsn:Int} (h:l.length≤65536) (hl:lsn≤1):fromF l lsn 100000=l:=by
 unfold fromF
 have hm:max lsn 1=1:=by omega
 rw [hm]
 by_cases hz:(l.length:Int) < 1
 ·have:l=[]:=List.length_eq_zero_iff.1 (by omega)
  subst this
  rw [if_pos (.inl (by decide))]
 ·rw [if_neg (by omega),show (min 100000 ((l.length:Int) - 1+1)).toNat=l.length by omega]
  show (l.drop 0).take l.length=l
  rw [List.drop_zero,List.take_length]
theorem keepR {w2 W:World} {g':Nat} {x y:Value} (hb:w2.heap[g']?=some (.cells #[x,y] 37 (0,0))) (hB:Below w2.heap.size w2 W):W.cell? ⟨g',0,none⟩=some x:=by
 have h:=(Chg.of_below hB (fun _=>False)).blk hb (fun h=>h)
 simp [World.cell?,h]
set_option maxHeartbeats 16000000 in
set_option maxRecDepth 100000 in
theorem walReads_ok (A:Option Addr) (c:Nat) (xs:List Int) (n:Int) (w:World) (hr:Kd.C (Kd.int .u8) w A xs.length xs) (hc:xs.length≤c) (hb:AllB xs) (hl:xs.length≤140737488355328) :
  Calls Try.prog 10 #[.slice A xs.length c,.int .i64 n] w fun e w'=>e=.returned (.bool true)∧Below w.heap.size w w':=by
 have hre:=read_ok A c xs w hr hc hb hl
 have HRR:=Aside0.mk (fun W (hB:Below w.heap.size w W)=>rread_ok A c xs W (Kd.C_below hr hB) hc hb hl)
 have HB0:=Aside0.mk hb
 clear hr hc hb hl
 go_enter Try.func10,Try.ntmps10
 go_upto_region 3 with (first
  | (go_at_call 35;(with_reducible refine hre.mono ?_);rintro e w1 ⟨g,l,u,rfl,hrd,hL,hB⟩;(have HB:=Aside0.mk hB);(have HL:=Aside0.mk hL);(have HRD:=Aside0.mk hrd);(have hrr:=HRR.out _ hB);clear hB hL hrd hre)
  | (go_at_call 38;(with_reducible refine hrr.mono ?_);rintro e w2 ⟨g',l',u',rfl,hrd,hL,hB⟩;obtain ⟨hl2,hu2⟩:=Reads.unique hrd.1 hrd.2 HRD.out.1 HRD.out.2;subst hl2 hu2;(replace HL:=Aside0.mk (HL.out.below hB));(have HL':=Aside0.mk hL);(replace HB:=Aside0.mk (below_from2 HB.out (Nat.le_refl _) hB));clear hB hL hrd hrr))
 obtain ⟨A2,c2,hb2,_,hc2,hC2⟩:=HL'.out.row
 have HBK:=Aside0.mk hb2
 have HC2:=Aside0.mk hC2
 have hll:=(HRD.out.1.len HB0.out).2
 have HLL:=Aside0.mk hll
 have HCC:=Aside0.mk hc2
 have hfa:=fromF_all (lsn:=0) hll (by omega)
 have HFA:=Aside0.mk hfa
 have HW:=Aside0.mk (Below.refl w2.heap.size w2)
 have hsm:=same_ok (HL.out.below (below_drew (Below.refl _ _))) (HL'.out.below (below_drew (Below.refl _ _))) hll HRD.out.1.lsn n
 have d1:((u':Int)==(u':Int))=true:=by simp
 clear hb2 hC2 hc2 hfa
 go_region_held3 (fun W=>W.cell? ⟨g',0,none⟩=some (.slice A2 l'.length c2))
  (first|(with_reducible exact keepR HBK.out HW.out)|(with_reducible exact keepR HBK.out (below_drew HW.out)))
  (first
   | (go_at_call 39;(with_reducible refine hsm.mono ?_);rintro e w3 ⟨rfl,hB⟩;(replace hB:=below_pastC hB);(replace HW:=Aside0.mk (below_from2 HW.out (Nat.le_refl _) hB));(have hfr:=from_ok (HL.out.below HW.out) (by have:=HLL.out;omega) 0 100000);rw [HFA.out] at hfr;clear hB hsm)
   | (go_at_call 18;(with_reducible refine hfr.mono ?_);rintro e w4 ⟨A1,c1,rfl,hR,hB⟩;(replace HW:=Aside0.mk (below_from2 HW.out (Nat.le_refl _) hB));(have hrs:=records_same A1 c1 A2 c2 l' w4 (Kd.R_reads' hR).2.2 (Kd.R_reads' hR).2.1 (Kd.C_below HC2.out HW.out) HCC.out (by have:=HLL.out;omega));clear hB hR hfr)
   | (go_at_call 17;(with_reducible refine hrs.mono ?_);rintro e w5 ⟨rfl,hB⟩;(replace HW:=Aside0.mk (below_from2 HW.out (Nat.le_refl _) hB));(have hsp:=speaks10_ok w5);clear hB hrs)
   | (go_at_call 37;(with_reducible refine hsp.mono ?_);rintro e w6 ⟨rfl,hB⟩;(replace HW:=Aside0.mk (below_from2 HW.out (Nat.le_refl _) hB));clear hB hsp))
 all_goals
  go_wp2
  go_ret
  exact ⟨rfl,below_from2 HB.out (Nat.le_refl _) HW.out⟩
end Go.Proofs.Ytgjibcfkjaedfaa.Wal

namespace Go.Proofs.Ytgjibcfkjaedfaa.Pr
open Go.RowKit Go.Proofs.YtgjibcfkjaedfaaW.PrintWords Go.Proofs.YtgjibcfkjaedfaaW.PrintLast Go.Proofs.YtgjibcfkjaedfaaW.PrintMore
attribute [local go_sem] max2_int min2_int max_two min_two max_three min_three max_four min_four
set_option linter.unusedVariables false
set_option linter.unusedSimpArgs false
noncomputable def latticelaw10_WalReads.f (a0:List Int) (a1:Int):Option Bool:=@ite _ (Back.AllB a0∧a0.length≤140737488355328) (Classical.propDecidable _) (some true) none
theorem latticelaw10_WalReads.calls (A0:Option Addr) (c0:Nat) (a0:List Int) (a1:Int) (r:Bool) (w:World) (hr0:Kd.C (Kd.int .u8) w A0 a0.length a0) (hc0:a0.length≤c0) (h:latticelaw10_WalReads.f a0 a1=some r) :
  Calls Try.prog 10 #[.slice A0 a0.length c0,.int .i64 a1] w fun e w'=>e=.returned (.bool r)∧Below w.heap.size w w':=by
 unfold latticelaw10_WalReads.f at h
 split at h
 ·rename_i hn
  injection h with h
  subst h
  exact Wal.walReads_ok A0 c0 a0 a1 w hr0 hc0 hn.1 hn.2
 ·cases h
end Go.Proofs.Ytgjibcfkjaedfaa.Pr

namespace Go.Proofs.Ytgjibcfkjaedfaa.Open
open Go.RowKit Go.ChangeShapes Go.WideShapes Go.Proofs.YtgjibcfkjaedfaaW.PrintWords
abbrev reachN:Nat:=140737488351232
structure Opn (P:Program) (t:TypeId) {α:Type} (d:Kd α) (g:α→Prop) (m:α→Nat):Prop where
 sz:P.cellsOf t=d.sz
 out:∀ (H:Type) (enc:TypeId×Value→H) (W:World) (n:Nat) (cs:List Value) (x:DataW H×List MemPlace),DataW.trod enc P W 0 (fun _=>true) true n t cs=some x →
  (∀ q ∈ x.1.weights P t,q≤reachN)→∃ y:α,d.K W y cs∧g y∧m y≤Rows.uptoBulk x.1
section
variable {P:Program} {t e:TypeId}
theorem opn_int {k:IntKind} (ht:P.underlying t=some (.int k)) (hc:P.cellsOf t=1):Opn P t (Kd.int k) (fun y=>(Lit.int k y).wf=true) (fun _=>1) where
 sz:=hc
 out:=by
  intro H enc W n cs x h _
  obtain ⟨y,rfl,rfl,hw⟩:=DataW.trod_int ht h
  exact ⟨y,rfl,hw,Nat.le_refl _⟩
theorem list_of {α:Type} (p:Nat→α→Prop):∀ len,(∀ i,i < len→∃ y,p i y)→∃ ys:List α,ys.length=len∧∀ i y,ys[i]?=some y→p i y
 | 0,_=>⟨[],rfl,fun i y h=>by simp at h⟩
 | len+1,h=>by
  obtain ⟨ys,hl,hy⟩:=list_of p len (fun i hi=>h i (by omega))
  obtain ⟨y,hp⟩:=h len (by omega)
  refine ⟨ys++[y],by simp [hl],fun i z hz=>?_⟩
  by_cases hi:i < len
  ·rw [List.getElem?_append_left (by omega)] at hz
   exact hy i z hz
  ·by_cases he:i=len
   ·subst he
    rw [List.getElem?_append_right (by omega),hl] at hz
    simp at hz
    subst hz
    exact hp
   ·rw [List.getElem?_eq_none (by simp;omega)] at hz
    cases hz
theorem bulk_sum {H α:Type} (m:α→Nat):∀ (ys:List α) (es:List (DataW H)),ys.length=es.length→(∀ (i:Nat) (y:α) (x:DataW H),ys[i]?=some y→es[i]?=some x→m y≤Rows.uptoBulk x)→(ys.map m).sum≤Rows.uptoBulkAll es
 | [],[],_,_=>by simp
 | [],_::_,h,_=>by simp at h
 | _::_,[],h,_=>by simp at h
 | y::ys,x::es,h,hm=>by
  have ih:=bulk_sum m ys es (by simpa using h) (fun i a b ha hb=>hm (i+1) a b (by simpa using ha) (by simpa using hb))
  have h0:=hm 0 y x rfl rfl
  simp only [List.map_cons,List.sum_cons,Rows.uptoBulkAll]
  omega
theorem addr_add (a:Addr) (x y:Nat):(a.add x).add y=a.add (x+y):=by
 by_cases hx:x=0
 ·subst hx;simp [Addr.add]
 ·by_cases hy:y=0
  ·subst hy;simp [Addr.add]
  ·simp [Addr.add,hx,hy,Nat.add_assoc]
theorem weights_all {H:Type} {P:Program} {e:TypeId}:∀ (es:List (DataW H)) (x:DataW H),x ∈ es→∀ q ∈ x.weights P e,q ∈ DataW.weightsAll P e es
 | [],_,h=>by simp at h
 | y::r,x,h=>by
  intro q hq
  simp only [DataW.weightsAll,List.mem_append]
  rcases List.mem_cons.1 h with rfl|h
  ·exact .inl hq
  ·exact .inr (weights_all r x h q hq)
theorem opn_slice {α:Type} {d:Kd α} {g:α→Prop} {m:α→Nat} {B:Nat} (ht:P.underlying t=some (.slice e)) (hc:P.cellsOf t=1) (hB:P.bytesOf e=B) (he:Opn P e d g m) :
  Opn P t (Kd.slice e d) (fun xs=>xs.length≤maxLen∧xs.length*B≤reachN∧∀ y ∈ xs,g y) (fun xs=>(xs.map m).sum+1) where
 sz:=hc
 out:=by
  intro H enc W n cs x h hq
  rcases DataW.trod_slice ht h with ⟨rfl,rfl⟩|⟨a,len,cap,elems,rest,n,_,rfl,rfl,hb,hl,hm,hlen,hel,hsp,_⟩
  ·exact ⟨[],⟨none,0,rfl,Nat.le_refl _,Kd.C_nil d W⟩,⟨by simp,by simp,by simp⟩,by simp [Rows.uptoBulk]⟩
  ·have hw:∀ q ∈ DataW.weightsAll P e (elems.map (·.1)),q≤reachN:=fun q hq'=>hq q (by simp only [DataW.weights,ht];exact List.mem_cons_of_mem _ (List.mem_append_left _ hq'))
   have h0:=hq (((elems.map (·.1)).length+(rest.map (·.1)).length)*P.bytesOf e) (by simp only [DataW.weights,ht];exact List.mem_cons_self)
   have each:∀ i,i < len→∃ y:α,∃ c:List Value,∃ z:DataW H×List MemPlace,elems[i]?=some z∧d.K W y c∧g y∧m y≤Rows.uptoBulk z.1∧∀ j u,c[j]?=some u→W.cell? (a.add (i*d.sz+j))=some u:=by
    intro i hi
    have h1:=hel i hi
    rw [List.getElem?_eq_getElem (by omega)] at h1
    obtain ⟨c,hcs,hx⟩:=Option.bind_eq_some_iff.1 h1
    obtain ⟨_,hcl,hcell⟩:=World.cells?_some hcs
    obtain ⟨y,hy,hg,hbk⟩:=he.out H enc W n c _ hx (fun q hq'=>hw q (weights_all _ _ (List.mem_map_of_mem (List.getElem_mem (by omega))) q hq'))
    refine ⟨y,c,_,List.getElem?_eq_getElem (by omega),hy,hg,hbk,fun j u hu=>?_⟩
    have hj:j < P.cellsOf e:=by
     have:=(List.getElem?_eq_some_iff.1 hu).1
     omega
    have h2:=hcell j hj
    rw [hu,he.sz,addr_add] at h2
    exact h2
   obtain ⟨ys,hyl,hys⟩:=list_of _ len each
   have hyl2:ys.length=elems.length:=by omega
   refine ⟨ys,⟨some a,cap,by rw [hyl],by omega,?_⟩,⟨by omega,?_,?_⟩,?_⟩
   ·refine ⟨rfl,by unfold maxLen at hm;omega,fun _=>⟨a,rfl,fun j p hp=>?_⟩⟩
    obtain ⟨c,z,_,hK,_,_,hcell⟩:=hys j p hp
    exact ⟨c,d.K_len hK,hK,hcell⟩
   ·rw [hB] at h0
    simp only [List.length_map] at h0
    have:ys.length*B≤(elems.length+rest.length)*B:=Nat.mul_le_mul_right _ (by omega)
    omega
   ·intro y hy
    obtain ⟨j,hj,rfl⟩:=List.getElem_of_mem hy
    obtain ⟨c,z,_,_,hg,_⟩:=hys j _ (List.getElem?_eq_getElem hj)
    exact hg
   ·have:=bulk_sum m ys (elems.map (·.1)) (by simp [hyl2]) (fun i y z hy hz=>by
     obtain ⟨c,z',h2,_,_,h3,_⟩:=hys i y hy
     rw [List.getElem?_map,h2] at hz
     simp at hz
     subst hz
     exact h3)
    simp only [Rows.uptoBulk]
    omega
end
theorem weights_at {H:Type} {P:Program} {ts:List TypeId} {ds:List (DataW H)} (h:(DataW.weightsEach P ts ds).all (·≤reachBytes)=true) {j:Nat} {t:TypeId} {d:DataW H} (ht:ts[j]?=some t) (hd:ds[j]?=some d):∀ q ∈ d.weights P t,q≤reachN:=by
 intro q hq
 have h1:=List.all_eq_true.1 h _ (DataW.weights_mem_each ht hd q hq)
 have h2:q≤reachBytes:=by simpa using h1
 exact h2
end Go.Proofs.Ytgjibcfkjaedfaa.Open

namespace Go.Proofs.Ytgjibcfkjaedfaa.Pr
open Go.RowKit Go.Proofs.YtgjibcfkjaedfaaW.PrintWords Go.Proofs.YtgjibcfkjaedfaaW.PrintLast
set_option linter.unusedVariables false in
def latticelaw10_WalReads.Stated:Prop:=∀ (a0:List Int) (a1:Int),((a0.length≤maxLen∧a0.length*1≤140737488351232∧∀ e ∈ a0,(Lit.int .u8 e).wf=true))→((Lit.int .i64 a1).wf=true)→latticelaw10_WalReads.f a0 a1=some true
end Go.Proofs.Ytgjibcfkjaedfaa.Pr

namespace Go.Proofs.Ytgjibcfkjaedfaa.Pure
open Go.RowKit Go.Proofs.Ytgjibcfkjaedfaa.Pr Go.Proofs.YtgjibcfkjaedfaaW.PrintWords Go.Proofs.YtgjibcfkjaedfaaW.PrintLast
theorem WalReads:latticelaw10_WalReads.Stated:=by
 intro a0 a1 h0 _
 unfold latticelaw10_WalReads.f
 rw [if_pos]
 refine ⟨?_,by have:=h0.2.1;omega⟩
 intro x hx
 have:=Go.bounds_u8 (h0.2.2 x hx)
 omega
end Go.Proofs.Ytgjibcfkjaedfaa.Pure

/- The law WalReads returns true at every input, and each argument reads afterwards as it read before: The log that any bytes begin with, and as far as which byte.
   Conditions: none but those that the row itself prints. Written by a program of this session over the kit's printer. -/
namespace Go.Proofs.Ytgjibcfkjaedfaa.walReads
open Go.ChangeShapes Go.WideShapes Go.ChangeAt Go.RowKit
open Go.ChangeMaps (open_string shut_string)
set_option linter.unusedVariables false
theorem own:ownKnob Try.prog.godebug=none:=by kernel_rfl
theorem laidOut:laidOutB Try.prog=true:=by kernel_rfl
set_option maxRecDepth 100000 in
theorem lifted (os:Os) (started:os.Started) (H:Type) (enc:TypeId×Value→H) :
  ReturnsInHanded {} Try.checked os 10 .any (Rows.walReadsSpec.pre6 enc Try.prog Try.f10 Rows.walReadsRow.domain false) (Rows.walReadsSpec.post enc Try.prog Try.f10 false true false false):=by
 refine returnsInHanded_of_change_sized (C:=Try.checked) own started (by kernel_rfl) Try.func10
  (ChangeSpec.witness6 (enc:=enc) (C:=Try.checked) false ⟨#[],#[.slice none 0 0,.int .i64 0],[]⟩ 8 (by kernel_rfl) (by kernel_rfl) (by kernel_rfl) (by kernel_rfl)) ?_
 intro W base args ds gs before hval0 hW hcnd hsz0 _
 have hsz:(DataW.weightsEach Try.prog (Try.f10.params.toList++Rows.walReadsSpec.plain.varTypes Try.prog) (ds++gs)).all (·≤reachBytes)=true:=hsz0
 have hval:∀ (j:Nat) t v,Try.f10.params[j]?=some t→args[j]?=some v→Value.okWide Try.prog W .any base t v:=hval0
 have hW':=hW
 obtain ⟨p,q,hA0,hV,rfl,hfz,hnd⟩:=hW
 have hA:DataW.TrodAll enc Try.prog W 0 (fun _=>true) true Try.f10.params.toList args.toList ds p:=hA0
 rw [Try.params10] at hA hval hsz
 obtain ⟨v0,vs0,d0,ds0,p0,q0,hargs,rfl,rfl,h0,r0⟩:=trodAll_cons hA
 obtain ⟨v1,vs1,d1,ds1,p1,q1,rfl,rfl,rfl,h1,r1⟩:=trodAll_cons r0
 obtain ⟨rfl,rfl,rfl⟩:=trodAll_nil r1
 obtain rfl:args=#[v0,v1]:=by cases args;simp_all
 obtain ⟨rfl,rfl⟩:=trodVars_none hV
 have k0:=h0
 have lt0:∀ x ∈ p0,x.block < W.heap.size:=by obtain ⟨m,hm⟩:=k0;exact DataW.trod_lt m _ _ _ hm
 obtain ⟨n0,hf0⟩:=h0
 obtain ⟨y0,K0,g0,m0⟩:=(Open.opn_slice (B:=1) Try.underlying67 (by kernel_rfl) (by kernel_rfl) (Open.opn_int Try.underlying5 (by kernel_rfl))).out H enc W n0 _ _ hf0 (Open.weights_at hsz (j:=0) (t:=67) rfl rfl)
 obtain ⟨a0,len0,cap0,rfl⟩:=okWide_slice Try.underlying67 (hval 0 67 v0 rfl rfl)
 obtain ⟨A0,c0,e0,hc0,hr0⟩:=K0
 simp only [Value.cells,List.cons.injEq,Value.slice.injEq,and_true] at e0
 obtain ⟨rfl,rfl,rfl⟩:=e0
 have k1:=h1
 obtain ⟨y1,rfl,rfl,rfl,g1⟩:=open_int Try.underlying3 (hval 1 3 v1 rfl rfl) h1
 clear hA0 hval0 hsz0 hsz
 have hk:=Pure.WalReads y0 y1 g0 g1
 refine (Pr.latticelaw10_WalReads.calls _ _ y0 y1 true W hr0 hc0 hk).mono fun e W' ⟨he,bel0⟩=>?_
 have bel:Below W.heap.size W W':=bel0
 subst he
 exact ⟨_,rfl,_,_,_,[],_,[],hW',trodAll_mk1 (shut_bool Try.underlying4 _),(trodAll_cons_mk (Below.trod laidOut (by kernel_rfl) (of_decide_eq_true (by kernel_rfl)) k0 bel lt0) (trodAll_cons_mk (shut_int Try.underlying3 g1) trodAll_mk0)),rfl,bel.frame _,fun h=>by cases h⟩
theorem over:Rows.walReadsRow.holds Try.pinned (OpenSpec.ofChange Rows.walReadsSpec) :=
 OpenClaim.holds_of_wide 10 Try.f10 rfl rfl rfl rfl rfl rfl rfl ⟨rfl,rfl,rfl,rfl,rfl⟩ rfl rfl rfl rfl rfl (by kernel_rfl) Try.func10 (by kernel_rfl)
  (of_decide_eq_true (by kernel_rfl)) (by unfold Func.isWrapper;first|(rw [if_pos (by decide +kernel)];kernel_rfl)|(rw [if_neg (by decide +kernel)];exact ⟨rfl,rfl⟩))
  (fun os started H enc _=>lifted os started H enc)
theorem proved:Rows.WalReadsSaid:=over
#print axioms proved
end Go.Proofs.Ytgjibcfkjaedfaa.walReads
namespace Go.Proofs.Ytgjibcfkjaedfaa
theorem walReads_holds:Rows.WalReadsSaid:=walReads.proved
end Go.Proofs.Ytgjibcfkjaedfaa
