-- Parts melded by a program of this session.
import Derived.Below
import Derived.Deep.Draws
import Derived.Deep.AppendLies
import Derived.Maps.AppendAt
import Derived.OwnWalk
import Derived.Laws.BytesArg
import Derived.Laws.MakeOwn
import Derived.Laws.OwnMore
import Derived.Deep.OwnRows
import Derived.Tactics
import Derived.Lib.ConvBytes
import Derived.Laws.Slices
import Derived.WalkKit
import Derived.KernelRfl
import Derived.RowKit3
import Derived.Deep.LoopGhost
import Derived.Deep.QuietTactic
import Derived.BigQuiet
import Derived.WideLaws
import Derived.Deep.DeepCutAuto
import Derived.Deep.CutBlock
import Derived.Deep.RegionHeld3
import Derived.Laws.Rows
import Derived.Lib.AppendStr
import Derived.ArgAppend
import Derived.Laws.IdiomCopy
import Derived.RowKit
import Derived.Test.YteipehiiaggenaaTRecordDecodesWWords
import Derived.OrdersHeld
import Derived.Laws.BitsLemmas
import Derived.Test.YteipehiiaggenaaTRecordDecodesWRest
import Derived.Laws.StructEq
import Derived.Test.YteipehiiaggenaaProg
import Derived.Shelf.Abstract
import Derived.Test.YteipehiiaggenaaTRecordDecodesPrx0
import Derived.OneCell
import Derived.Lib.SliceRun
import Derived.Test.YteipehiiaggenaaTRecordDecodesWire
import Derived.RangeFuncBox
import Derived.RangeFuncLeaves
import Derived.OwnWalkIn
import Derived.TacticsInMore
import Derived.LoopNIn
import Derived.LoopIn
import Derived.Lib.Hide
import Derived.Test.YteipehiiaggenaaTRecordDecodesBack
import Derived.Outline
import Derived.Test.YteipehiiaggenaaTRecordDecodesRead
import Derived.Test.YteipehiiaggenaaTRecordDecodesFrom
import Derived.Test.YteipehiiaggenaaTRecordDecodesNd
import Derived.Laws.BitsAllLaws
import Derived.Test.YteipehiiaggenaaTRecordDecodesCrc
import Derived.Test.YteipehiiaggenaaTRecordDecodesPrx4
import Derived.Test.YteipehiiaggenaaTRecordDecodesCrcRef
import Derived.Test.YteipehiiaggenaaTRecordDecodesPureNode
import Derived.Deep.RegionLaw
import Derived.Laws.CopyOwn
import Derived.Test.YteipehiiaggenaaTRecordDecodesPageEnc
import Derived.Test.YteipehiiaggenaaTRecordDecodesPageFit
import Derived.Test.YteipehiiaggenaaTRecordDecodesPageRd
import Derived.Test.YteipehiiaggenaaTRecordDecodesPageNode
import Derived.Test.YteipehiiaggenaaTRecordDecodesPageDec
import Derived.Test.YteipehiiaggenaaTRecordDecodesPageRt
import Derived.Test.YteipehiiaggenaaTRecordDecodesRefRd
import Derived.Test.YteipehiiaggenaaTRecordDecodesPageRef
import Derived.Test.YteipehiiaggenaaTRecordDecodesRecImg
import Derived.Test.YteipehiiaggenaaTRecordDecodesRecRgt
import Derived.Lib.SlBytesConst
import Derived.StillTailTactics
import Derived.Test.YteipehiiaggenaaTRecordDecodesRecV
import Derived.Test.YteipehiiaggenaaTRecordDecodesPrx2
import Derived.Test.YteipehiiaggenaaTRecordDecodesPrx1
import Derived.Test.YteipehiiaggenaaTRecordDecodesPrx6
import Derived.Test.YteipehiiaggenaaTRecordDecodesRecChkP
import Derived.Test.YteipehiiaggenaaTRecordDecodesRecChkA
import Derived.Test.YteipehiiaggenaaTRecordDecodesRecChkB
import Derived.Test.YteipehiiaggenaaTRecordDecodesRecChkC
import Derived.Test.YteipehiiaggenaaTRecordDecodesRecChkD
import Derived.Test.YteipehiiaggenaaTRecordDecodesRecChk
import Derived.Test.YteipehiiaggenaaTRecordDecodesRecEnc
import Derived.Test.YteipehiiaggenaaTRecordDecodesRecRead
import Derived.Test.YteipehiiaggenaaTRecordDecodesRecDec
import Derived.Test.YteipehiiaggenaaTRecordDecodesRecRefDec
import Derived.Test.YteipehiiaggenaaTRecordDecodesRecLaw
import Derived.Test.YteipehiiaggenaaRows
import Derived.OpenShut
import Derived.SizedLaws
import Derived.ChangeArms
import Derived.ChangeOld
import Derived.DataReads
import Derived.Test.YteipehiiaggenaaTRecordDecodesOpen
import Derived.ProofKit
import Derived.ShutString
import Derived.Carry
set_option linter.unusedVariables false
set_option linter.unusedSimpArgs false
namespace Go.Proofs.YteipehiiaggenaaW.PrintWords
open Go.RowKit
theorem ReadsRow.get_ {α:Type} {R:α→List Value→Prop} {size:Nat} {w:World} {A:Option Addr} {n:Nat} {ps:List α} (h:ReadsRow R size w A n ps) (d:α) (i:Int) (h0:0≤i) (h1:i < n) :
    ∃ ad c,A=some ad∧c.length=size∧R (ps.getD i.toNat d) c∧∀ j u,c[j]?=some u→w.cell? (ad.add (i.toNat*size+j))=some u:=by
  obtain ⟨ad,e,hc⟩:=h.2.2 (by omega)
  have hl:i.toNat < ps.length:=by have:=h.1;omega
  obtain ⟨c,hs,hr,hcell⟩:=hc i.toNat _ (List.getElem?_eq_getElem hl)
  refine ⟨ad,c,e,hs,?_,hcell⟩
  rw [List.getD_eq_getElem?_getD,List.getElem?_eq_getElem hl]
  exact hr
theorem add_field (ad:Addr) (m j:Nat) (hj:0 < j):ad.add (m+j)=⟨(ad.add m).block,(ad.add m).off+j,none⟩:=by
  unfold Addr.add
  by_cases hm:m=0
  · subst hm
    simp [Nat.ne_of_gt hj]
  · simp [hm,Nat.add_assoc]
section
variable {P:Program} {ops:Array Oper} {rest:List Oper} {o:Oper} {a:Act} {Q:Exit→Act→World→Prop}
end
section
variable {P:Program} {ops:Array Oper} {o:Oper} {a:Act} {Q:Exit→Act→World→Prop} {K:Act→World→Prop}
end
section
variable {α:Type} {enc:α→Value} {d:α}
end
section
variable {α:Type} {P:Program} {ops:Array Oper} {rest:List Oper} {o:Oper} {a:Act} {Q:Exit→Act→World→Prop}
end
section
variable {P:Program}
end
section
variable {α:Type} {R R':α→List Value→Prop} {e:TypeId} {size:Nat} {w w1:World} {base:Nat} {v:Value} {ps:List α}
end
section
variable {P:Program} {ops:Array Oper} {rest:List Oper} {o:Oper} {a:Act} {Q:Exit→Act→World→Prop} {α:Type} {R:α→List Value→Prop}
end
namespace Kd
section
variable {α:Type} {d:Kd α} {e:Nat} {w w1:World} {base:Nat} {ok ok':Nat→Prop} {v:Value} {xs:List α}
end
def pair {α β:Type} (a:Kd α) (b:Kd β):Kd (α×β) where
  sz:=a.sz+b.sz
  E:=a.E++b.E
  K:=fun w x cs=>∃ c0 c1,cs=c0++c1∧a.K w x.1 c0∧b.K w x.2 c1
  M:=fun w base ok x cs=>∃ c0 c1,cs=c0++c1∧a.M w base ok x.1 c0∧b.M w base ok x.2 c1
  K_len:=by
    rintro w x cs ⟨c0,c1,rfl,h0,h1⟩
    rw [List.length_append,a.K_len h0,b.K_len h1]
  K_one:=by
    rintro w x cs ⟨c0,c1,rfl,h0,h1⟩ u hu
    rcases List.mem_append.1 hu with hu|hu
    · exact a.K_one h0 u hu
    · exact b.K_one h1 u hu
  K_below:=by
    rintro w w1 x cs hb ⟨c0,c1,rfl,h0,h1⟩
    exact ⟨c0,c1,rfl,a.K_below hb h0,b.K_below hb h1⟩
  K_of_M:=by
    rintro w base ok x cs ⟨c0,c1,rfl,h0,h1⟩
    exact ⟨c0,c1,rfl,a.K_of_M h0,b.K_of_M h1⟩
  M_mono:=by
    rintro w base ok ok' x cs hok ⟨c0,c1,rfl,h0,h1⟩
    exact ⟨c0,c1,rfl,a.M_mono hok h0,b.M_mono hok h1⟩
  M_bound:=by
    rintro w base ok x cs ⟨c0,c1,rfl,h0,h1⟩
    refine ⟨c0,c1,rfl,a.M_mono ?_ (a.M_bound h0),b.M_mono ?_ (b.M_bound h1)⟩
    · rintro k ⟨h2,h3,h4,q,hq,hc⟩
      exact ⟨h2,h3,h4,q,List.mem_append_left _ hq,hc⟩
    · rintro k ⟨h2,h3,h4,q,hq,hc⟩
      exact ⟨h2,h3,h4,q,List.mem_append_right _ hq,hc⟩
  M_move:=by
    rintro w w1 base ok x cs hm ⟨c0,c1,rfl,h0,h1⟩
    exact ⟨c0,c1,rfl,a.M_move hm h0,b.M_move hm h1⟩
  M_lower:=by
    rintro w base base' ok x cs hb ⟨c0,c1,rfl,h0,h1⟩
    exact ⟨c0,c1,rfl,a.M_lower hb h0,b.M_lower hb h1⟩
def iso {α β:Type} (d:Kd α) (f:β→α):Kd β where
  sz:=d.sz
  E:=d.E
  K:=fun w x cs=>d.K w (f x) cs
  M:=fun w base ok x cs=>d.M w base ok (f x) cs
  K_len:=d.K_len
  K_one:=d.K_one
  K_below:=d.K_below
  K_of_M:=d.K_of_M
  M_mono:=d.M_mono
  M_bound:=d.M_bound
  M_move:=d.M_move
  M_lower:=d.M_lower
theorem C_get {α:Type} {d:Kd α} {w:World} {A:Option Addr} {n:Nat} {xs:List α} (h:d.C w A n xs) (z:α) (i:Int) (h0:0≤i) (h1:i < n) :
    ∃ ad c,A=some ad∧c.length=d.sz∧d.K w (xs.getD i.toNat z) c∧∀ j u,c[j]?=some u→w.cell? (ad.add (i.toNat*d.sz+j))=some u:=ReadsRow.get_ h z i h0 h1
section
variable {P:Program} {ops:Array Oper} {rest:List Oper} {o:Oper} {a:Act} {Q:Exit→Act→World→Prop} {α:Type}
end
section
variable {P:Program} {ops:Array Oper} {o:Oper} {a:Act} {Q:Exit→Act→World→Prop} {Kc:Act→World→Prop} {α:Type}
end
end Kd
namespace Kd
section
variable {α β:Type} {d:Kd α} {d':Kd β} {e e':Nat} {w w1 W:World} {base b b':Nat} {ok ok' okv oku:Nat→Prop} {v u:Value} {xs:List α} {ys:List β}
theorem R_over (h:d.R e W b ok u xs) (hv:d'.R e' W b' ok' v ys) (ht:∀ q,q ∈ e::d.E→q≠e') (hg:W.grownBy w1 v.ownBlock):d.R e w1 b ok u xs:=by
  obtain ⟨inner,ho⟩:=R_own hv
  refine R_mono (R_move (R_bound h) (fun k hk=>hg.block k hk.2.2.1 (fun he=>?_))) (fun _ hk=>hk.1)
  obtain ⟨_,_,_,q,hq,cells,hc⟩:=hk
  obtain ⟨cells',hc'⟩:=own_typed ho k he.symm
  rw [hc] at hc'
  injection hc' with hc'
  injection hc' with _ hc'
  exact ht q hq hc'
end
section
variable {w W:World} {A:Option Addr} {n:Nat}
end
end Kd
section
variable {P:Program}
end
namespace Kd
end Kd
namespace Kd
section
variable {α:Type} {d:Kd α} {e e':Nat} {w w1 W:World} {base:Nat} {ok:Nat→Prop} {u v:Value} {xs:List α}
theorem R_typed (h:d.R e w base ok v xs):∀ k,v.ownBlock=some k→∃ cells,w.heap[k]?=some (.cells cells e (0,0)):=by
  obtain ⟨inner,ho⟩:=R_own h
  exact fun k hk=>own_typed ho k hk
end
end Kd
namespace Kd
section
variable {α:Type} {k:Kd α} {w:World} {A:Option Addr} {xs:List α} {m c:Nat}
end
end Kd
section
variable {P:Program}
end
section
variable {P:Program} {ops:Array Oper} {rest:List Oper} {o:Oper} {a:Act} {Q:Exit→Act→World→Prop}
end
end Go.Proofs.YteipehiiaggenaaW.PrintWords

namespace Go.Proofs.Yteipehiiaggenaa.Pr
open Go.RowKit Go.Proofs.YteipehiiaggenaaW.PrintWords Go.Proofs.YteipehiiaggenaaW.PrintLast Go.Proofs.YteipehiiaggenaaW.PrintMore
attribute [local go_sem] max2_int min2_int max_two min_two max_three min_three max_four min_four
set_option linter.unusedVariables false
set_option linter.unusedSimpArgs false
attribute [go_sem] bo_string_leq bo_string_gtr bo_string_geq
structure S23 where
 f0:Int
 f1:Int
 f2:Int
 f3:Int
 f4:Int
 f5:Int
 f6:ByteArray
 f7:ByteArray
def z23:S23:=⟨(0:Int),(0:Int),(0:Int),(0:Int),(0:Int),(0:Int),(⟨#[]⟩:ByteArray),(⟨#[]⟩:ByteArray)⟩
def k23:Kd S23:=Kd.iso (Kd.pair (Kd.int .i64) (Kd.pair (Kd.int .i64) (Kd.pair (Kd.int .i64) (Kd.pair (Kd.int .i64) (Kd.pair (Kd.int .i64) (Kd.pair (Kd.int .i64) (Kd.pair Kd.string Kd.string))))))) (fun x:S23=>(x.f0,x.f1,x.f2,x.f3,x.f4,x.f5,x.f6,x.f7))
theorem k23_open {w:World} {x:S23} {cs:List Value} (h:k23.K w x cs):cs=[.int .i64 x.f0,.int .i64 x.f1,.int .i64 x.f2,.int .i64 x.f3,.int .i64 x.f4,.int .i64 x.f5,.string x.f6,.string x.f7]:=by
 obtain ⟨_,_,rfl,rfl,⟨_,_,rfl,rfl,⟨_,_,rfl,rfl,⟨_,_,rfl,rfl,⟨_,_,rfl,rfl,⟨_,_,rfl,rfl,⟨_,_,rfl,rfl,rfl⟩⟩⟩⟩⟩⟩⟩:=h
 exact rfl
theorem k23_mkM (w:World) (base:Nat) (ok:Nat→Prop) (x:S23)  : k23.M w base ok x [.int .i64 x.f0,.int .i64 x.f1,.int .i64 x.f2,.int .i64 x.f3,.int .i64 x.f4,.int .i64 x.f5,.string x.f6,.string x.f7]:=⟨[.int .i64 x.f0],[.int .i64 x.f1,.int .i64 x.f2,.int .i64 x.f3,.int .i64 x.f4,.int .i64 x.f5,.string x.f6,.string x.f7],rfl,rfl,⟨[.int .i64 x.f1],[.int .i64 x.f2,.int .i64 x.f3,.int .i64 x.f4,.int .i64 x.f5,.string x.f6,.string x.f7],rfl,rfl,⟨[.int .i64 x.f2],[.int .i64 x.f3,.int .i64 x.f4,.int .i64 x.f5,.string x.f6,.string x.f7],rfl,rfl,⟨[.int .i64 x.f3],[.int .i64 x.f4,.int .i64 x.f5,.string x.f6,.string x.f7],rfl,rfl,⟨[.int .i64 x.f4],[.int .i64 x.f5,.string x.f6,.string x.f7],rfl,rfl,⟨[.int .i64 x.f5],[.string x.f6,.string x.f7],rfl,rfl,⟨[.string x.f6],[.string x.f7],rfl,rfl,rfl⟩⟩⟩⟩⟩⟩⟩
def rd_T23 (xs:List S23) (i:Int):S23:=xs.getD i.toNat z23
theorem at_T23 {w:World} {A:Option Addr} {n:Nat} {xs:List S23} (h:Kd.C k23 w A n xs) (i:Int) (h0:0≤i) (h1:i < n):∃ ad , A=some ad∧w.cell? (ad.add (i.toNat*8))=some (.int .i64 (rd_T23 xs i).f0)∧w.cell? ⟨(ad.add (i.toNat*8)).block,(ad.add (i.toNat*8)).off+1,none⟩=some (.int .i64 (rd_T23 xs i).f1)∧w.cell? ⟨(ad.add (i.toNat*8)).block,(ad.add (i.toNat*8)).off+2,none⟩=some (.int .i64 (rd_T23 xs i).f2)∧w.cell? ⟨(ad.add (i.toNat*8)).block,(ad.add (i.toNat*8)).off+3,none⟩=some (.int .i64 (rd_T23 xs i).f3)∧w.cell? ⟨(ad.add (i.toNat*8)).block,(ad.add (i.toNat*8)).off+4,none⟩=some (.int .i64 (rd_T23 xs i).f4)∧w.cell? ⟨(ad.add (i.toNat*8)).block,(ad.add (i.toNat*8)).off+5,none⟩=some (.int .i64 (rd_T23 xs i).f5)∧w.cell? ⟨(ad.add (i.toNat*8)).block,(ad.add (i.toNat*8)).off+6,none⟩=some (.string (rd_T23 xs i).f6)∧w.cell? ⟨(ad.add (i.toNat*8)).block,(ad.add (i.toNat*8)).off+7,none⟩=some (.string (rd_T23 xs i).f7):=by
 obtain ⟨ad,c,e,_,hK,hc0⟩:=Kd.C_get h z23 i h0 h1
 have hc:∀ j u,c[j]?=some u→w.cell? (ad.add (i.toNat*8+j))=some u:=hc0
 obtain rfl:=k23_open hK
 exact ⟨ad,e,hc 0 _ rfl,by rw [← add_field _ _ 1 (by omega)];exact hc 1 _ rfl,by rw [← add_field _ _ 2 (by omega)];exact hc 2 _ rfl,by rw [← add_field _ _ 3 (by omega)];exact hc 3 _ rfl,by rw [← add_field _ _ 4 (by omega)];exact hc 4 _ rfl,by rw [← add_field _ _ 5 (by omega)];exact hc 5 _ rfl,by rw [← add_field _ _ 6 (by omega)];exact hc 6 _ rfl,by rw [← add_field _ _ 7 (by omega)];exact hc 7 _ rfl⟩
end Go.Proofs.Yteipehiiaggenaa.Pr

namespace Go.Proofs.Yteipehiiaggenaa.Rec
open Go.RowKit Go.Proofs.YteipehiiaggenaaW.PrintWords Go.Proofs.YteipehiiaggenaaW.PrintLast Go.Proofs.YteipehiiaggenaaW.PrintMore Go.Proofs.Yteipehiiaggenaa.Wire Go.Proofs.Yteipehiiaggenaa.Crc Go.Proofs.Yteipehiiaggenaa.Pr Go.Proofs.Yteipehiiaggenaa.Page
open Go.Proofs.Yteipehiiaggenaa.Back (AllB)
open Go.Proofs.Yteipehiiaggenaa.Pure
set_option linter.unusedVariables false
set_option linter.unusedSimpArgs false
theorem neqRc (W:World) (a1 a2 a3 a4 a5 a6:Int) (a7 a8:ByteArray):(binOp .neq 23 (.agg #[.int .i64 a1,.int .i64 a2,.int .i64 a3,.int .i64 a4,.int .i64 a5,.int .i64 a6,.string a7,.string a8]) (.agg #[.int .i64 a1,.int .i64 a2,.int .i64 a3,.int .i64 a4,.int .i64 a5,.int .i64 a6,.string a7,.string a8])).run Try.prog W=.ok (.bool false) W:=by
 rw [run_neq_struct,eqA_of (d:=9999) (r:=(a1==a1&&(a2==a2&&(a3==a3&&(a4==a4&&(a5==a5&&(a6==a6&&(a7.toList==a7.toList&&a8.toList==a8.toList)))))))) Try.underlying23 (by kernel_rfl)]
 ·simp
 ·exact eqf_cons (a:=.int .i64 a1) (b:=.int .i64 a1) (by decide) (by kernel_rfl) (by kernel_rfl) (by kernel_rfl) (eqf_cons (a:=.int .i64 a2) (b:=.int .i64 a2) (by decide) (by kernel_rfl) (by kernel_rfl) (by kernel_rfl) (eqf_cons (a:=.int .i64 a3) (b:=.int .i64 a3) (by decide) (by kernel_rfl) (by kernel_rfl) (by kernel_rfl) (eqf_cons (a:=.int .i64 a4) (b:=.int .i64 a4) (by decide) (by kernel_rfl) (by kernel_rfl) (by kernel_rfl) (eqf_cons (a:=.int .i64 a5) (b:=.int .i64 a5) (by decide) (by kernel_rfl) (by kernel_rfl) (by kernel_rfl) (eqf_cons (a:=.int .i64 a6) (b:=.int .i64 a6) (by decide) (by kernel_rfl) (by kernel_rfl) (by kernel_rfl) (eqf_cons (a:=.string a7) (b:=.string a7) (by decide) (by kernel_rfl) (by kernel_rfl) (by exact run_equalIn_string W 9998 9 a7 a7 Try.underlying9) (eqf_last (a:=.string a8) (b:=.string a8) (by decide) (by kernel_rfl) (by kernel_rfl) (by exact run_equalIn_string W 9998 9 a8 a8 Try.underlying9))))))))
end Go.Proofs.Yteipehiiaggenaa.Rec

namespace Go.Proofs.Yteipehiiaggenaa.Rec
open Go.RowKit Go.Proofs.YteipehiiaggenaaW.PrintWords Go.Proofs.YteipehiiaggenaaW.PrintLast Go.Proofs.YteipehiiaggenaaW.PrintMore Go.Proofs.Yteipehiiaggenaa.Wire Go.Proofs.Yteipehiiaggenaa.Crc Go.Proofs.Yteipehiiaggenaa.Pr Go.Proofs.Yteipehiiaggenaa.Page
open Go.Proofs.Yteipehiiaggenaa.Back (AllB)
open Go.Proofs.Yteipehiiaggenaa.Pure
set_option linter.unusedVariables false
set_option linter.unusedSimpArgs false
abbrev RecS:=S23
abbrev kRec:Kd RecS:=k23
abbrev toV (x:RecS):RecV:=(x.f0,x.f1,x.f2,x.f3,x.f4,x.f5,x.f6,x.f7)
theorem infoRec:(Try.prog.info? 23).map (fun i=>(i.zero,i.size,i.bytes))=some (some (.agg #[.int .i64 0,.int .i64 0,.int .i64 0,.int .i64 0,.int .i64 0,.int .i64 0,.string ⟨#[]⟩,.string ⟨#[]⟩]),8,80):=by kernel_rfl
abbrev RRec (w:World) (b:Nat) (v:Value) (xs:List RecS):Prop:=Kd.R kRec 23 w b (fun _=>True) v xs
abbrev RByt (w:World) (b:Nat) (v:Value) (xs:List Int):Prop:=Kd.R (Kd.int .u8) 5 w b (fun _=>True) v xs
theorem rec_E (q:Nat) (hq:q ∈ 23::kRec.E):q=23:=by
 simpa [kRec,k23,Kd.iso,Kd.pair,Kd.int,Kd.string,Kd.scalar] using hq
theorem byt_E (q:Nat) (hq:q ∈ 5::(Kd.int .u8).E):q=5:=by
 simpa [Kd.int,Kd.scalar] using hq
theorem RRec.over {w w1:World} {b b':Nat} {u v:Value} {xs:List RecS} {ys:List Int} (h:RRec w b u xs) (hv:RByt w b' v ys) (hg:w.grownBy w1 v.ownBlock):RRec w1 b u xs :=
 Kd.R_over h hv (fun q hq=>by rw [rec_E q hq];decide) hg
theorem RByt.over {w w1:World} {b b':Nat} {u v:Value} {xs:List RecS} {ys:List Int} (h:RByt w b v ys) (hv:RRec w b' u xs) (hg:w.grownBy w1 u.ownBlock):RByt w1 b v ys :=
 Kd.R_over h hv (fun q hq=>by rw [byt_E q hq];decide) hg
theorem framesB_length {f:RecS→List Int} {m:Nat}:∀ {rs:List RecS},(∀ x ∈ rs,(f x).length≤m)→(rs.flatMap f).length≤m*rs.length
 | [],_=>by simp
 | x::rs,h=>by
  have h1:=h x (List.mem_cons_self ..)
  have h2:=framesB_length (rs:=rs) (fun y hy=>h y (List.mem_cons_of_mem _ hy))
  rw [List.flatMap_cons,List.length_append,List.length_cons,Nat.mul_succ]
  omega
def frs (rs:List RecS):List Int:=rs.flatMap (fun x=>frameB (toV x))
def allR (rs:List RecS):Prop:=∀ x ∈ rs,rightV (toV x)=true
theorem frs_snoc (rs:List RecS) (x:RecS):frs (rs++[x])=frs rs++frameB (toV x):=by
 unfold frs
 simp
theorem frs_length {rs:List RecS} (h:allR rs):(frs rs).length≤315*rs.length:=by
 refine framesB_length (fun x hx=>?_)
 rw [frame_length]
 have:=(fits_of (h x hx)).2
 omega
theorem frs_allB (rs:List RecS):AllB (frs rs):=by
 intro y hy
 unfold frs at hy
 rw [List.mem_flatMap] at hy
 obtain ⟨x,_,hx⟩:=hy
 exact frame_allB _ y hx
theorem allR_snoc {rs:List RecS} {x:RecS} (h:allR rs) (hx:rightV (toV x)=true):allR (rs++[x]):=by
 intro y hy
 rcases List.mem_append.1 hy with hy|hy
 ·exact h y hy
 ·rw [List.mem_singleton] at hy
  rw [hy];exact hx
theorem frs_drop {rs:List RecS} {k:Nat} (hk:k < rs.length):frs (rs.drop k)=frameB (toV (rd_T23 rs (k:Int)))++frs (rs.drop (k+1)):=by
 have e:rs.drop k=rs[k]::rs.drop (k+1):=List.drop_eq_getElem_cons hk
 have e2:rd_T23 rs (k:Int)=rs[k]:=by
  unfold rd_T23
  rw [Int.toNat_natCast,List.getD_eq_getElem?_getD,List.getElem?_eq_getElem hk]
  rfl
 rw [e2,e]
 unfold frs
 rw [List.flatMap_cons]
theorem rd_rec_mem {rs:List RecS} {k:Nat} (hk:k < rs.length):rd_T23 rs (k:Int) ∈ rs:=by
 unfold rd_T23
 rw [Int.toNat_natCast,List.getD_eq_getElem?_getD,List.getElem?_eq_getElem hk]
 exact List.getElem_mem _
theorem cut_rest {A:Option Addr} {c n m:Nat} (hm:m≤n):∃ A':Option Addr,(∀ W:World,(Instr.slice 24 (.slice A n c) (some (.int .i64 (m:Int))) none none).run Try.prog W=.ok (.slice A' (n - m) (c - m)) W)∧∀ (W:World) (xs:List Int),xs.length=n→n≤c→Kd.C (Kd.int .u8) W A n xs→Kd.C (Kd.int .u8) W A' (n - m) (xs.drop m):=by
 refine ⟨if c=m then A else A.map (·.add (m*1)),fun W=>?_,fun W xs hl hc h=>?_⟩
 ·have h:=cut_from (P:=Try.prog) 24 5 .i64 Try.underlying24 (info_parts info8).choose_spec.1 1 (info_parts info8).choose_spec.2.2.1 A n c (m:Int) (by omega) (by omega) W
  rw [Int.toNat_natCast] at h
  exact h
 ·subst hl
  have h1:=Kd.C_drop h hm hc
  rw [List.length_drop] at h1
  exact h1
end Go.Proofs.Yteipehiiaggenaa.Rec

namespace Go.Proofs.Yteipehiiaggenaa.Rec
open Go.RowKit Go.Proofs.YteipehiiaggenaaW.PrintWords Go.Proofs.YteipehiiaggenaaW.PrintLast Go.Proofs.YteipehiiaggenaaW.PrintMore Go.Proofs.Yteipehiiaggenaa.Wire Go.Proofs.Yteipehiiaggenaa.Crc Go.Proofs.Yteipehiiaggenaa.Pr Go.Proofs.Yteipehiiaggenaa.Page
open Go.Proofs.Yteipehiiaggenaa.Back (AllB)
open Go.Proofs.Yteipehiiaggenaa.Pure
set_option linter.unusedVariables false
set_option linter.unusedSimpArgs false
def RowIn (w:World) (n:Nat) (v3 v4 v16:Value) (wr:World):Prop :=
 ∃ (k:Nat) (A3:Option Addr) (c3:Nat) (A4:Option Addr) (c4:Nat) (bs:List Int) (rs:List RecS),k≤n∧v16=.int .i64 k∧v3=.slice A3 bs.length c3∧v4=.slice A4 rs.length c4∧Aside0 (bs=frs rs∧allR rs∧rs.length≤k∧k≤300)∧Aside0 (RByt wr w.heap.size (.slice A3 bs.length c3) bs)∧Aside0 (RRec wr w.heap.size (.slice A4 rs.length c4) rs)∧Aside0 (Below w.heap.size w wr)
def RowOut (w:World) (v3 v4:Value) (wr:World):Prop :=
 ∃ (A3:Option Addr) (c3:Nat) (A4:Option Addr) (c4:Nat) (bs:List Int) (rs:List RecS),v3=.slice A3 bs.length c3∧v4=.slice A4 rs.length c4∧Aside0 (bs=frs rs∧allR rs∧rs.length≤300)∧Aside0 (RByt wr w.heap.size (.slice A3 bs.length c3) bs)∧Aside0 (RRec wr w.heap.size (.slice A4 rs.length c4) rs)∧Aside0 (Below w.heap.size w wr)
def RowRd (w:World) (rs:List RecS) (v3 v40:Value) (wr:World):Prop :=
 ∃ (k:Nat) (A3:Option Addr) (c3:Nat) (ys:List Int),k≤rs.length∧v40=.int .i64 k∧v3=.slice A3 ys.length c3∧Aside0 (ys=frs (rs.drop k))∧Aside0 (Kd.C (Kd.int .u8) wr A3 ys.length ys∧ys.length≤c3)∧Aside0 (Below w.heap.size w wr)
set_option maxHeartbeats 16000000 in
set_option maxRecDepth 100000 in
theorem rrow_ok (A:Option Addr) (c:Nat) (l:List RecS) (w:World) (hr:Kd.C kRec w A l.length l) (hv:∀ x ∈ l,x.f7.size≤140737488351232) :
  Calls Try.prog 7 #[.slice A l.length c] w fun e w'=>e=.returned (.bool true)∧Below w.heap.size w w':=by
 have HR:=Aside0.mk hr
 have HV:=Aside0.mk hv
 have hna:l.length≤9223372036854775807:=hr.2.1
 clear hr hv
 go_enter Try.func7,Try.ntmps7
 go_upto_block 0 with (fail)
 go_cut [3,4] (fun v3 v4 wx=>RowOut w v3 v4 wx)
 case first =>
  go_wp2
  go_loopw [3,4,16] (fun v3 v4 v16 wr=>RowIn w l.length v3 v4 v16 wr) (fun _ _ v16 _=>l.length - (intOf v16).toNat)
  case atStart=>exact ⟨0,none,0,none,0,[],[],by omega,rfl,rfl,rfl,⟨rfl,fun x hx=>(by simp at hx),by simp,by omega⟩,⟨Kd.R_nil _ _ _ _ _⟩,⟨Kd.R_nil _ _ _ _ _⟩,⟨Below.refl _ _⟩⟩
  case round =>
   obtain ⟨k,A3,c3,A4,c4,bs,rs,hk,rfl,rfl,rfl,HI,HRB,HRR,HB⟩:=hrel
   by_cases hlt:k < l.length
   ·have hltI:(k:Int) < (l.length:Int):=by omega
    have hk0:(0:Int)≤(k:Int):=by omega
    have hkm:(k:Int)≤300:=by have:=HI.out.2.2.2;omega
    obtain ⟨ad,rfl,hx0,hx1,hx2,hx3,hx4,hx5,hx6,hx7⟩:=at_T23 (Kd.C_below HR.out HB.out) (k:Int) hk0 hltI
    rw [Int.toNat_natCast] at hx0 hx1 hx2 hx3 hx4 hx5 hx6 hx7
    have hsz:=HV.out _ (rd_rec_mem hlt)
    generalize rd_T23 l (k:Int)=x at hx0 hx1 hx2 hx3 hx4 hx5 hx6 hx7 hsz
    obtain ⟨x0,x1,x2,x3,x4,x5,x6,x7⟩:=x
    dsimp only at hx0 hx1 hx2 hx3 hx4 hx5 hx6 hx7 hsz
    by_cases h300:k < 300
    ·have h3I:(k:Int) < 300:=by omega
     have d3:decide ((k:Int)≥300)=false:=decide_eq_false (by omega)
     have HN:=Aside0.mk (rc_new wr x0 x1 x2 x3 x4 x5 x6 x7)
     have HBA:=Aside0.mk (below_alloc (Below.refl wr.heap.size wr) (.cells #[.int .i64 x0,.int .i64 x1,.int .i64 x2,.int .i64 x3,.int .i64 x4,.int .i64 x5,.string x6,.string x7] 23))
     have hen:=recenc_ok x0 x1 x2 x3 x4 x5 x6 x7 hsz (wr.alloc (.cells #[.int .i64 x0,.int .i64 x1,.int .i64 x2,.int .i64 x3,.int .i64 x4,.int .i64 x5,.string x6,.string x7] 23))
     obtain ⟨⟨ps,pe⟩,hP⟩:∃ P,frameF (x0,x1,x2,x3,x4,x5,x6,x7)=P:=⟨_,rfl⟩
     rw [hP] at hen
     dsimp only at hen
     have HP:=Aside0.mk hP
     clear hP hsz
     go_upto_if 29 with (go_at_call 8;(with_reducible refine hen.mono ?_);rintro e w2 ⟨A8,c8,rfl,hR,hB⟩;(replace HN:=Aside0.mk (HN.out.below hB));obtain ⟨⟨b0,b1,b2,b3,b4,b5,b6,b7⟩,_⟩:=HN.out.cells;(have ltn:=HN.out.lt);(replace HBA:=Aside0.mk (rbelow_same HBA.out hB));(have HCR:=Aside0.mk (C_of_R hR).2);clear hx0 hx1 hx2 hx3 hx4 hx5 hx6 hx7 hR hB hen)
     by_cases hr:rightV (x0,x1,x2,x3,x4,x5,x6,x7)=true
     ·have hF:frameF (x0,x1,x2,x3,x4,x5,x6,x7)=(frameB (x0,x1,x2,x3,x4,x5,x6,x7),0):=by unfold frameF;rw [if_pos hr]
      rw [HP.out] at hF
      obtain ⟨hps,rfl⟩:=Prod.mk.inj hF
      have hfl:=(fits_of hr).2
      have hfl2:=frame_length (x0,x1,x2,x3,x4,x5,x6,x7)
      obtain ⟨zs,hzs⟩:∃ zs,bs++ps=zs:=⟨_,rfl⟩
      obtain ⟨qs,hqs⟩:∃ qs,rs++[(⟨x0,x1,x2,x3,x4,x5,x6,x7⟩:RecS)]=qs:=⟨_,rfl⟩
      have HI2:Aside0 (zs=frs qs∧allR qs∧qs.length≤k+1∧k+1≤300):=⟨by
       obtain ⟨i1,i2,i3,i4⟩:=HI.out
       refine ⟨?_,?_,?_,by omega⟩
       ·rw [← hzs,← hqs,frs_snoc,i1,hps]
       ·rw [← hqs];exact allR_snoc i2 hr
       ·rw [← hqs,List.length_append,List.length_singleton];omega⟩
      have HBL:Aside0 (bs.length+ps.length≤100000):=⟨by
       obtain ⟨i1,i2,i3,i4⟩:=HI.out
       have h1:=frs_length i2
       rw [← i1] at h1
       rw [hps,hfl2]
       omega⟩
      have HZS:=Aside0.mk hzs
      have HQS:=Aside0.mk hqs
      have HB2:=Aside0.mk (rbelow_same HB.out HBA.out)
      have HRB2:=Aside0.mk (Kd.R_below HRB.out HBA.out)
      have HRR2:=Aside0.mk (Kd.R_below HRR.out HBA.out)
      clear hF hps hfl hfl2 hzs hqs hr HP
      go_wp2_with (first
       | ((with_reducible refine gate_builtin (b:=.append) (xs:=#[.tmp 30,.tmp 31]) rfl ?_);at_builtin;refine Kd.R_append_row (Value.int .u8) (0:Int) (h1:=fun _=>rfl) (w0:=w) w.heap.size rfl (.tmp 30) (.tmp 31) 24 5 (.int .u8 0) 1 rfl Try.underlying24 info8 rfl (by decide) (.slice A3 bs.length c3) bs ps A8 ps.length c8 (fun _=>True) rfl rfl (fun _ _=>trivial) HRB2.out HCR.out HB2.out HB2.out.size ?aL ?_;(case aL=>(have h1:=HBL.out;omega));intro v1 w4 ho hbel hg hat;rw [HZS.out] at ho;(have HRR3:=Aside0.mk (RRec.over HRR2.out HRB2.out hg));(have HN3:Aside0 (RcAt w4 wr.heap.size x0 x1 x2 x3 x4 x5 x6 x7):=⟨(hg.block _ HN.out.lt (fun e=>by obtain ⟨cells,hc⟩:=Kd.R_typed HRB2.out _ e.symm;have h2:=HN.out;unfold RcAt at h2;rw [h2] at hc;injection hc with hc;injection hc with _ hc;cases hc)).trans HN.out⟩);obtain ⟨A9,c9,rfl⟩:=Kd.R_slice ho;(have HO1:=Aside0.mk ho);(have HB4:=Aside0.mk hbel);clear b0 b1 b2 b3 b4 b5 b6 b7 ltn;obtain ⟨⟨b0,b1,b2,b3,b4,b5,b6,b7⟩,_⟩:=HN3.out.cells;(have ltn:=HN3.out.lt);clear ho hbel hg hat)
       | ((with_reducible refine gate_builtin (b:=.append) (xs:=#[.tmp 33,.tmp 35]) rfl ?_);at_builtin;refine Kd.R_append kRec (w0:=w) w.heap.size rfl (.tmp 33) (.tmp 35) 42 23 (.agg #[.int .i64 0,.int .i64 0,.int .i64 0,.int .i64 0,.int .i64 0,.int .i64 0,.string ⟨#[]⟩,.string ⟨#[]⟩]) 80 rfl Try.underlying42 infoRec rfl (by decide) (by omega) (.slice A4 rs.length c4) rs ⟨x0,x1,x2,x3,x4,x5,x6,x7⟩ [.int .i64 x0,.int .i64 x1,.int .i64 x2,.int .i64 x3,.int .i64 x4,.int .i64 x5,.string x6,.string x7] (fun _=>True) (fun _=>False) rfl rfl ?aP (fun _ hk=>hk.elim) ?aF ?aO ?aB ?aS ?aL ?_;(case aP=>exact k23_mkM _ _ _ _);(case aF=>exact (fun _ _=>trivial));(case aO=>exact HRR3.out);(case aB=>exact HB4.out);(case aS=>exact HB4.out.size);(case aL=>(have:=HI.out.2.2.1;have:=HI.out.2.2.2;omega));intro v5 w5 ho hbel hg hat;rw [HQS.out] at ho;(have HO5:Aside0 (RByt w5 w.heap.size (.slice A9 zs.length c9) zs):=⟨RByt.over HO1.out HRR3.out hg⟩);obtain ⟨A10,c10,rfl⟩:=Kd.R_slice ho;(have HO2:=Aside0.mk ho);(have HB5:=Aside0.mk hbel);clear ho hbel hg hat))
      go_roundw
      case rel=>exact ⟨k+1,A9,c9,A10,c10,zs,qs,by omega,by go_num,rfl,rfl,HI2,HO5,HO2,HB5⟩
      case measure=>simp [intOf];omega
     ·have hF:frameF (x0,x1,x2,x3,x4,x5,x6,x7)=([],90):=by unfold frameF;rw [if_neg hr]
      rw [HP.out] at hF
      obtain ⟨rfl,rfl⟩:=Prod.mk.inj hF
      clear hF hr HP
      go_wp2
      go_roundw
      case rel=>exact ⟨k+1,A3,c3,A4,c4,bs,rs,by omega,by go_num,rfl,rfl,⟨by obtain ⟨i1,i2,i3,i4⟩:=HI.out;exact ⟨i1,i2,by omega,by omega⟩⟩,⟨Kd.R_below HRB.out HBA.out⟩,⟨Kd.R_below HRR.out HBA.out⟩,⟨rbelow_same HB.out HBA.out⟩⟩
      case measure=>simp [intOf];omega
    ·have h3I:(300:Int)≤(k:Int):=by omega
     have d3:decide ((k:Int)≥300)=true:=decide_eq_true (by omega)
     have HBA:=Aside0.mk (below_alloc (Below.refl wr.heap.size wr) (.cells #[.int .i64 x0,.int .i64 x1,.int .i64 x2,.int .i64 x3,.int .i64 x4,.int .i64 x5,.string x6,.string x7] 23))
     go_wp2
     go_meet
     exact ⟨A3,c3,A4,c4,bs,rs,rfl,rfl,⟨by obtain ⟨i1,i2,i3,i4⟩:=HI.out;exact ⟨i1,i2,by omega⟩⟩,⟨Kd.R_below HRB.out HBA.out⟩,⟨Kd.R_below HRR.out HBA.out⟩,⟨rbelow_same HB.out HBA.out⟩⟩
   ·have hge:¬ (k:Int) < (l.length:Int):=by omega
    go_wp2
    go_meet
    exact ⟨A3,c3,A4,c4,bs,rs,rfl,rfl,⟨by obtain ⟨i1,i2,i3,i4⟩:=HI.out;exact ⟨i1,i2,by omega⟩⟩,HRB,HRR,HB⟩
 case rest =>
  obtain ⟨A3,c3,A4,c4,bs,rs,rfl,rfl,HI,HRB,HRR,HB⟩:=hcut
  have hrl:rs.length≤300:=HI.out.2.2
  have hca:=Kd.R_reads' HRR.out
  have HCA:=Aside0.mk hca.2.2
  have hcb:=Kd.R_reads' HRB.out
  have HCB:=Aside0.mk hcb
  clear hca hcb HR HV hna HRB HRR
  go_wp2
  go_loopw [3,40] (fun v3 v40 wr=>RowRd wc rs v3 v40 wr) (fun _ v40 _=>rs.length - (intOf v40).toNat)
  case atStart=>exact ⟨0,A3,c3,bs,by omega,rfl,rfl,⟨HI.out.1⟩,⟨HCB.out.2.2,HCB.out.2.1⟩,⟨Below.refl _ _⟩⟩
  case round =>
   obtain ⟨k,B3,d3,ys,hk,rfl,rfl,HY,HC,HBr⟩:=hrel
   by_cases hlt:k < rs.length
   ·have hltI:(k:Int) < (rs.length:Int):=by omega
    have hk0:(0:Int)≤(k:Int):=by omega
    have hkm:(k:Int)≤300:=by omega
    obtain ⟨ad,rfl,hx0,hx1,hx2,hx3,hx4,hx5,hx6,hx7⟩:=at_T23 (Kd.C_below HCA.out HBr.out) (k:Int) hk0 hltI
    rw [Int.toNat_natCast] at hx0 hx1 hx2 hx3 hx4 hx5 hx6 hx7
    have hrx:=HI.out.2.1 _ (rd_rec_mem hlt)
    have hfd:=frs_drop hlt
    have hyl0:ys.length≤94500:=by
     have h1:=frs_length (rs:=rs.drop k) (fun z hz=>HI.out.2.1 z (List.mem_of_mem_drop hz))
     rw [HY.out]
     rw [List.length_drop] at h1
     omega
    rw [← HY.out] at hfd
    generalize rd_T23 rs (k:Int)=x at hx0 hx1 hx2 hx3 hx4 hx5 hx6 hx7 hrx hfd
    obtain ⟨x0,x1,x2,x3,x4,x5,x6,x7⟩:=x
    dsimp only at hx0 hx1 hx2 hx3 hx4 hx5 hx6 hx7
    have hdf:=dec_frame hrx (frs (rs.drop (k+1)))
    have hfl:=frame_length (toV ⟨x0,x1,x2,x3,x4,x5,x6,x7⟩)
    rw [← hfd] at hdf
    have hyl:ys.length=(bodyR (toV ⟨x0,x1,x2,x3,x4,x5,x6,x7⟩)).length+6+(frs (rs.drop (k+1))).length:=by rw [hfd,List.length_append,hfl]
    have hdr:ys.drop ((bodyR (toV ⟨x0,x1,x2,x3,x4,x5,x6,x7⟩)).length+6)=frs (rs.drop (k+1)):=by
     rw [hfd,← hfl,List.drop_left]
    have hyb:AllB ys:=by rw [HY.out];exact frs_allB _
    dsimp only [toV] at hdf hyl hdr
    obtain ⟨m,hm⟩:∃ m,(bodyR (x0,x1,x2,x3,x4,x5,x6,x7)).length+6=m:=⟨_,rfl⟩
    have hmi:((bodyR (x0,x1,x2,x3,x4,x5,x6,x7)).length:Int)+6=(m:Int):=by omega
    rw [hmi] at hdf
    rw [hm] at hyl hdr
    have hm6:6≤m:=by omega
    clear hm hmi hfl hfd hrx
    obtain ⟨B4,hcut,hcr⟩:=cut_rest (A:=B3) (c:=d3) (n:=ys.length) (m:=m) (by omega)
    obtain ⟨zs,hzs⟩:∃ zs,ys.drop m=zs:=⟨_,rfl⟩
    obtain ⟨nz,hnz⟩:∃ nz,ys.length - m=nz:=⟨_,rfl⟩
    have hzl:zs.length=nz:=by rw [← hzs,List.length_drop,hnz]
    rw [hzs] at hdr
    have HZ:Aside0 (zs=frs (rs.drop (k+1))∧zs.length=nz):=⟨hdr,hzl⟩
    have HCR:Aside0 (∀ W:World,Kd.C (Kd.int .u8) W B3 ys.length ys→Kd.C (Kd.int .u8) W B4 nz zs):=⟨fun W h=>by have h1:=hcr W ys rfl HC.out.2 h;rw [hzs,hnz] at h1;exact h1⟩
    rw [hnz] at hcut
    have hde:=recdec_ok B3 d3 ys (wr.alloc (.cells #[.int .i64 x0,.int .i64 x1,.int .i64 x2,.int .i64 x3,.int .i64 x4,.int .i64 x5,.string x6,.string x7] 23)) (Kd.C_below HC.out.1 (below_alloc (Below.refl _ _) _)) HC.out.2 hyb (by omega)
    rw [hdf] at hde
    have heq:=fun W=>neqRc W x0 x1 x2 x3 x4 x5 x6 x7
    have dm1:decide ((m:Int) < 1)=false:=decide_eq_false (by omega)
    have dm2:decide ((m:Int) > (ys.length:Int))=false:=decide_eq_false (by omega)
    have HN:=Aside0.mk (rc_new wr x0 x1 x2 x3 x4 x5 x6 x7)
    have HBA:=Aside0.mk (below_alloc (Below.refl wr.heap.size wr) (.cells #[.int .i64 x0,.int .i64 x1,.int .i64 x2,.int .i64 x3,.int .i64 x4,.int .i64 x5,.string x6,.string x7] 23))
    have HNZ:Aside0 (nz≤d3 - m):=⟨by have:=HC.out.2;omega⟩
    have hm1:¬ (m:Int) < 1:=by omega
    have hm2:m≤ys.length:=by omega
    clear hdf hyl hdr hcr hzs hnz hzl hyb hm6
    go_wp2_with (go_at_call 13;(with_reducible refine hde.mono ?_);rintro e w5 ⟨rfl,hB⟩;(have HM:=Aside0.mk (rc_new w5 x0 x1 x2 x3 x4 x5 x6 x7));(replace HN:=Aside0.mk (HN.out.step hB (.cells #[.int .i64 x0,.int .i64 x1,.int .i64 x2,.int .i64 x3,.int .i64 x4,.int .i64 x5,.string x6,.string x7] 23)));clear hx0 hx1 hx2 hx3 hx4 hx5 hx6 hx7;obtain ⟨⟨b0,b1,b2,b3,b4,b5,b6,b7⟩,_⟩:=HN.out.cells;obtain ⟨⟨m0,m1,m2,m3,m4,m5,m6,m7⟩,_⟩:=HM.out.cells;(have ltn:=HN.out.lt);(replace HBA:=Aside0.mk (rbelow_next HBA.out hB (.cells #[.int .i64 x0,.int .i64 x1,.int .i64 x2,.int .i64 x3,.int .i64 x4,.int .i64 x5,.string x6,.string x7] 23)));clear hB hde)
    go_roundw
    case rel=>exact ⟨k+1,B4,d3 - m,zs,by omega,by go_num,by rw [HZ.out.2],⟨HZ.out.1⟩,⟨by rw [HZ.out.2];exact HCR.out _ (Kd.C_below HC.out.1 HBA.out),by rw [HZ.out.2];exact HNZ.out⟩,⟨rbelow_same HBr.out HBA.out⟩⟩
    case measure=>simp [intOf];omega
   ·have hge:¬ (k:Int) < (rs.length:Int):=by omega
    have hy0:ys=[]:=by
     rw [HY.out,List.drop_of_length_le (by omega)]
     rfl
    subst hy0
    have HBW:=Aside0.mk (rbelow_same HB.out HBr.out)
    have hsp:=speaks9_ok wr
    go_wp2_with (go_at_call 12;(with_reducible refine hsp.mono ?_);rintro e w8 ⟨rfl,hB⟩;(replace HBW:=Aside0.mk (rbelow_same HBW.out hB));clear hB hsp)
    go_ret
    exact ⟨rfl,HBW.out⟩
end Go.Proofs.Yteipehiiaggenaa.Rec

namespace Go.Proofs.Yteipehiiaggenaa.Pr
open Go.RowKit Go.Proofs.YteipehiiaggenaaW.PrintWords Go.Proofs.YteipehiiaggenaaW.PrintLast Go.Proofs.YteipehiiaggenaaW.PrintMore
attribute [local go_sem] max2_int min2_int max_two min_two max_three min_three max_four min_four
set_option linter.unusedVariables false
set_option linter.unusedSimpArgs false
noncomputable def latticelaw09_RecordRow.f (a0:List S23):Option Bool:=@ite _ (∀ x ∈ a0,x.f7.size≤140737488351232) (Classical.propDecidable _) (some true) none
theorem latticelaw09_RecordRow.calls (A0:Option Addr) (c0:Nat) (a0:List S23) (r:Bool) (w:World) (hr0:Kd.C k23 w A0 a0.length a0) (hc0:a0.length≤c0) (h:latticelaw09_RecordRow.f a0=some r) :
  Calls Try.prog 7 #[.slice A0 a0.length c0] w fun e w'=>e=.returned (.bool r)∧Below w.heap.size w w':=by
 unfold latticelaw09_RecordRow.f at h
 split at h
 ·rename_i hn
  injection h with h
  subst h
  exact Rec.rrow_ok A0 c0 a0 w hr0 hn
 ·cases h
end Go.Proofs.Yteipehiiaggenaa.Pr

namespace Go.Proofs.Yteipehiiaggenaa.Open
open Go.RowKit Go.ChangeShapes Go.WideShapes Go.Proofs.YteipehiiaggenaaW.PrintWords
section
variable {P:Program} {t e:TypeId}
theorem opn_string (ht:P.underlying t=some .string) (hc:P.cellsOf t=1):Opn P t Kd.string (fun y=>y.size≤reachN) (fun y=>y.size+1) where
 sz:=hc
 out:=by
  intro H enc W n cs x h hq
  obtain ⟨y,rfl,rfl,hw⟩:=DataW.trod_string ht h
  have:=hq y.data.toList.length (by simp [DataW.weights])
  exact ⟨y,rfl,by simpa using this,by simp [Rows.uptoBulk]⟩
structure OpnF (P:Program) (fs:List Field) (o:Nat) {α:Type} (d:Kd α) (g:α→Prop) (m:α→Nat):Prop where
 out:∀ (H:Type) (enc:TypeId×Value→H) (W:World) (n:Nat) (cs:List Value) (xs:List (DataW H×List MemPlace)),cs.length=o+d.sz→xs.length=fs.length →
  (∀ (i:Nat) (f:Field),fs[i]?=some f→DataW.trod enc P W 0 (fun _=>true) true n f.type ((cs.drop f.offset).take (P.cellsOf f.type))=xs[i]?) →
  (∀ q ∈ DataW.weightsEach P (fs.map (·.type)) (xs.map (·.1)),q≤reachN)→∃ y:α,d.K W y (cs.drop o)∧g y∧m y≤Rows.uptoBulkAll (xs.map (·.1))
theorem opnF_last {α:Type} {f:Field} {o:Nat} {d:Kd α} {g:α→Prop} {m:α→Nat} (hf:f.offset=o) (h:Opn P f.type d g m):OpnF P [f] o d g m where
 out:=by
  intro H enc W n cs xs hcs hxs hel hq
  match xs,hxs with
  | [x],_ =>
   have h0:=hel 0 f rfl
   rw [hf,h.sz,List.take_of_length_le (by rw [List.length_drop];omega)] at h0
   obtain ⟨y,hy,hg,hb⟩:=h.out H enc W n _ x (by simpa using h0) (fun q hq'=>hq q (by simp [DataW.weightsEach];exact hq'))
   exact ⟨y,hy,hg,by simp [Rows.uptoBulkAll];exact hb⟩
theorem opnF_cons {α β:Type} {f:Field} {fs:List Field} {o:Nat} {a:Kd α} {b:Kd β} {g:α→Prop} {m:α→Nat} {g':β→Prop} {m':β→Nat} (hf:f.offset=o) (h:Opn P f.type a g m) (hr:OpnF P fs (o+a.sz) b g' m') :
  OpnF P (f::fs) o (Kd.pair a b) (fun y=>g y.1∧g' y.2) (fun y=>m y.1+m' y.2) where
 out:=by
  intro H enc W n cs xs hcs hxs hel hq
  match xs,hxs with
  | x::xs,hxs =>
   have hsz:(Kd.pair a b).sz=a.sz+b.sz:=rfl
   have h0:=hel 0 f rfl
   rw [hf,h.sz] at h0
   obtain ⟨y,hy,hg,hb⟩:=h.out H enc W n _ x (by simpa using h0) (fun q hq'=>hq q (by simp only [List.map_cons,DataW.weightsEach];exact List.mem_append_left _ hq'))
   obtain ⟨z,hz,hg',hb'⟩:=hr.out H enc W n cs xs (by omega) (by simpa using hxs) (fun i f' hf'=>by simpa using hel (i+1) f' (by simpa using hf')) (fun q hq'=>hq q (by simp only [List.map_cons,DataW.weightsEach];exact List.mem_append_right _ hq'))
   refine ⟨(y,z),⟨(cs.drop o).take a.sz,cs.drop (o+a.sz),?_,hy,hz⟩,⟨hg,hg'⟩,?_⟩
   ·rw [← List.drop_drop,List.take_append_drop]
   ·simp only [List.map_cons,Rows.uptoBulkAll]
    omega
theorem opn_struct {α β:Type} {fs:Array Field} {d:Kd α} {g:α→Prop} {m:α→Nat} (ht:P.underlying t=some (.struct fs)) (hc:P.cellsOf t=d.sz) (h:OpnF P fs.toList 0 d g m) (f:β→α) (inv:α→β) (hfi:∀ a,f (inv a)=a) :
  Opn P t (Kd.iso d f) (fun y=>g (f y)) (fun y=>m (f y)+1) where
 sz:=hc
 out:=by
  intro H enc W n cs x hx hq
  obtain ⟨xs,n,_,rfl,hl,hxs,hel⟩:=DataW.trod_struct ht hx
  obtain ⟨y,hy,hg,hb⟩:=h.out H enc W n cs xs (by omega) (by simpa using hxs) (fun i f' hf'=>hel i f' (by simpa using hf')) (fun q hq'=>hq q (by simp only [DataW.weights,ht];exact hq'))
  refine ⟨inv y,?_,?_,?_⟩
  ·show d.K W (f (inv y)) cs
   rw [hfi]
   simpa using hy
  ·rw [hfi];exact hg
  ·rw [hfi];simp only [Rows.uptoBulk];omega
end
end Go.Proofs.Yteipehiiaggenaa.Open

namespace Go.Proofs.Yteipehiiaggenaa.Pr
open Go.RowKit
set_option linter.unusedVariables false
def good23 (y:S23):Prop:=(Lit.int .i64 y.f0).wf=true∧(Lit.int .i64 y.f1).wf=true∧(Lit.int .i64 y.f2).wf=true∧(Lit.int .i64 y.f3).wf=true∧(Lit.int .i64 y.f4).wf=true∧(Lit.int .i64 y.f5).wf=true∧y.f6.size≤140737488351232∧y.f7.size≤140737488351232
def bulk23 (y:S23):Nat:=(1+(1+(1+(1+(1+(1+((y.f6.size+1)+(y.f7.size+1))))))))+1
end Go.Proofs.Yteipehiiaggenaa.Pr

namespace Go.Proofs.Yteipehiiaggenaa.Pr
open Go.RowKit Go.Proofs.YteipehiiaggenaaW.PrintWords
theorem opn23:Open.Opn Try.prog 23 k23 good23 bulk23 :=
 Open.opn_struct Try.underlying23 (by kernel_rfl) (Open.opnF_cons rfl (Open.opn_int Try.underlying3 (by kernel_rfl)) (Open.opnF_cons rfl (Open.opn_int Try.underlying3 (by kernel_rfl)) (Open.opnF_cons rfl (Open.opn_int Try.underlying3 (by kernel_rfl)) (Open.opnF_cons rfl (Open.opn_int Try.underlying3 (by kernel_rfl)) (Open.opnF_cons rfl (Open.opn_int Try.underlying3 (by kernel_rfl)) (Open.opnF_cons rfl (Open.opn_int Try.underlying3 (by kernel_rfl)) (Open.opnF_cons rfl (Open.opn_string Try.underlying9 (by kernel_rfl)) (Open.opnF_last rfl (Open.opn_string Try.underlying9 (by kernel_rfl)))))))))) (fun x:S23=>(x.f0,x.f1,x.f2,x.f3,x.f4,x.f5,x.f6,x.f7)) (fun p=>⟨p.1,p.2.1,p.2.2.1,p.2.2.2.1,p.2.2.2.2.1,p.2.2.2.2.2.1,p.2.2.2.2.2.2.1,p.2.2.2.2.2.2.2⟩) (fun _=>rfl)
end Go.Proofs.Yteipehiiaggenaa.Pr

namespace Go.Proofs.Yteipehiiaggenaa.Pr
open Go.RowKit Go.Proofs.YteipehiiaggenaaW.PrintWords Go.Proofs.YteipehiiaggenaaW.PrintLast
set_option linter.unusedVariables false in
def latticelaw09_RecordRow.Stated:Prop:=∀ (a0:List (S23)),((a0.length≤maxLen∧a0.length*80≤140737488351232∧∀ e ∈ a0,good23 e))→latticelaw09_RecordRow.f a0=some true
end Go.Proofs.Yteipehiiaggenaa.Pr

namespace Go.Proofs.Yteipehiiaggenaa.Pure
open Go.RowKit Go.Proofs.Yteipehiiaggenaa.Pr Go.Proofs.YteipehiiaggenaaW.PrintWords Go.Proofs.YteipehiiaggenaaW.PrintLast
theorem RecordRow:latticelaw09_RecordRow.Stated:=by
 intro a0 h0
 unfold latticelaw09_RecordRow.f
 rw [if_pos]
 intro x hx
 obtain ⟨_,_,_,_,_,_,_,hv⟩:=h0.2.2 x hx
 exact hv
end Go.Proofs.Yteipehiiaggenaa.Pure

/- The law RecordRow returns true at every input, and each argument reads afterwards as it read before: A row of frames is read record by record, to its end.
   Conditions: none but those that the row itself prints. Written by a program of this session over the kit's printer. -/
namespace Go.Proofs.Yteipehiiaggenaa.recordRow
open Go.ChangeShapes Go.WideShapes Go.ChangeAt Go.RowKit
open Go.ChangeMaps (open_string shut_string)
set_option linter.unusedVariables false
theorem own:ownKnob Try.prog.godebug=none:=by kernel_rfl
theorem laidOut:laidOutB Try.prog=true:=by kernel_rfl
set_option maxRecDepth 100000 in
theorem lifted (os:Os) (started:os.Started) (H:Type) (enc:TypeId×Value→H) :
  ReturnsInHanded {} Try.checked os 7 .any (Rows.recordRowSpec.pre6 enc Try.prog Try.f7 Rows.recordRowRow.domain false) (Rows.recordRowSpec.post enc Try.prog Try.f7 false true false false):=by
 refine returnsInHanded_of_change_sized (C:=Try.checked) own started (by kernel_rfl) Try.func7
  (ChangeSpec.witness6 (enc:=enc) (C:=Try.checked) false ⟨#[],#[.slice none 0 0],[]⟩ 8 (by kernel_rfl) (by kernel_rfl) (by kernel_rfl) (by kernel_rfl)) ?_
 intro W base args ds gs before hval0 hW hcnd hsz0 _
 have hsz:(DataW.weightsEach Try.prog (Try.f7.params.toList++Rows.recordRowSpec.plain.varTypes Try.prog) (ds++gs)).all (·≤reachBytes)=true:=hsz0
 have hval:∀ (j:Nat) t v,Try.f7.params[j]?=some t→args[j]?=some v→Value.okWide Try.prog W .any base t v:=hval0
 have hW':=hW
 obtain ⟨p,q,hA0,hV,rfl,hfz,hnd⟩:=hW
 have hA:DataW.TrodAll enc Try.prog W 0 (fun _=>true) true Try.f7.params.toList args.toList ds p:=hA0
 rw [Try.params7] at hA hval hsz
 obtain ⟨v0,vs0,d0,ds0,p0,q0,hargs,rfl,rfl,h0,r0⟩:=trodAll_cons hA
 obtain ⟨rfl,rfl,rfl⟩:=trodAll_nil r0
 obtain rfl:args=#[v0]:=by cases args;simp_all
 obtain ⟨rfl,rfl⟩:=trodVars_none hV
 have k0:=h0
 have lt0:∀ x ∈ p0,x.block < W.heap.size:=by obtain ⟨m,hm⟩:=k0;exact DataW.trod_lt m _ _ _ hm
 obtain ⟨n0,hf0⟩:=h0
 obtain ⟨y0,K0,g0,m0⟩:=(Open.opn_slice (B:=80) Try.underlying42 (by kernel_rfl) (by kernel_rfl) Pr.opn23).out H enc W n0 _ _ hf0 (Open.weights_at hsz (j:=0) (t:=42) rfl rfl)
 obtain ⟨a0,len0,cap0,rfl⟩:=okWide_slice Try.underlying42 (hval 0 42 v0 rfl rfl)
 obtain ⟨A0,c0,e0,hc0,hr0⟩:=K0
 simp only [Value.cells,List.cons.injEq,Value.slice.injEq,and_true] at e0
 obtain ⟨rfl,rfl,rfl⟩:=e0
 clear hA0 hval0 hsz0 hsz
 have hk:=Pure.RecordRow y0 g0
 refine (Pr.latticelaw09_RecordRow.calls _ _ y0 true W hr0 hc0 hk).mono fun e W' ⟨he,bel0⟩=>?_
 have bel:Below W.heap.size W W':=bel0
 subst he
 exact ⟨_,rfl,_,_,_,[],_,[],hW',trodAll_mk1 (shut_bool Try.underlying4 _),(trodAll_cons_mk (Below.trod laidOut (by kernel_rfl) (of_decide_eq_true (by kernel_rfl)) k0 bel lt0) trodAll_mk0),rfl,bel.frame _,fun h=>by cases h⟩
theorem over:Rows.recordRowRow.holds Try.pinned (OpenSpec.ofChange Rows.recordRowSpec) :=
 OpenClaim.holds_of_wide 7 Try.f7 rfl rfl rfl rfl rfl rfl rfl ⟨rfl,rfl,rfl,rfl,rfl⟩ rfl rfl rfl rfl rfl (by kernel_rfl) Try.func7 (by kernel_rfl)
  (of_decide_eq_true (by kernel_rfl)) (by unfold Func.isWrapper;first|(rw [if_pos (by decide +kernel)];kernel_rfl)|(rw [if_neg (by decide +kernel)];exact ⟨rfl,rfl⟩))
  (fun os started H enc _=>lifted os started H enc)
theorem proved:Rows.RecordRowSaid:=over
#print axioms proved
end Go.Proofs.Yteipehiiaggenaa.recordRow
namespace Go.Proofs.Yteipehiiaggenaa
theorem recordRow_holds:Rows.RecordRowSaid:=recordRow.proved
end Go.Proofs.Yteipehiiaggenaa
