-- Parts melded by a program of this session.
import Derived.Below
import Derived.Deep.Draws
import Derived.Deep.AppendLies
import Derived.Maps.AppendAt
import Derived.OwnWalk
import Derived.Laws.BytesArg
import Derived.Laws.MakeOwn
import Derived.Laws.OwnMore
import Derived.Deep.OwnRows
import Derived.Tactics
import Derived.Lib.ConvBytes
import Derived.Laws.Slices
import Derived.WalkKit
import Derived.KernelRfl
import Derived.RowKit3
import Derived.Deep.LoopGhost
import Derived.Deep.QuietTactic
import Derived.BigQuiet
import Derived.WideLaws
import Derived.Deep.DeepCutAuto
import Derived.Deep.CutBlock
import Derived.Deep.RegionHeld3
import Derived.Laws.Rows
import Derived.Lib.AppendStr
import Derived.ArgAppend
import Derived.Laws.IdiomCopy
import Derived.RowKit
import Derived.Test.YteipehiiaggenaaTRecordDecodesWWords
import Derived.OrdersHeld
import Derived.Laws.BitsLemmas
import Derived.Test.YteipehiiaggenaaTRecordDecodesWRest
import Derived.Laws.StructEq
import Derived.Test.YteipehiiaggenaaProg
import Derived.Shelf.Abstract
import Derived.Test.YteipehiiaggenaaTRecordDecodesPrx0
import Derived.OneCell
import Derived.Lib.SliceRun
import Derived.Test.YteipehiiaggenaaTRecordDecodesWire
import Derived.RangeFuncBox
import Derived.RangeFuncLeaves
import Derived.OwnWalkIn
import Derived.TacticsInMore
import Derived.LoopNIn
import Derived.LoopIn
import Derived.Lib.Hide
import Derived.Test.YteipehiiaggenaaTRecordDecodesBack
import Derived.Outline
import Derived.Test.YteipehiiaggenaaTRecordDecodesRead
import Derived.Test.YteipehiiaggenaaTRecordDecodesFrom
import Derived.Test.YteipehiiaggenaaTRecordDecodesNd
import Derived.Laws.BitsAllLaws
import Derived.Test.YteipehiiaggenaaTRecordDecodesCrc
import Derived.Test.YteipehiiaggenaaTRecordDecodesPrx4
import Derived.Test.YteipehiiaggenaaTRecordDecodesCrcRef
import Derived.Test.YteipehiiaggenaaTRecordDecodesPureNode
import Derived.Deep.RegionLaw
import Derived.Laws.CopyOwn
import Derived.Test.YteipehiiaggenaaTRecordDecodesPageEnc
import Derived.Test.YteipehiiaggenaaTRecordDecodesPageFit
import Derived.Test.YteipehiiaggenaaTRecordDecodesPageRd
import Derived.Test.YteipehiiaggenaaTRecordDecodesPageNode
import Derived.Test.YteipehiiaggenaaTRecordDecodesPageDec
import Derived.Test.YteipehiiaggenaaTRecordDecodesPageRt
import Derived.Test.YteipehiiaggenaaTRecordDecodesRefRd
import Derived.Test.YteipehiiaggenaaTRecordDecodesPageRef
import Derived.Test.YteipehiiaggenaaTRecordDecodesRecImg
import Derived.Test.YteipehiiaggenaaTRecordDecodesRecRgt
import Derived.Lib.SlBytesConst
import Derived.StillTailTactics
import Derived.Test.YteipehiiaggenaaTRecordDecodesRecV
import Derived.Test.YteipehiiaggenaaTRecordDecodesPrx2
import Derived.Test.YteipehiiaggenaaTRecordDecodesPrx1
import Derived.Test.YteipehiiaggenaaTRecordDecodesPrx6
import Derived.Test.YteipehiiaggenaaTRecordDecodesRecChkP
import Derived.Test.YteipehiiaggenaaTRecordDecodesRecChkA
import Derived.Test.YteipehiiaggenaaTRecordDecodesRecChkB
import Derived.Test.YteipehiiaggenaaTRecordDecodesRecChkC
import Derived.Test.YteipehiiaggenaaTRecordDecodesRecChkD
import Derived.Test.YteipehiiaggenaaTRecordDecodesRecChk
import Derived.Test.YteipehiiaggenaaTRecordDecodesRecEnc
import Derived.Test.YteipehiiaggenaaTRecordDecodesRecRead
import Derived.Test.YteipehiiaggenaaTRecordDecodesRecDec
import Derived.Test.YteipehiiaggenaaTRecordDecodesRecRefDec
import Derived.Test.YteipehiiaggenaaTRecordDecodesRecLaw
import Derived.Test.YteipehiiaggenaaRows
import Derived.OpenShut
import Derived.SizedLaws
import Derived.ChangeArms
import Derived.ChangeOld
import Derived.DataReads
import Derived.Test.YteipehiiaggenaaTRecordDecodesOpen
import Derived.ProofKit
import Derived.ShutString
import Derived.Carry
set_option linter.unusedVariables false
set_option linter.unusedSimpArgs false
namespace Go.Proofs.YteipehiiaggenaaW.PrintWords
open Go.RowKit
theorem pw_below_grown {B:Nat} {w w1:World} (h:Below B w w1) (row:Option Nat) (hB:B≤w1.heap.size) {w2:World} (hg:w1.grownBy w2 row) (hr:∀ k,row=some k→B≤k):Below B w w2:=h.grown hg hB hr
theorem add_plain (g j:Nat):(⟨g,0,none⟩:Addr).add j=⟨g,j,none⟩:=by unfold Addr.add;split <;> simp_all
section
variable {P:Program} {ops:Array Oper} {rest:List Oper} {o:Oper} {a:Act} {Q:Exit→Act→World→Prop}
end
section
variable {P:Program} {ops:Array Oper} {o:Oper} {a:Act} {Q:Exit→Act→World→Prop} {K:Act→World→Prop}
end
section
variable {α:Type} {enc:α→Value} {d:α}
theorem own_at_of {W:World} {base g n cap:Nat} {e:TypeId} {xs:List α} (h:W.ownsRow base e 1 (.slice (some ⟨g,0,none⟩) n cap) n (encs enc xs)) (i:Int) (h0:0≤i) (h1:i < n) :
    W.cell? ⟨g,i.toNat,none⟩=some (enc (rdOf d xs i))∧W.frozen? ⟨g,i.toNat,none⟩=false:=by
  have hl:xs.length=n:=by have:=h.1;simp [encs] at this;exact this
  constructor
  · have hc:=h.cells (g:=g) rfl i.toNat _ (encs_get (d:=d) xs i.toNat (by omega))
    rwa [add_plain] at hc
  · rcases h.2 with ⟨h',_⟩|⟨g',cap',cur,h',_,hh,_⟩
    · cases h'
    · have:g=g':=by injection h' with h';injection h' with h';injection h' with h'
      subst this
      simp [World.frozen?,hh]
theorem own_store_of {W:World} {base g n cap:Nat} {e:TypeId} {xs:List α} (h:W.ownsRow base e 1 (.slice (some ⟨g,0,none⟩) n cap) n (encs enc xs)) (i:Int) (x:α) :
    (W.setCell ⟨g,i.toNat,none⟩ (enc x)).ownsRow base e 1 (.slice (some ⟨g,0,none⟩) n cap) n (encs enc (xs.set i.toNat x))∧W.grownBy (W.setCell ⟨g,i.toNat,none⟩ (enc x)) (some g):=by
  have hs:=h.stored i.toNat (enc x)
  have he:(encs enc xs).set i.toNat (enc x)=encs enc (xs.set i.toNat x):=by simp [encs,List.map_set]
  rwa [he] at hs
end
section
variable {α:Type} {P:Program} {ops:Array Oper} {rest:List Oper} {o:Oper} {a:Act} {Q:Exit→Act→World→Prop}
end
section
variable {P:Program}
end
section
variable {α:Type} {R R':α→List Value→Prop} {e:TypeId} {size:Nat} {w w1:World} {base:Nat} {v:Value} {ps:List α}
end
section
variable {P:Program} {ops:Array Oper} {rest:List Oper} {o:Oper} {a:Act} {Q:Exit→Act→World→Prop} {α:Type} {R:α→List Value→Prop}
end
namespace Kd
section
variable {α:Type} {d:Kd α} {e:Nat} {w w1:World} {base:Nat} {ok ok':Nat→Prop} {v:Value} {xs:List α}
end
def pair {α β:Type} (a:Kd α) (b:Kd β):Kd (α×β) where
  sz:=a.sz+b.sz
  E:=a.E++b.E
  K:=fun w x cs=>∃ c0 c1,cs=c0++c1∧a.K w x.1 c0∧b.K w x.2 c1
  M:=fun w base ok x cs=>∃ c0 c1,cs=c0++c1∧a.M w base ok x.1 c0∧b.M w base ok x.2 c1
  K_len:=by
    rintro w x cs ⟨c0,c1,rfl,h0,h1⟩
    rw [List.length_append,a.K_len h0,b.K_len h1]
  K_one:=by
    rintro w x cs ⟨c0,c1,rfl,h0,h1⟩ u hu
    rcases List.mem_append.1 hu with hu|hu
    · exact a.K_one h0 u hu
    · exact b.K_one h1 u hu
  K_below:=by
    rintro w w1 x cs hb ⟨c0,c1,rfl,h0,h1⟩
    exact ⟨c0,c1,rfl,a.K_below hb h0,b.K_below hb h1⟩
  K_of_M:=by
    rintro w base ok x cs ⟨c0,c1,rfl,h0,h1⟩
    exact ⟨c0,c1,rfl,a.K_of_M h0,b.K_of_M h1⟩
  M_mono:=by
    rintro w base ok ok' x cs hok ⟨c0,c1,rfl,h0,h1⟩
    exact ⟨c0,c1,rfl,a.M_mono hok h0,b.M_mono hok h1⟩
  M_bound:=by
    rintro w base ok x cs ⟨c0,c1,rfl,h0,h1⟩
    refine ⟨c0,c1,rfl,a.M_mono ?_ (a.M_bound h0),b.M_mono ?_ (b.M_bound h1)⟩
    · rintro k ⟨h2,h3,h4,q,hq,hc⟩
      exact ⟨h2,h3,h4,q,List.mem_append_left _ hq,hc⟩
    · rintro k ⟨h2,h3,h4,q,hq,hc⟩
      exact ⟨h2,h3,h4,q,List.mem_append_right _ hq,hc⟩
  M_move:=by
    rintro w w1 base ok x cs hm ⟨c0,c1,rfl,h0,h1⟩
    exact ⟨c0,c1,rfl,a.M_move hm h0,b.M_move hm h1⟩
  M_lower:=by
    rintro w base base' ok x cs hb ⟨c0,c1,rfl,h0,h1⟩
    exact ⟨c0,c1,rfl,a.M_lower hb h0,b.M_lower hb h1⟩
def iso {α β:Type} (d:Kd α) (f:β→α):Kd β where
  sz:=d.sz
  E:=d.E
  K:=fun w x cs=>d.K w (f x) cs
  M:=fun w base ok x cs=>d.M w base ok (f x) cs
  K_len:=d.K_len
  K_one:=d.K_one
  K_below:=d.K_below
  K_of_M:=d.K_of_M
  M_mono:=d.M_mono
  M_bound:=d.M_bound
  M_move:=d.M_move
  M_lower:=d.M_lower
section
variable {P:Program} {ops:Array Oper} {rest:List Oper} {o:Oper} {a:Act} {Q:Exit→Act→World→Prop} {α:Type}
end
section
variable {P:Program} {ops:Array Oper} {o:Oper} {a:Act} {Q:Exit→Act→World→Prop} {Kc:Act→World→Prop} {α:Type}
end
end Kd
namespace Kd
section
variable {α β:Type} {d:Kd α} {d':Kd β} {e e':Nat} {w w1 W:World} {base b b':Nat} {ok ok' okv oku:Nat→Prop} {v u:Value} {xs:List α} {ys:List β}
theorem R_form (h:d.R e w base ok v xs) (hp:0 < xs.length):∃ g cap,v=.slice (some ⟨g,0,none⟩) xs.length cap∧base≤g∧g < w.heap.size∧∃ cells,w.heap[g]?=some (.cells cells e (0,0)):=by
  obtain ⟨inner,ho⟩:=R_own h
  obtain ⟨g,cap,he,hb,hl⟩:=ho.form hp
  obtain ⟨cells,hc⟩:=own_typed ho g (by rw [he];simp [Value.ownBlock])
  exact ⟨g,cap,he,hb,hl,cells,hc⟩
end
section
variable {w W:World} {A:Option Addr} {n:Nat}
variable {α:Type} {enc:α→Value} {h1:∀ x,(enc x).oneCell'=true} {e base g cap:Nat} {ok:Nat→Prop} {xs:List α}
theorem R_cell (d:α) (h:(scalar enc h1).R e W base ok (.slice (some ⟨g,0,none⟩) xs.length cap) xs) (i:Int) (h0:0≤i) (hi:i < xs.length):W.cell? ⟨g,i.toNat,none⟩=some (enc (rdOf d xs i))∧W.frozen? ⟨g,i.toNat,none⟩=false:=own_at_of (own_of_R h) i h0 hi
theorem R_put (h:(scalar enc h1).R e W base ok (.slice (some ⟨g,0,none⟩) xs.length cap) xs) (i:Int) (x:α):(scalar enc h1).R e (W.setCell ⟨g,i.toNat,none⟩ (enc x)) base ok (.slice (some ⟨g,0,none⟩) xs.length cap) (xs.set i.toNat x)∧W.grownBy (W.setCell ⟨g,i.toNat,none⟩ (enc x)) (some g):=by
  obtain ⟨ho,hg⟩:=own_store_of (own_of_R h) i x
  exact ⟨R_of_own (by rw [List.length_set];exact ho) h.1,hg⟩
end
end Kd
section
variable {P:Program}
end
namespace Kd
end Kd
namespace Kd
section
variable {α:Type} {k:Kd α} {w:World} {A:Option Addr} {xs:List α} {m c:Nat}
end
end Kd
section
variable {P:Program}
end
section
variable {P:Program} {ops:Array Oper} {rest:List Oper} {o:Oper} {a:Act} {Q:Exit→Act→World→Prop}
end
namespace Kd
section
variable {α:Type} {enc:α→Value} {h1:∀ x,(enc x).oneCell'=true} {e base g n cap:Nat} {ok:Nat→Prop} {W:World} {xs:List α}
theorem R_celln (d:α) (h:(scalar enc h1).R e W base ok (.slice (some ⟨g,0,none⟩) n cap) xs) (i:Int) (h0:0≤i) (hi:i < n):W.cell? ⟨g,i.toNat,none⟩=some (enc (rdOf d xs i))∧W.frozen? ⟨g,i.toNat,none⟩=false:=by
  obtain ⟨rfl,_⟩:=R_reads' h
  exact R_cell d h i h0 hi
end
end Kd
namespace Kd
section
variable {α:Type} {enc:α→Value} {h1:∀ x,(enc x).oneCell'=true} {e base g n cap:Nat} {ok:Nat→Prop} {W:World} {xs:List α}
theorem R_putg (h:(scalar enc h1).R e W base ok (.slice (some ⟨g,0,none⟩) n cap) xs) (i:Int) (x:α):(scalar enc h1).R e (W.setCell ⟨g,i.toNat,none⟩ (enc x)) base ok (.slice (some ⟨g,0,none⟩) n cap) (xs.set i.toNat x)∧W.grownBy (W.setCell ⟨g,i.toNat,none⟩ (enc x)) (some g):=by
  obtain ⟨rfl,_⟩:=R_reads' h
  exact R_put h i x
end
end Kd
end Go.Proofs.YteipehiiaggenaaW.PrintWords

namespace Go.Proofs.YteipehiiaggenaaW.PrintLast
section
variable {P:Program} {ops:Array Oper} {Q:Exit→Act→World→Prop} {md:Region.Mode} {S:World→Prop} {ds:List Nat}
def ListedClosed (md:Region.Mode) (ops:Array Oper) (listed:Array Bool):Prop :=
 ∀ j oj,ops[j]?=some oj→listed.getD j false=true→∀ e ∈ oj.after,Region.binds md e=true→listed.getD e.on false=true
theorem ListedClosed.set {listed:Array Bool} {i:Nat} (h:ListedClosed md ops listed) (hi:i ∈ Region.ready md ops listed):ListedClosed md ops (listed.setIfInBounds i true):=by
 obtain ⟨_,oi,hoi,hall⟩:=mem_ready.1 hi
 intro j oj hj hl e he hb
 by_cases hij:i=j
 ·subst hij
  have:oj=oi:=Option.some.inj (hj.symm.trans hoi)
  subst this
  exact getD_set_true (hall e he hb)
 ·rw [getD_set_ne false hij] at hl
  exact getD_set_true (h j oj hj hl e he hb)
end
section
variable {P:Program} {ops:Array Oper} {Q:Exit→Act→World→Prop} {md:Region.Mode} {S:World→Prop} {ds:List Nat}
end
end Go.Proofs.YteipehiiaggenaaW.PrintLast

namespace Go.Proofs.Yteipehiiaggenaa.Pr
open Go.RowKit Go.Proofs.YteipehiiaggenaaW.PrintWords Go.Proofs.YteipehiiaggenaaW.PrintLast Go.Proofs.YteipehiiaggenaaW.PrintMore
attribute [local go_sem] max2_int min2_int max_two min_two max_three min_three max_four min_four
set_option linter.unusedVariables false
set_option linter.unusedSimpArgs false
attribute [go_sem] bo_string_leq bo_string_gtr bo_string_geq
structure S23 where
 f0:Int
 f1:Int
 f2:Int
 f3:Int
 f4:Int
 f5:Int
 f6:ByteArray
 f7:ByteArray
def k23:Kd S23:=Kd.iso (Kd.pair (Kd.int .i64) (Kd.pair (Kd.int .i64) (Kd.pair (Kd.int .i64) (Kd.pair (Kd.int .i64) (Kd.pair (Kd.int .i64) (Kd.pair (Kd.int .i64) (Kd.pair Kd.string Kd.string))))))) (fun x:S23=>(x.f0,x.f1,x.f2,x.f3,x.f4,x.f5,x.f6,x.f7))
theorem k23_open {w:World} {x:S23} {cs:List Value} (h:k23.K w x cs):cs=[.int .i64 x.f0,.int .i64 x.f1,.int .i64 x.f2,.int .i64 x.f3,.int .i64 x.f4,.int .i64 x.f5,.string x.f6,.string x.f7]:=by
 obtain ⟨_,_,rfl,rfl,⟨_,_,rfl,rfl,⟨_,_,rfl,rfl,⟨_,_,rfl,rfl,⟨_,_,rfl,rfl,⟨_,_,rfl,rfl,⟨_,_,rfl,rfl,rfl⟩⟩⟩⟩⟩⟩⟩:=h
 exact rfl
end Go.Proofs.Yteipehiiaggenaa.Pr

namespace Go.Proofs.Yteipehiiaggenaa.Crc
open Go.RowKit Go.Proofs.YteipehiiaggenaaW.PrintWords Go.Proofs.YteipehiiaggenaaW.PrintLast Go.Proofs.YteipehiiaggenaaW.PrintMore Go.Proofs.Yteipehiiaggenaa.Wire
open Go.Proofs.Yteipehiiaggenaa.Back (AllB numB numB_small)
set_option linter.unusedVariables false
set_option linter.unusedSimpArgs false
theorem half_xor (a b:Nat):(a ^^^ b) / 2=a / 2 ^^^ b / 2:=by
 have:=Nat.shiftRight_xor_distrib (a:=a) (b:=b) (i:=1)
 simpa [Nat.shiftRight_eq_div_pow] using this
end Go.Proofs.Yteipehiiaggenaa.Crc

namespace Go.Proofs.Yteipehiiaggenaa.Crc
open Go.RowKit Go.Proofs.YteipehiiaggenaaW.PrintWords Go.Proofs.YteipehiiaggenaaW.PrintLast Go.Proofs.YteipehiiaggenaaW.PrintMore Go.Proofs.Yteipehiiaggenaa.Wire
open Go.Proofs.Yteipehiiaggenaa.Back (AllB numB numB_small)
set_option linter.unusedVariables false
set_option linter.unusedSimpArgs false
theorem le_AllB:∀ (k:Nat) (n:Int),AllB (le n k):=by
 intro k
 induction k with
 | zero=>intro n z hz;simp [le] at hz
 | succ k ih =>
  intro n z hz
  rw [le,List.mem_cons] at hz
  rcases hz with rfl|hz
  ·omega
  ·exact ih _ z hz
theorem AllB_append {xs ys:List Int} (h:AllB xs) (k:AllB ys):AllB (xs++ys):=fun x hx=>(List.mem_append.1 hx).elim (h x) (k x)
theorem crcS_append (s:Nat) (xs ys:List Int):crcS s (xs++ys)=crcS (crcS s xs) ys:=List.foldl_append
end Go.Proofs.Yteipehiiaggenaa.Crc

namespace Go.Proofs.Yteipehiiaggenaa.Crc
open Go.RowKit Go.Proofs.YteipehiiaggenaaW.PrintWords Go.Proofs.YteipehiiaggenaaW.PrintLast Go.Proofs.YteipehiiaggenaaW.PrintMore Go.Proofs.Yteipehiiaggenaa.Wire
open Go.Proofs.Yteipehiiaggenaa.Back (AllB numB numB_small)
set_option linter.unusedVariables false
set_option linter.unusedSimpArgs false
theorem crcT_xor (a b:Nat):crcT (a ^^^ b)=crcT a ^^^ crcT b:=by
 unfold crcT
 have hp:=Nat.xor_mod_two_eq_one (a:=a) (b:=b)
 rw [half_xor]
 by_cases h1:a % 2=1 <;> by_cases h2:b % 2=1
 ·rw [if_pos h1,if_pos h2,if_neg (by rw [hp];simp [h1,h2]),Nat.xor_zero]
  generalize a / 2=x
  generalize b / 2=y
  rw [Nat.xor_assoc x,Nat.xor_comm 3988292384,Nat.xor_assoc y,Nat.xor_self,Nat.xor_zero]
 ·rw [if_pos h1,if_neg h2,if_pos (by rw [hp];simp [h1,h2]),Nat.xor_zero,Nat.xor_assoc,Nat.xor_comm (b / 2),Nat.xor_assoc]
 ·rw [if_neg h1,if_pos h2,if_pos (by rw [hp];simp [h1,h2]),Nat.xor_zero,Nat.xor_assoc]
 ·rw [if_neg h1,if_neg h2,if_neg (by rw [hp];simp [h1,h2]),Nat.xor_zero,Nat.xor_zero,Nat.xor_zero]
theorem crcTn_xor (a b:Nat):∀ k,crcTn k (a ^^^ b)=crcTn k a ^^^ crcTn k b
 | 0=>rfl
 | k+1=>by rw [crcTn,crcTn_xor a b k,crcT_xor];rfl
theorem xor_lt8 {a b:Nat} (h:a < 256) (k:b < 256):a ^^^ b < 256:=Nat.xor_lt_two_pow (n:=8) h k
theorem getD_lt {xs:List Int} (hb:AllB xs) (i:Nat):(xs.getD i 0).toNat < 256:=by
 rw [List.getD_eq_getElem?_getD]
 rcases h:xs[i]? with _|x
 ·simp
 ·have:=hb x (List.mem_of_getElem? h)
  simp
  omega
end Go.Proofs.Yteipehiiaggenaa.Crc

namespace Go.Proofs.Yteipehiiaggenaa.Crc
open Go.RowKit Go.Proofs.YteipehiiaggenaaW.PrintWords Go.Proofs.YteipehiiaggenaaW.PrintLast Go.Proofs.YteipehiiaggenaaW.PrintMore Go.Proofs.Yteipehiiaggenaa.Wire
open Go.Proofs.Yteipehiiaggenaa.Back (AllB numB numB_small)
set_option linter.unusedVariables false
set_option linter.unusedSimpArgs false
theorem crcTn_add (a s:Nat):∀ b,crcTn (b+a) s=crcTn b (crcTn a s)
 | 0=>by rw [Nat.zero_add];rfl
 | b+1=>by
  rw [show b+1+a=(b+a)+1 by omega]
  show crcT (crcTn (b+a) s)=crcT (crcTn b (crcTn a s))
  rw [crcTn_add a s b]
theorem crcT_zero:crcT 0=0:=by decide +kernel
theorem crcTn_zero:∀ k,crcTn k 0=0
 | 0=>rfl
 | k+1=>by rw [crcTn,crcTn_zero k,crcT_zero]
theorem crcT_ne {s:Nat} (h:s < 4294967296) (hz:crcT s=0):s=0:=by
 unfold crcT at hz
 by_cases hp:s % 2=1
 ·rw [if_pos hp] at hz
  have:s / 2=3988292384:=by
   have h2:=congrArg (· ^^^ 3988292384) hz
   simp only [Nat.xor_assoc,Nat.xor_self,Nat.xor_zero,Nat.zero_xor] at h2
   exact h2
  omega
 ·rw [if_neg hp,Nat.xor_zero] at hz
  omega
theorem crcTn_ne {s:Nat} (h:s < 4294967296):∀ k,crcTn k s=0→s=0
 | 0,hz=>hz
 | k+1,hz=>crcTn_ne h k (crcT_ne (crcTn_lt h k) hz)
theorem crcT_even (s:Nat):crcT (2*s)=s:=by
 unfold crcT
 rw [if_neg (by omega),Nat.xor_zero]
 omega
theorem crcTn_pow:∀ (i m:Nat),crcTn (m+i) (2 ^ i)=crcTn m 1
 | 0,m=>rfl
 | i+1,m=>by
  rw [show m+(i+1)=(m+i)+1 by omega,crcTn_add 1,Nat.pow_succ,Nat.mul_comm]
  show crcTn (m+i) (crcT (2*2 ^ i))=_
  rw [crcT_even,crcTn_pow i m]
theorem crcTn8 (y:Nat):crcTn 8 (256*y)=y:=by
 have e:256*y=2*(2*(2*(2*(2*(2*(2*(2*y))))))):=by omega
 rw [e]
 simp only [crcTn,crcT_even]
theorem split256 (v:Nat):v % 256 ^^^ 256*(v / 256)=v:=by
 apply Nat.eq_of_testBit_eq
 intro i
 rw [Nat.testBit_xor,show (256:Nat)=2 ^ 8 from rfl,Nat.testBit_mod_two_pow,Nat.testBit_two_pow_mul,Nat.testBit_div_two_pow]
 by_cases h:i < 8
 ·simp [h,Nat.not_le.2 h]
 ·have h2:8≤i:=by omega
  simp [h,h2,Nat.add_sub_cancel' h2,Nat.sub_add_cancel h2]
theorem crcS_le:∀ (k s v:Nat),v < 256 ^ k→crcS s (le (v:Int) k)=crcTn (8*k) (s ^^^ v)
 | 0,s,v,h=>by
  have:v=0:=by omega
  subst this
  show s=s ^^^ 0
  rw [Nat.xor_zero]
 | k+1,s,v,h=>by
  have e1:((v:Int) % 256).toNat=v % 256:=by omega
  have e2:(v:Int) / 256=((v / 256:Nat):Int):=by omega
  rw [le]
  show crcS (crcB s ((v:Int) % 256).toNat) (le ((v:Int) / 256) k)=_
  rw [e1,e2,crcS_le k _ _ (by rw [Nat.pow_succ] at h;omega),show 8*(k+1)=8*k+8 by omega,crcTn_add 8]
  congr 1
  unfold crcB
  conv=>lhs;rhs;rw [← crcTn8 (v / 256)]
  rw [← crcTn_xor,Nat.xor_assoc,split256]
theorem crcS_sealed {xs:List Int} (hb:AllB xs):crcS 4294967295 (xs++le (sumOf xs:Int) 4)=crcTn 32 4294967295:=by
 rw [crcS_append,crcS_le 4 _ _ (sum_lt hb)]
 unfold sumOf
 rw [← Nat.xor_assoc,Nat.xor_self,Nat.zero_xor]
theorem crcS_xor (e:Nat):∀ (l:List Int) (s:Nat),crcS (s ^^^ e) l=crcS s l ^^^ crcTn (8*l.length) e
 | [],s=>rfl
 | x::l,s=>by
  show crcS (crcB (s ^^^ e) x.toNat) l=crcS (crcB s x.toNat) l ^^^ _
  have h:crcB (s ^^^ e) x.toNat=crcB s x.toNat ^^^ crcTn 8 e:=by
   unfold crcB
   rw [← crcTn_xor,Nat.xor_assoc,Nat.xor_assoc,Nat.xor_comm e]
  rw [h,crcS_xor _ l,List.length_cons,show 8*(l.length+1)=8*l.length+8 by omega,crcTn_add 8 e (8*l.length)]
theorem crcS_set (d:Nat):∀ (l:List Int) (q s:Nat),q < l.length→crcS s (l.set q (((l.getD q 0).toNat ^^^ d:Nat):Int))=crcS s l ^^^ crcTn (8*(l.length - q)) d
 | [],q,s,h=>by simp at h
 | x::l,0,s,_=>by
  show crcS (crcB s (((x.toNat ^^^ d:Nat):Int)).toNat) l=crcS (crcB s x.toNat) l ^^^ _
  have h:crcB s (((x.toNat ^^^ d:Nat):Int)).toNat=crcB s x.toNat ^^^ crcTn 8 d:=by
   unfold crcB
   rw [Int.toNat_natCast,← crcTn_xor,Nat.xor_assoc]
  rw [h,crcS_xor,List.length_cons,Nat.sub_zero,show 8*(l.length+1)=8*l.length+8 by omega,crcTn_add 8 d (8*l.length)]
 | x::l,q+1,s,h=>by
  rw [List.length_cons] at h
  show crcS (crcB s x.toNat) (l.set q (((l.getD q 0).toNat ^^^ d:Nat):Int))=crcS (crcB s x.toNat) l ^^^ _
  rw [crcS_set d l q _ (by omega),List.length_cons,Nat.add_sub_add_right]
def turnB (xs:List Int) (k:Nat):List Int:=xs.set (k / 8) (((xs.getD (k / 8) 0).toNat ^^^ 2 ^ (k % 8):Nat):Int)
theorem turnB_length (xs:List Int) (k:Nat):(turnB xs k).length=xs.length:=List.length_set
theorem pow8_lt (k:Nat):2 ^ (k % 8) < 256:=Nat.pow_lt_pow_right (a:=2) (n:=8) (by omega) (Nat.mod_lt _ (by omega))
theorem turnB_AllB {xs:List Int} (hb:AllB xs) (k:Nat):AllB (turnB xs k):=by
 intro x hx
 rcases List.mem_or_eq_of_mem_set hx with h|h
 ·exact hb x h
 ·rw [h]
  have:=xor_lt8 (getD_lt hb (k / 8)) (pow8_lt k)
  omega
theorem crcS_turnB {xs:List Int} {k:Nat} (h:k < 8*xs.length) (s:Nat):crcS s (turnB xs k)=crcS s xs ^^^ crcTn (8*xs.length - k) 1:=by
 unfold turnB
 rw [crcS_set _ _ _ _ (by omega),show 8*(xs.length - k / 8)=(8*xs.length - k)+k % 8 by omega,crcTn_pow]
def turnN (a p:Nat) (ys:List Int):Nat→List Int
 | 0=>ys
 | i+1=>if p / 2 ^ i % 2=1 then turnB (turnN a p ys i) (a+i) else turnN a p ys i
theorem turnN_length (a p:Nat) (ys:List Int):∀ i,(turnN a p ys i).length=ys.length
 | 0=>rfl
 | i+1=>by
  rw [turnN]
  split
  ·rw [turnB_length,turnN_length a p ys i]
  ·exact turnN_length a p ys i
theorem turnN_AllB (a p:Nat) {ys:List Int} (hb:AllB ys):∀ i,AllB (turnN a p ys i)
 | 0=>hb
 | i+1=>by
  rw [turnN]
  split
  ·exact turnB_AllB (turnN_AllB a p hb i) _
  ·exact turnN_AllB a p hb i
theorem mod_step (p i:Nat):p % 2 ^ (i+1)=p % 2 ^ i ^^^ (if p / 2 ^ i % 2=1 then 2 ^ i else 0):=by
 apply Nat.eq_of_testBit_eq
 intro j
 have hb:p.testBit i=decide (p / 2 ^ i % 2=1):=Nat.testBit_eq_decide_div_mod_eq
 rw [Nat.testBit_xor,Nat.testBit_mod_two_pow,Nat.testBit_mod_two_pow]
 by_cases h:p / 2 ^ i % 2=1
 ·rw [if_pos h,Nat.testBit_two_pow]
  by_cases hj:i=j
  ·subst hj
   simp [hb,h]
  ·by_cases h1:j < i
   ·have h2:j < i+1:=by omega
    simp [h1,h2,hj]
   ·have h2:¬ j < i+1:=by omega
    simp [h1,h2,hj]
 ·rw [if_neg h,Nat.zero_testBit]
  by_cases hj:i=j
  ·subst hj
   simp [hb,h]
  ·by_cases h1:j < i
   ·have h2:j < i+1:=by omega
    simp [h1,h2]
   ·have h2:¬ j < i+1:=by omega
    simp [h1,h2]
theorem crcS_turnN {a p:Nat} {ys:List Int} (s:Nat) (ha:a+32≤8*ys.length):∀ i,i≤32→crcS s (turnN a p ys i)=crcS s ys ^^^ crcTn (8*ys.length - a) (p % 2 ^ i)
 | 0,_=>by
  rw [Nat.pow_zero,Nat.mod_one,crcTn_zero,Nat.xor_zero]
  rfl
 | i+1,hi=>by
  have ih:=crcS_turnN (p:=p) s ha i (by omega)
  rw [mod_step,turnN]
  by_cases h:p / 2 ^ i % 2=1
  ·rw [if_pos h,if_pos h,crcS_turnB (by rw [turnN_length];omega),ih,turnN_length,crcTn_xor,Nat.xor_assoc]
   congr 2
   have h2:=crcTn_pow i (8*ys.length - (a+i))
   rw [show 8*ys.length - (a+i)+i=8*ys.length - a by omega] at h2
   exact h2.symm
  ·rw [if_neg h,if_neg h,Nat.xor_zero,ih]
theorem turned {a p:Nat} {xs:List Int} (hb:AllB xs) (hp:0 < p) (hp2:p < 4294967296) (ha:a+32≤8*(xs++le (sumOf xs:Int) 4).length) :
  opOf (turnN a p (xs++le (sumOf xs:Int) 4) 32)=([],20):=by
 have hres:=crcS_sealed hb
 have hby:=AllB_append hb (le_AllB 4 (sumOf xs:Int))
 have hyl:4≤(xs++le (sumOf xs:Int) 4).length:=by rw [List.length_append,le_length];omega
 generalize xs++le (sumOf xs:Int) 4=ys at ha hres hby hyl ⊢
 have ht:=crcS_turnN (p:=p) 4294967295 ha 32 (by omega)
 have htb:=turnN_AllB a p hby 32
 have htl:=turnN_length a p ys 32
 rw [Nat.mod_eq_of_lt hp2] at ht
 generalize turnN a p ys 32=zs at ht htb htl ⊢
 unfold opOf
 rw [if_neg (by omega),if_pos]
 intro h
 have hm:(zs.drop (zs.length - 4)).length=4:=by rw [List.length_drop];omega
 have htt:AllB (zs.take (zs.length - 4)):=fun y hy=>htb y (List.mem_of_mem_take hy)
 have hd:=(four_eq hm (fun y hy=>htb y (List.mem_of_mem_drop hy)) (sum_lt htt)).1 h
 have hz:=crcS_sealed htt
 rw [← hd,List.take_append_drop,ht,hres] at hz
 have hz2:crcTn (8*ys.length - a) p=0:=by
  have h2:=congrArg (crcTn 32 4294967295 ^^^ ·) hz
  simp only [← Nat.xor_assoc,Nat.xor_self,Nat.zero_xor] at h2
  exact h2
 have:=crcTn_ne hp2 _ hz2
 omega
theorem R_form {w:World} {base e:Nat} {ok:Nat→Prop} {v:Value} {xs:List Int} (h:Kd.R (Kd.int .u8) e w base ok v xs) (hp:0 < xs.length):∃ g cap,v=.slice (some ⟨g,0,none⟩) xs.length cap∧xs.length≤cap∧base≤g:=by
 obtain ⟨A,c,hv,hc,hC⟩:=Kd.R_reads h
 obtain ⟨inner,ho⟩:=Kd.R_own h
 rcases ho.2 with ⟨_,h0⟩|⟨g,cap,cur,hv2,hg,_⟩
 ·omega
 ·rw [hv] at hv2
  injection hv2 with h1 h2 h3
  subst h1
  exact ⟨g,c,hv,hc,hg⟩
end Go.Proofs.Yteipehiiaggenaa.Crc

namespace Go.Proofs.Yteipehiiaggenaa.Rec
open Go.RowKit Go.Proofs.YteipehiiaggenaaW.PrintWords Go.Proofs.YteipehiiaggenaaW.PrintLast Go.Proofs.YteipehiiaggenaaW.PrintMore Go.Proofs.Yteipehiiaggenaa.Wire Go.Proofs.Yteipehiiaggenaa.Crc Go.Proofs.Yteipehiiaggenaa.Pr Go.Proofs.Yteipehiiaggenaa.Page
open Go.Proofs.Yteipehiiaggenaa.Back (AllB numB numB_small numB_eight hor hor_lt hor_last pow_le7)
open Go.Proofs.Yteipehiiaggenaa.Pure
set_option linter.unusedVariables false
set_option linter.unusedSimpArgs false
theorem numOk_of {n:Int} {s:Nat} (hs:s=1∨s=2∨s=4∨s=8) (h0:0≤n) (h1:n.toNat < 256 ^ s) (h2:n < 9223372036854775808):numOk n (s:Int)=true:=by
 unfold numOk numTop
 rcases hs with rfl|rfl|rfl|rfl
 ·simp at h1 ⊢;omega
 ·simp at h1 ⊢;omega
 ·simp at h1 ⊢;omega
 ·simp at h1 ⊢;omega
theorem rdNum_inv {xs:List Int} {wg:Int} {s:Nat} (hs:s=1∨s=2∨s=4∨s=8) (hb:AllB xs) (h:(rdNum xs wg (s:Int)).2.2=0):wg=0∧xs=le (rdNum xs wg (s:Int)).1.1 s++(rdNum xs wg (s:Int)).2.1∧numOk (rdNum xs wg (s:Int)).1.1 (s:Int)=true∧AllB (rdNum xs wg (s:Int)).2.1:=by
 have hz:sizedB (s:Int)=true:=sizedB_yes (by omega)
 unfold rdNum at h ⊢
 rw [if_neg (by rw [hz];decide)] at h ⊢
 by_cases hw:wg=0
 ·rw [if_neg (by omega)] at h ⊢
  by_cases hl:(xs.length:Int) < (s:Int)
  ·rw [if_pos hl] at h;cases h
  ·rw [if_neg hl] at h ⊢
   rw [Int.toNat_natCast] at h ⊢
   have hbt:AllB (xs.take s):=fun x hx=>hb x (List.mem_of_mem_take hx)
   have htl:(xs.take s).length=s:=by rw [List.length_take];omega
   by_cases hn:numB (xs.take s) < 0
   ·rw [if_pos hn] at h;cases h
   ·rw [if_neg hn]
    have hh:=hor_lt hbt
    rw [htl] at hh
    have hlh:=le_hor hbt
    rw [htl] at hlh
    have hnb:numB (xs.take s)=(hor (xs.take s):Int):=by
     rcases hs with e|e|e|e
     ·exact numB_small hbt (by omega)
     ·exact numB_small hbt (by omega)
     ·exact numB_small hbt (by omega)
     ·obtain ⟨a,b⟩:=numB_eight hbt (by omega)
      by_cases c:(xs.take s).getD 7 0≤127
      ·exact a c
      ·exact absurd (b (by omega)) hn
    refine ⟨hw,?_,?_,fun x hx=>hb x (List.mem_of_mem_drop hx)⟩
    ·simp only
     rw [hnb,hlh,List.take_append_drop]
    ·simp only
     rw [hnb]
     refine numOk_of hs (by omega) (by rw [Int.toNat_natCast];exact hh) ?_
     rcases hs with e|e|e|e
     ·subst e;simp at hh;omega
     ·subst e;simp at hh;omega
     ·subst e;simp at hh;omega
     ·obtain ⟨a,b⟩:=numB_eight hbt (by omega)
      by_cases c:(xs.take s).getD 7 0≤127
      ·have:=(hor_last (by omega) hbt).2 c
       omega
      ·exact absurd (b (by omega)) hn
 ·rw [if_pos hw] at h
  exact absurd h hw
theorem rdText_inv {xs:List Int} {wg:Int} (hb:AllB xs) (h:(rdText xs wg 65535).2.2=0):wg=0∧xs=txB (strOfNums (rdText xs wg 65535).1.1)++(rdText xs wg 65535).2.1∧(strOfNums (rdText xs wg 65535).1.1).size≤65535∧AllB (rdText xs wg 65535).2.1:=by
 unfold rdText at h ⊢
 rw [if_neg (by omega)] at h ⊢
 by_cases hw:wg=0
 ·rw [if_neg (by omega)] at h ⊢
  by_cases hl:xs.length < 2
  ·rw [if_pos hl] at h;cases h
  ·rw [if_neg hl] at h ⊢
   have hbt:AllB (xs.take 2):=fun x hx=>hb x (List.mem_of_mem_take hx)
   have htl:(xs.take 2).length=2:=by rw [List.length_take];omega
   have hh:=hor_lt hbt
   rw [htl] at hh
   have hlh:=le_hor hbt
   rw [htl] at hlh
   have hnb:numB (xs.take 2)=(hor (xs.take 2):Int):=numB_small hbt (by omega)
   by_cases hc:((xs.length - 2:Nat):Int) < numB (xs.take 2)
   ·rw [if_pos hc] at h;cases h
   ·rw [if_neg hc] at h ⊢
    by_cases hm:(65535:Int) < numB (xs.take 2)
    ·rw [if_pos hm] at h;cases h
    ·rw [if_neg hm]
     have hn:(numB (xs.take 2)).toNat=hor (xs.take 2):=by rw [hnb];omega
     have htd:((xs.drop 2).take (numB (xs.take 2)).toNat).length=hor (xs.take 2):=by rw [List.length_take,List.length_drop,hn];omega
     have hbd:AllB ((xs.drop 2).take (numB (xs.take 2)).toNat):=fun x hx=>hb x (List.mem_of_mem_drop (List.mem_of_mem_take hx))
     refine ⟨hw,?_,?_,fun x hx=>hb x (List.mem_of_mem_drop hx)⟩
     ·simp only
      rw [tx_str hbd,htd,hlh,hn,List.append_assoc,← List.drop_drop,List.take_append_drop,List.take_append_drop]
     ·simp only
      rw [strOfNums_size,htd]
      omega
 ·rw [if_pos hw] at h
  exact absurd h hw
theorem allB_num {xs:List Int} (hb:AllB xs) (wg size:Int):AllB (rdNum xs wg size).2.1:=by
 obtain ⟨m,e⟩:=num_sub xs wg size
 rw [e]
 exact fun x hx=>hb x (List.mem_of_mem_drop hx)
theorem allB_text {xs:List Int} (hb:AllB xs) (wg most:Int):AllB (rdText xs wg most).2.1:=by
 obtain ⟨m,e⟩:=text_sub xs wg most
 rw [e]
 exact fun x hx=>hb x (List.mem_of_mem_drop hx)
theorem read_inv {ys:List Int} (hb:AllB ys) (h:endOf ys=0):ys=bodyR (recOf ys)∧Fits (recOf ys):=by
 unfold endOf rdEnd at h
 by_cases hw:(q8 ys).2.2=0
 ·rw [if_neg (by omega)] at h
  by_cases hx:(q8 ys).2.1=[]
  ·have b1:AllB (q1 ys).2.1:=allB_num hb _ _
   have b2:AllB (q2 ys).2.1:=allB_num b1 _ _
   have b3:AllB (q3 ys).2.1:=allB_num b2 _ _
   have b4:AllB (q4 ys).2.1:=allB_num b3 _ _
   have b5:AllB (q5 ys).2.1:=allB_num b4 _ _
   have b6:AllB (q6 ys).2.1:=allB_num b5 _ _
   have b7:AllB (q7 ys).2.1:=allB_text b6 _ _
   obtain ⟨w7,e8,s8,_⟩:=rdText_inv (xs:=(q7 ys).2.1) (wg:=(q7 ys).2.2) b7 hw
   obtain ⟨w6,e7,s7,_⟩:=rdText_inv (xs:=(q6 ys).2.1) (wg:=(q6 ys).2.2) b6 w7
   obtain ⟨w5,e6,s6,_⟩:=rdNum_inv (xs:=(q5 ys).2.1) (wg:=(q5 ys).2.2) (s:=8) (.inr (.inr (.inr rfl))) b5 w6
   obtain ⟨w4,e5,s5,_⟩:=rdNum_inv (xs:=(q4 ys).2.1) (wg:=(q4 ys).2.2) (s:=4) (.inr (.inr (.inl rfl))) b4 w5
   obtain ⟨w3,e4,s4,_⟩:=rdNum_inv (xs:=(q3 ys).2.1) (wg:=(q3 ys).2.2) (s:=4) (.inr (.inr (.inl rfl))) b3 w4
   obtain ⟨w2,e3,s3,_⟩:=rdNum_inv (xs:=(q2 ys).2.1) (wg:=(q2 ys).2.2) (s:=1) (.inl rfl) b2 w3
   obtain ⟨w1,e2,s2,_⟩:=rdNum_inv (xs:=(q1 ys).2.1) (wg:=(q1 ys).2.2) (s:=8) (.inr (.inr (.inr rfl))) b1 w2
   obtain ⟨_,e1,s1,_⟩:=rdNum_inv (xs:=ys) (wg:=0) (s:=8) (.inr (.inr (.inr rfl))) hb w1
   refine ⟨?_,⟨s1,s2,s3,s4,s5,s6,s7,s8⟩⟩
   have f8:(q7 ys).2.1=txB (strOfNums (q8 ys).1.1)++(q8 ys).2.1:=e8
   have f7:(q6 ys).2.1=txB (strOfNums (q7 ys).1.1)++(q7 ys).2.1:=e7
   have f6:(q5 ys).2.1=le (q6 ys).1.1 8++(q6 ys).2.1:=e6
   have f5:(q4 ys).2.1=le (q5 ys).1.1 4++(q5 ys).2.1:=e5
   have f4:(q3 ys).2.1=le (q4 ys).1.1 4++(q4 ys).2.1:=e4
   have f3:(q2 ys).2.1=le (q3 ys).1.1 1++(q3 ys).2.1:=e3
   have f2:(q1 ys).2.1=le (q2 ys).1.1 8++(q2 ys).2.1:=e2
   have f1:ys=le (q1 ys).1.1 8++(q1 ys).2.1:=e1
   rw [hx,List.append_nil] at f8
   have key:ys=le (q1 ys).1.1 8++(le (q2 ys).1.1 8++(le (q3 ys).1.1 1++(le (q4 ys).1.1 4++(le (q5 ys).1.1 4++(le (q6 ys).1.1 8++(txB (strOfNums (q7 ys).1.1)++txB (strOfNums (q8 ys).1.1))))))):=by
    rw [← f8,← f7,← f6,← f5,← f4,← f3,← f2,← f1]
   exact key
  ·rw [if_neg hx] at h;cases h
 ·rw [if_pos hw] at h
  exact absurd h hw
theorem read_cut {v:RecV} (h:Fits v) {m:Nat} (hm:m < (bodyR v).length):endOf ((bodyR v).take m)≠0:=by
 intro he
 obtain ⟨e,hf⟩:=read_inv (fun x hx=>body_allB v x (List.mem_of_mem_take hx)) he
 have h1:=(read_rt hf ((bodyR v).drop m)).2
 rw [← e,List.take_append_drop] at h1
 have h2:=(read_rt h []).2
 rw [List.append_nil,h1] at h2
 have h3:(bodyR v).drop m=[]:=(congrArg Prod.fst h2)
 have h4:=congrArg List.length h3
 rw [List.length_drop,List.length_nil] at h4
 omega
theorem open_inv {zs:List Int} (hb:AllB zs) (h:(opOf zs).2=0):zs=sealB (zs.take (zs.length - 4))∧4≤zs.length:=by
 unfold opOf at h
 split at h
 ·cases h
 ·rename_i h4
  split at h
  ·cases h
  ·rename_i h5
   have hd:(zs.drop (zs.length - 4)).length=4:=by rw [List.length_drop];omega
   have h6:=(four_eq hd (fun x hx=>hb x (List.mem_of_mem_drop hx)) (sum_lt (fun x hx=>hb x (List.mem_of_mem_take hx)))).1 (Classical.not_not.1 h5)
   refine ⟨?_,by omega⟩
   unfold sealB
   rw [← h6,List.take_append_drop]
theorem frame_dec {xs:List Int} (hb:AllB xs) (h:(decF9 xs).2.2=0):rightV (decF9 xs).1=true∧(decF9 xs).2.1=((bodyR (decF9 xs).1).length:Int)+6∧(bodyR (decF9 xs).1).length+6≤xs.length∧xs.take ((bodyR (decF9 xs).1).length+6)=frameB (decF9 xs).1:=by
 unfold decF9 at h ⊢
 split at h
 ·cases h
 ·rename_i h1
  rw [if_neg h1]
  split at h
  ·cases h
  ·rename_i h2
   rw [if_neg h2]
   split at h
   ·cases h
   ·rename_i h3
    rw [if_neg h3]
    split at h
    ·cases h
    ·rename_i h4
     rw [if_neg h4]
     have hbt:AllB (xs.take 2):=fun x hx=>hb x (List.mem_of_mem_take hx)
     have htl:(xs.take 2).length=2:=by rw [List.length_take];omega
     have hnb:numB (xs.take 2)=(hor (xs.take 2):Int):=numB_small hbt (by omega)
     have hlh:=le_hor hbt
     rw [htl] at hlh
     rw [hnb,Int.toNat_natCast] at h3 h4 ⊢
     rw [hnb] at h2
     generalize hor (xs.take 2)=n at h2 h3 h4 hlh ⊢
     have hmid:((xs.drop 2).take n).length=n:=by rw [List.length_take,List.length_drop];omega
     have hbm:AllB ((xs.drop 2).take n):=fun x hx=>hb x (List.mem_of_mem_drop (List.mem_of_mem_take hx))
     have hrd:(readF ((xs.drop 2).take n)).2=0:=Classical.not_not.1 h4
     unfold readF at hrd ⊢
     split at hrd
     ·cases hrd
     ·rename_i h5
      rw [if_neg h5]
      have he:endOf ((xs.drop 2).take n)=0:=Classical.not_not.1 h5
      split at hrd
      ·rename_i h6
       obtain ⟨e,hf⟩:=read_inv hbm he
       simp only
       have hln:(bodyR (recOf ((xs.drop 2).take n))).length=n:=by rw [← e];exact hmid
       refine ⟨h6,by rw [hln],by omega,?_⟩
       rw [hln]
       have hop:(opOf (xs.take (n+6))).2=0:=Classical.not_not.1 h3
       have hbo:AllB (xs.take (n+6)):=fun x hx=>hb x (List.mem_of_mem_take hx)
       obtain ⟨o1,_⟩:=open_inv hbo hop
       have hol:(xs.take (n+6)).length=n+6:=by rw [List.length_take];omega
       rw [hol,List.take_take,show min (n+6 - 4) (n+6)=2+n by omega,show xs.take (2+n)=xs.take 2++(xs.drop 2).take n from List.take_add,← hlh] at o1
       rw [o1]
       unfold frameB
       rw [hln,← e]
      ·cases hrd
theorem turnN_one (a j:Nat) (ys:List Int):∀ i,turnN a (2 ^ j) ys i=if i≤j then ys else turnB ys (a+j)
 | 0=>by rw [turnN,if_pos (Nat.zero_le _)]
 | i+1=>by
  rw [turnN,turnN_one a j ys i]
  have hb:(2 ^ j).testBit i=decide (2 ^ j / 2 ^ i % 2=1):=Nat.testBit_eq_decide_div_mod_eq
  rw [Nat.testBit_two_pow] at hb
  by_cases h:j=i
  ·subst h
   rw [decide_eq_true rfl] at hb
   rw [if_pos (of_decide_eq_true hb.symm),if_pos (Nat.le_refl _),if_neg (by omega)]
  ·rw [decide_eq_false h] at hb
   rw [if_neg (of_decide_eq_false hb.symm)]
   by_cases h2:i≤j
   ·rw [if_pos h2,if_pos (by omega)]
   ·rw [if_neg h2,if_neg (by omega)]
theorem turned_bit {xs:List Int} {k:Nat} (hb:AllB xs) (hk:k < 8*(sealB xs).length):opOf (turnB (sealB xs) k)=([],20):=by
 have hl:(sealB xs).length=xs.length+4:=by
  unfold sealB
  rw [List.length_append,le_length]
 obtain ⟨a,j,hj,haj,ha⟩:∃ a j,j < 32∧a+j=k∧a+32≤8*(sealB xs).length:=by
  by_cases h:k+32≤8*(sealB xs).length
  ·exact ⟨k,0,by omega,by omega,h⟩
  ·exact ⟨8*(sealB xs).length - 32,k - (8*(sealB xs).length - 32),by omega,by omega,by omega⟩
 have h1:=turnN_one a j (sealB xs) 32
 rw [if_neg (by omega),haj] at h1
 rw [← h1]
 exact turned hb (Nat.pos_of_ne_zero (by exact Nat.ne_of_gt (Nat.pow_pos (by omega)))) (Nat.pow_lt_pow_right (a:=2) (n:=32) (by omega) hj) ha
theorem dec9_not {xs:List Int} (h:(decF9 xs).2.2≠0):(decF9 xs).1=zeroR∧(decF9 xs).2.1=0:=by
 unfold decF9 at h ⊢
 split
 ·exact ⟨rfl,rfl⟩
 ·rename_i h1
  rw [if_neg h1] at h
  split
  ·exact ⟨rfl,rfl⟩
  ·rename_i h2
   rw [if_neg h2] at h
   split
   ·exact ⟨rfl,rfl⟩
   ·rename_i h3
    rw [if_neg h3] at h
    split
    ·exact ⟨rfl,rfl⟩
    ·rename_i h4
     rw [if_neg h4] at h
     exact absurd rfl h
theorem dec_cut {v:RecV} (h:rightV v=true) {m:Nat} (hm:m < (frameB v).length):decF9 ((frameB v).take m)=(zeroR,0,10):=by
 obtain ⟨hf,hl⟩:=fits_of h
 have hfl:=frame_length v
 have hml:((frameB v).take m).length=m:=by rw [List.length_take];omega
 unfold decF9
 by_cases h2:m < 2
 ·rw [if_pos (by omega)]
 ·have ht:=frame_take2 (v:=v) (by omega) []
  rw [List.append_nil] at ht
  rw [if_neg (by omega),List.take_take,show min 2 m=2 by omega,ht,if_pos (by omega)]
theorem dec_turn {v:RecV} (h:rightV v=true) {k:Nat} (hk:k < 8*(frameB v).length):(decF9 (turnB (frameB v) k)).2.2≠0:=by
 intro he
 obtain ⟨hf,hl⟩:=fits_of h
 have hfl:=frame_length v
 have hzl:=turnB_length (frameB v) k
 obtain ⟨hy,_,hlen,htk⟩:=frame_dec (turnB_AllB (frame_allB v) k) he
 generalize (decF9 (turnB (frameB v) k)).1=y at hy hlen htk
 obtain ⟨hfy,hly⟩:=fits_of hy
 have hfy2:=frame_length y
 have hop:opOf (turnB (frameB v) k)=([],20):=turned_bit (allB_append (le_allB _ _) (body_allB v)) hk
 have hmn:(bodyR y).length≠(bodyR v).length:=by
  intro e
  rw [List.take_of_length_le (by omega)] at htk
  rw [htk] at hop
  unfold frameB at hop
  rw [opOf_sealed (allB_append (le_allB _ _) (body_allB y))] at hop
  have:=congrArg Prod.snd hop
  cases this
 have hsplit:turnB (frameB v) k=frameB y++(turnB (frameB v) k).drop ((bodyR y).length+6):=by rw [← htk,List.take_append_drop]
 have ht2:=frame_take2 (v:=y) (by omega) ((turnB (frameB v) k).drop ((bodyR y).length+6))
 have hmid:=frame_mid y ((turnB (frameB v) k).drop ((bodyR y).length+6))
 rw [← hsplit] at ht2 hmid
 by_cases hk16:k / 8 < 2
 ·have hdr:(turnB (frameB v) k).drop 2=(frameB v).drop 2:=by
   unfold turnB
   exact List.drop_set_of_lt hk16
  rw [hdr] at hmid
  have hv:=frame_mid v []
  rw [List.append_nil] at hv
  have hlt:(bodyR y).length < (bodyR v).length:=by omega
  have h3:(bodyR v).take (bodyR y).length=bodyR y:=by
   rw [← hv,List.take_take,Nat.min_eq_left (by omega)]
   exact hmid
  refine read_cut hf hlt ?_
  rw [h3]
  have h4:=(read_rt hfy []).2
  rw [List.append_nil] at h4
  unfold endOf rdEnd
  rw [h4]
  simp
 ·have htr:(turnB (frameB v) k).take 2=(frameB v).take 2:=by
   unfold turnB
   exact List.take_set_of_le (by omega)
  have hv2:=frame_take2 (v:=v) (by omega) []
  rw [List.append_nil] at hv2
  rw [htr,hv2] at ht2
  omega
end Go.Proofs.Yteipehiiaggenaa.Rec

namespace Go.Proofs.Yteipehiiaggenaa.Rec
open Go.RowKit Go.Proofs.YteipehiiaggenaaW.PrintWords Go.Proofs.YteipehiiaggenaaW.PrintLast Go.Proofs.YteipehiiaggenaaW.PrintMore Go.Proofs.Yteipehiiaggenaa.Wire Go.Proofs.Yteipehiiaggenaa.Crc Go.Proofs.Yteipehiiaggenaa.Pr Go.Proofs.Yteipehiiaggenaa.Page
open Go.Proofs.Yteipehiiaggenaa.Back (AllB)
open Go.Proofs.Yteipehiiaggenaa.Pure
set_option linter.unusedVariables false
set_option linter.unusedSimpArgs false
theorem frame_pos (v:RecV):6≤(frameB v).length:=by rw [frame_length];omega
set_option maxHeartbeats 16000000 in
set_option maxRecDepth 100000 in
theorem rcut_ok (a1 a2 a3 a4 a5 a6:Int) (a7 a8:ByteArray) (hv:a8.size≤140737488351232) (cu at_:Int) (w:World) :
  Calls Try.prog 6 #[.agg #[.int .i64 a1,.int .i64 a2,.int .i64 a3,.int .i64 a4,.int .i64 a5,.int .i64 a6,.string a7,.string a8],.int .i64 cu,.int .i64 at_] w fun e w'=>e=.returned (.bool true)∧Below w.heap.size w w':=by
 have hn:=rc_new w a1 a2 a3 a4 a5 a6 a7 a8
 have HB:=Aside0.mk (below_alloc (Below.refl w.heap.size w) (.cells #[.int .i64 a1,.int .i64 a2,.int .i64 a3,.int .i64 a4,.int .i64 a5,.int .i64 a6,.string a7,.string a8] 23))
 have hen:=recenc_ok a1 a2 a3 a4 a5 a6 a7 a8 hv (w.alloc (.cells #[.int .i64 a1,.int .i64 a2,.int .i64 a3,.int .i64 a4,.int .i64 a5,.int .i64 a6,.string a7,.string a8] 23))
 obtain ⟨⟨b0,b1,b2,b3,b4,b5,b6,b7⟩,_⟩:=hn.cells
 clear hn hv
 by_cases hr:rightV (a1,a2,a3,a4,a5,a6,a7,a8)=true
 ·have hF:frameF (a1,a2,a3,a4,a5,a6,a7,a8)=(frameB (a1,a2,a3,a4,a5,a6,a7,a8),0):=by unfold frameF;rw [if_pos hr]
  rw [hF] at hen
  have hfl:(frameB (a1,a2,a3,a4,a5,a6,a7,a8)).length≤315:=by
   rw [frame_length]
   have:=(fits_of hr).2
   omega
  have hfp:=frame_pos (a1,a2,a3,a4,a5,a6,a7,a8)
  have hyb:=frame_allB (a1,a2,a3,a4,a5,a6,a7,a8)
  have hdc:=fun (m:Nat) (h:m < (frameB (a1,a2,a3,a4,a5,a6,a7,a8)).length)=>dec_cut hr h
  have hdt:∀ m,m < 8*(frameB (a1,a2,a3,a4,a5,a6,a7,a8)).length→∃ f:Int,f≠0∧decF9 (turnB (frameB (a1,a2,a3,a4,a5,a6,a7,a8)) m)=(zeroR,0,f):=by
   intro m h
   have h1:=dec_turn hr h
   obtain ⟨h2,h3⟩:=dec9_not h1
   exact ⟨_,h1,by rw [← h2,← h3]⟩
  clear hr hF
  generalize frameB (a1,a2,a3,a4,a5,a6,a7,a8)=ys at hen hfl hfp hyb hdc hdt
  dsimp only at hen
  obtain ⟨n,hyl⟩:∃ n,n=ys.length:=⟨_,rfl⟩
  rw [← hyl] at hen hfl hfp hdc hdt
  have hcu:∃ (b45:Bool) (m:Nat),m < n∧((decide (cu < 0)=true∧b45=true)∨(decide (cu < 0)=false∧decide (cu≥(n:Int))=b45))∧((b45=true∧(n:Int) - 1=(m:Int))∨(b45=false∧cu=(m:Int))):=by
   by_cases h:cu < 0
   ·exact ⟨true,n - 1,by omega,.inl ⟨decide_eq_true h,rfl⟩,.inl ⟨rfl,by omega⟩⟩
   ·by_cases h2:cu≥(n:Int)
    ·exact ⟨true,n - 1,by omega,.inr ⟨decide_eq_false h,decide_eq_true h2⟩,.inl ⟨rfl,by omega⟩⟩
    ·exact ⟨false,cu.toNat,by omega,.inr ⟨decide_eq_false h,decide_eq_false h2⟩,.inr ⟨rfl,by omega⟩⟩
  have hat:∃ (b57:Bool) (k:Nat),k < 8*n∧((decide (at_ < 0)=true∧b57=true)∨(decide (at_ < 0)=false∧decide (at_≥8*(n:Int))=b57))∧((b57=true∧k=0)∨(b57=false∧at_=(k:Int))):=by
   by_cases h:at_ < 0
   ·exact ⟨true,0,by omega,.inl ⟨decide_eq_true h,rfl⟩,.inl ⟨rfl,rfl⟩⟩
   ·by_cases h2:at_≥8*(n:Int)
    ·exact ⟨true,0,by omega,.inr ⟨decide_eq_false h,decide_eq_true h2⟩,.inl ⟨rfl,rfl⟩⟩
    ·exact ⟨false,at_.toNat,by omega,.inr ⟨decide_eq_false h,decide_eq_false h2⟩,.inr ⟨rfl,by omega⟩⟩
  obtain ⟨b45,m,hm,hc1,hc2⟩:=hcu
  obtain ⟨b57,k,hk,ht1,ht2⟩:=hat
  have hdc:=hdc m hm
  obtain ⟨f,hf,hdt⟩:=hdt k hk
  have HDEC:=Aside0.mk (fun (D:Option Addr) (d:Nat) (W:World) (h:Kd.C (Kd.int .u8) W D n (turnB ys k)) (hc:n≤d)=>recdec_ok D d (turnB ys k) W (by rw [turnB_length,← hyl];exact h) (by rw [turnB_length,← hyl];exact hc) (turnB_AllB hyb k) (by rw [turnB_length,← hyl];omega))
  rw [hdt,turnB_length,← hyl] at HDEC
  have HDCT:=Aside0.mk (fun (D:Option Addr) (d:Nat) (W:World) (h:Kd.C (Kd.int .u8) W D n ys) (hc:n≤d)=>recdec_ok D d (ys.take m) W (by exact Kd.C_take (m:=m) (by rw [hyl] at h;exact h) (by omega)) (by rw [List.length_take];omega) (fun x hx=>hyb x (List.mem_of_mem_take hx)) (by rw [List.length_take];omega))
  rw [hdc,List.length_take,Nat.min_eq_left (by omega)] at HDCT
  dsimp only [zeroR] at HDEC HDCT
  have HYL:=Aside0.mk hyl
  have HYB:=Aside0.mk hyb
  have HK:=Aside0.mk hk
  have HM:=Aside0.mk hm
  have HFL:=Aside0.mk hfl
  have HFP:=Aside0.mk hfp
  have HF:=Aside0.mk hf
  have HC1:=Aside0.mk hc1
  have HC2:=Aside0.mk hc2
  have HT1:=Aside0.mk ht1
  have HT2:=Aside0.mk ht2
  have hn0:((n:Int)==0)=false:=by simp;omega
  clear hyl hyb hk hm hfl hfp hf hc1 hc2 ht1 ht2 hdc hdt
  go_enter Try.func6,Try.ntmps6
  go_upto_region 4 with (go_at_call 8;(with_reducible refine hen.mono ?_);rintro e w2 ⟨A8,c8,rfl,hR,hB⟩;clear b0 b1 b2 b3 b4 b5 b6 b7;(have HCR:=Aside0.mk (C_of_R hR));(replace HB:=Aside0.mk (rbelow_same HB.out hB));clear hR hB hen)
  go_cut [45] from 38 to 44 (fun v45 wx=>v45=.bool b45∧w2=wx)
  case first =>
   rcases HC1.out with ⟨d1,d2⟩|⟨d1,d2⟩
   ·subst d2
    go_wp2
    go_meet
    exact ⟨rfl,rfl⟩
   ·go_wp2
    go_meet
    exact ⟨rfl,rfl⟩
  case rest =>
  obtain ⟨rfl,rfl⟩:=hcut
  clear HC1 hn0
  go_upto_if 45 with (fail)
  go_cut [1] (fun v1 wx=>v1=.int .i64 (m:Int)∧w2=wx)
  case first =>
   have hw1:IntKind.i64.wrap ((n:Int) - 1)=(n:Int) - 1:=by have:=HFL.out;have:=HFP.out;rw [IntKind.wrap_i64];omega
   have hw2:wrap64 ((n:Int) - 1)=(n:Int) - 1:=by have:=HFL.out;have:=HFP.out;unfold wrap64;omega
   rcases HC2.out with ⟨rfl,e1⟩|⟨rfl,e1⟩
   ·have E1:=Aside0.mk e1
    clear e1
    go_wp2
    go_meet
    exact ⟨by rw [E1.out],rfl⟩
   ·subst e1
    go_wp2
    go_meet
    exact ⟨rfl,rfl⟩
  case rest =>
  obtain ⟨rfl,rfl⟩:=hcut
  clear HC2
  go_upto_region 6 with (fail)
  go_cut [57] from 49 to 56 (fun v57 wx=>v57=.bool b57∧w2=wx)
  case first =>
   have hw1:IntKind.i64.wrap (8*(n:Int))=8*(n:Int):=by have:=HFL.out;rw [IntKind.wrap_i64];omega
   have hw2:wrap64 (8*(n:Int))=8*(n:Int):=by have:=HFL.out;unfold wrap64;omega
   rcases HT1.out with ⟨d1,d2⟩|⟨d1,d2⟩
   ·subst d2
    go_wp2
    go_meet
    exact ⟨rfl,rfl⟩
   ·go_wp2
    go_meet
    exact ⟨rfl,rfl⟩
  case rest =>
  obtain ⟨rfl,rfl⟩:=hcut
  clear HT1
  go_upto_if 57 with (fail)
  go_cut [2] (fun v2 wx=>v2=.int .i64 (k:Int)∧w2=wx)
  case first =>
   rcases HT2.out with ⟨rfl,rfl⟩|⟨rfl,rfl⟩
   ·go_wp2
    go_meet
    exact ⟨rfl,rfl⟩
   ·go_wp2
    go_meet
    exact ⟨rfl,rfl⟩
  case rest =>
  obtain ⟨rfl,rfl⟩:=hcut
  clear HT2
  have hcc:=HCR.out
  rw [← HYL.out] at hcc
  have hcut:∀ W:World,(Instr.slice 24 (.slice A8 n c8) none (some (.int .i64 (m:Int))) none).run Try.prog W=.ok (.slice A8 m c8) W:=by
   intro W
   have h:=cut_to (P:=Try.prog) 24 5 .i64 Try.underlying24 (info_parts info8).choose_spec.1 A8 n c8 (m:Int) (by omega) (by have:=HM.out;omega) hcc.1 W
   rw [Int.toNat_natCast] at h
   exact h
  have HCC:=Aside0.mk hcc
  have hdc:=HDCT.out A8 c8 w2 hcc.2 hcc.1
  clear hcc
  have hr9:True:=trivial
  go_upto_region 11 with (first
   | (go_at_call 13;(with_reducible refine hdc.mono ?_);rintro e w3 ⟨rfl,hB⟩;(have hz:=rc_new w3 0 0 0 0 0 0 ⟨#[]⟩ ⟨#[]⟩);(replace HB:=Aside0.mk (rbelow_next HB.out hB (.cells #[.int .i64 0,.int .i64 0,.int .i64 0,.int .i64 0,.int .i64 0,.int .i64 0,.string ⟨#[]⟩,.string ⟨#[]⟩] 23)));(have HC3:=Aside0.mk (Kd.C_below HCC.out.2 (below_alloc hB (.cells #[.int .i64 0,.int .i64 0,.int .i64 0,.int .i64 0,.int .i64 0,.int .i64 0,.string ⟨#[]⟩,.string ⟨#[]⟩] 23))));clear hB hdc hcut hz)
   | ((with_reducible refine gate_builtin (b:=.append) (xs:=#[.tmp 66,.tmp 67]) rfl ?_);at_builtin;refine Kd.R_append_row (Value.int .u8) (0:Int) (h1:=fun _=>rfl) (w0:=w) w.heap.size rfl (.tmp 66) (.tmp 67) 24 5 (.int .u8 0) 1 rfl Try.underlying24 info8 rfl (by decide) (.slice none 0 0) [] ys A8 n c8 (fun _=>True) rfl rfl (fun _ _=>trivial) (Kd.R_nil _ _ _ _ _) HC3.out HB.out HB.out.size ?aL ?_;(case aL=>(have h1:=HFL.out;simp;omega));intro v1 w4 ho hbel hg hat;rw [List.nil_append] at ho;obtain ⟨g,cap,rfl,hcap,hgb⟩:=R_form ho (by have h1:=HYL.out;have h2:=HFP.out;omega);rw [← HYL.out] at ho hcap;(have HR:=Aside0.mk ho);(have HCAP:=Aside0.mk hcap);(have HG:=Aside0.mk hgb);(replace HB:=Aside0.mk hbel);rw [← HYL.out];clear ho hbel hg hat hcap hgb hr9))
  have hq:k / 8 < n:=by have:=HK.out;omega
  obtain ⟨x,hx,hx2⟩:=byte_get (k:=k / 8) HYB.out (by rw [← HYL.out];exact hq)
  obtain ⟨hcell,hfree⟩:=Kd.R_celln (0:Int) HR.out ((k / 8:Nat):Int) (by omega) (by omega)
  have hrd:rdOf (0:Int) ys ((k / 8:Nat):Int)=(x:Int):=by
   rw [← hx]
   unfold rdOf
   rw [Int.toNat_natCast]
  rw [hrd,Int.toNat_natCast] at hcell
  rw [Int.toNat_natCast] at hfree
  have hd8:(k:Int) / 8=((k / 8:Nat):Int):=by omega
  have hm8:(k:Int) % 8=((k % 8:Nat):Int):=by omega
  have hxr:=u8_xor_nat x (2 ^ (k % 8)) hx2 (pow8_lt k)
  have hq0:(0:Int)≤((k / 8:Nat):Int):=by omega
  have hqn:((k / 8:Nat):Int) < (n:Int):=by omega
  have hr0:(0:Int)≤((k % 8:Nat):Int):=by omega
  have hr8:((k % 8:Nat):Int) < 8:=by omega
  have hk0:(0:Int)≤(k:Int):=by omega
  have hkm:(k:Int) < 1125899906842624:=by have:=HK.out;have:=HFL.out;omega
  have htn:turnB ys k=ys.set (k / 8) ((x ^^^ 2 ^ (k % 8):Nat):Int):=by
   unfold turnB
   rw [hx,Int.toNat_natCast]
  have hput:=Kd.R_putg HR.out ((k / 8:Nat):Int) ((x ^^^ 2 ^ (k % 8):Nat):Int)
  rw [Int.toNat_natCast,← htn] at hput
  have HPUT:=Aside0.mk hput
  have hpw:((2 ^ (k % 8):Nat):Int)=(2:Int) ^ (k % 8):=by rw [Int.natCast_pow];rfl
  have hpl:=pow8_lt k
  have hpm:(2:Int) ^ (k % 8) % 256=((2 ^ (k % 8):Nat):Int):=by
   rw [← hpw]
   clear hpw hxr hput
   generalize 2 ^ (k % 8)=P at hpl
   omega
  have hval:bits .xor .u8 (x:Int) ((2:Int) ^ (k % 8) % 256)=((x ^^^ 2 ^ (k % 8):Nat):Int):=by rw [hpm,hxr]
  have HVAL:=Aside0.mk hval
  have hfn:(f != 0)=true:=by have:=HF.out;simp [this]
  have heq:=fun W=>eqRc W 0 0 0 0 0 0 ⟨#[]⟩ ⟨#[]⟩
  clear hput htn hrd hx hq hd8 hm8 hpw hpl hpm hval hxr
  go_upto_region 12 with (fail)
  rw [HVAL.out]
  obtain ⟨A9,c9,he,_,hC9⟩:=Kd.R_reads HPUT.out.1
  rw [turnB_length,← HYL.out] at he hC9
  injection he with he1 he2 he3
  subst he1 he3
  have hde:=HDEC.out _ _ _ hC9 HCAP.out
  have hbw:=pw_below_grown HB.out _ HB.out.size HPUT.out.2 (fun k e=>by injection e with e;rw [← e];exact HG.out)
  replace HB:=Aside0.mk hbw
  clear hC9 hbw hcell hfree HR he2
  go_wp2_with (first
   | (go_at_call 13;(with_reducible refine hde.mono ?_);rintro e w5 ⟨rfl,hB⟩;(have hz:=rc_new w5 0 0 0 0 0 0 ⟨#[]⟩ ⟨#[]⟩);obtain ⟨⟨g0,g1,g2,g3,g4,g5,g6,g7⟩,_⟩:=hz.cells;(have ltz:=hz.lt);(replace HB:=Aside0.mk (rbelow_next HB.out hB (.cells #[.int .i64 0,.int .i64 0,.int .i64 0,.int .i64 0,.int .i64 0,.int .i64 0,.string ⟨#[]⟩,.string ⟨#[]⟩] 23)));(have hsp:=speaks9_ok (w5.alloc (.cells #[.int .i64 0,.int .i64 0,.int .i64 0,.int .i64 0,.int .i64 0,.int .i64 0,.string ⟨#[]⟩,.string ⟨#[]⟩] 23)));clear hB hde hz)
   | (go_at_call 12;(with_reducible refine hsp.mono ?_);rintro e w7 ⟨rfl,hB⟩;(replace HB:=Aside0.mk (rbelow_same HB.out hB));clear hB hsp))
  go_ret
  exact ⟨rfl,HB.out⟩
 ·have hF:frameF (a1,a2,a3,a4,a5,a6,a7,a8)=([],90):=by unfold frameF;rw [if_neg hr]
  rw [hF] at hen
  clear hr hF
  go_enter Try.func6,Try.ntmps6
  go_wp2_with (first
   | (go_at_call 8;(with_reducible refine hen.mono ?_);rintro e w2 ⟨A8,c8,rfl,hR,hB⟩;clear b0 b1 b2 b3 b4 b5 b6 b7;(replace HB:=Aside0.mk (rbelow_same HB.out hB));(have hsp:=speaks9_ok w2);clear hR hB hen)
   | (go_at_call 12;(with_reducible refine hsp.mono ?_);rintro e w7 ⟨rfl,hB⟩;(replace HB:=Aside0.mk (rbelow_same HB.out hB));clear hB hsp))
  go_ret
  exact ⟨rfl,HB.out⟩
end Go.Proofs.Yteipehiiaggenaa.Rec

namespace Go.Proofs.Yteipehiiaggenaa.Pr
open Go.RowKit Go.Proofs.YteipehiiaggenaaW.PrintWords Go.Proofs.YteipehiiaggenaaW.PrintLast Go.Proofs.YteipehiiaggenaaW.PrintMore
attribute [local go_sem] max2_int min2_int max_two min_two max_three min_three max_four min_four
set_option linter.unusedVariables false
set_option linter.unusedSimpArgs false
noncomputable def latticelaw09_RecordCut.f (a0_0 a0_1 a0_2 a0_3 a0_4 a0_5:Int) (a0_6 a0_7:ByteArray) (a1 a2:Int):Option Bool:=@ite _ (a0_7.size≤140737488351232) (Classical.propDecidable _) (some true) none
theorem latticelaw09_RecordCut.calls (a0_0 a0_1 a0_2 a0_3 a0_4 a0_5:Int) (a0_6 a0_7:ByteArray) (a1 a2:Int) (r:Bool) (w:World) (h:latticelaw09_RecordCut.f a0_0 a0_1 a0_2 a0_3 a0_4 a0_5 a0_6 a0_7 a1 a2=some r) :
  Calls Try.prog 6 #[.agg #[.int .i64 a0_0,.int .i64 a0_1,.int .i64 a0_2,.int .i64 a0_3,.int .i64 a0_4,.int .i64 a0_5,.string a0_6,.string a0_7],.int .i64 a1,.int .i64 a2] w fun e w'=>e=.returned (.bool r)∧Below w.heap.size w w':=by
 unfold latticelaw09_RecordCut.f at h
 split at h
 ·rename_i hn
  injection h with h
  subst h
  exact Rec.rcut_ok a0_0 a0_1 a0_2 a0_3 a0_4 a0_5 a0_6 a0_7 hn a1 a2 w
 ·cases h
end Go.Proofs.Yteipehiiaggenaa.Pr

namespace Go.Proofs.Yteipehiiaggenaa.Open
open Go.RowKit Go.ChangeShapes Go.WideShapes Go.Proofs.YteipehiiaggenaaW.PrintWords
section
variable {P:Program} {t e:TypeId}
theorem opn_string (ht:P.underlying t=some .string) (hc:P.cellsOf t=1):Opn P t Kd.string (fun y=>y.size≤reachN) (fun y=>y.size+1) where
 sz:=hc
 out:=by
  intro H enc W n cs x h hq
  obtain ⟨y,rfl,rfl,hw⟩:=DataW.trod_string ht h
  have:=hq y.data.toList.length (by simp [DataW.weights])
  exact ⟨y,rfl,by simpa using this,by simp [Rows.uptoBulk]⟩
structure OpnF (P:Program) (fs:List Field) (o:Nat) {α:Type} (d:Kd α) (g:α→Prop) (m:α→Nat):Prop where
 out:∀ (H:Type) (enc:TypeId×Value→H) (W:World) (n:Nat) (cs:List Value) (xs:List (DataW H×List MemPlace)),cs.length=o+d.sz→xs.length=fs.length →
  (∀ (i:Nat) (f:Field),fs[i]?=some f→DataW.trod enc P W 0 (fun _=>true) true n f.type ((cs.drop f.offset).take (P.cellsOf f.type))=xs[i]?) →
  (∀ q ∈ DataW.weightsEach P (fs.map (·.type)) (xs.map (·.1)),q≤reachN)→∃ y:α,d.K W y (cs.drop o)∧g y∧m y≤Rows.uptoBulkAll (xs.map (·.1))
theorem opnF_last {α:Type} {f:Field} {o:Nat} {d:Kd α} {g:α→Prop} {m:α→Nat} (hf:f.offset=o) (h:Opn P f.type d g m):OpnF P [f] o d g m where
 out:=by
  intro H enc W n cs xs hcs hxs hel hq
  match xs,hxs with
  | [x],_ =>
   have h0:=hel 0 f rfl
   rw [hf,h.sz,List.take_of_length_le (by rw [List.length_drop];omega)] at h0
   obtain ⟨y,hy,hg,hb⟩:=h.out H enc W n _ x (by simpa using h0) (fun q hq'=>hq q (by simp [DataW.weightsEach];exact hq'))
   exact ⟨y,hy,hg,by simp [Rows.uptoBulkAll];exact hb⟩
theorem opnF_cons {α β:Type} {f:Field} {fs:List Field} {o:Nat} {a:Kd α} {b:Kd β} {g:α→Prop} {m:α→Nat} {g':β→Prop} {m':β→Nat} (hf:f.offset=o) (h:Opn P f.type a g m) (hr:OpnF P fs (o+a.sz) b g' m') :
  OpnF P (f::fs) o (Kd.pair a b) (fun y=>g y.1∧g' y.2) (fun y=>m y.1+m' y.2) where
 out:=by
  intro H enc W n cs xs hcs hxs hel hq
  match xs,hxs with
  | x::xs,hxs =>
   have hsz:(Kd.pair a b).sz=a.sz+b.sz:=rfl
   have h0:=hel 0 f rfl
   rw [hf,h.sz] at h0
   obtain ⟨y,hy,hg,hb⟩:=h.out H enc W n _ x (by simpa using h0) (fun q hq'=>hq q (by simp only [List.map_cons,DataW.weightsEach];exact List.mem_append_left _ hq'))
   obtain ⟨z,hz,hg',hb'⟩:=hr.out H enc W n cs xs (by omega) (by simpa using hxs) (fun i f' hf'=>by simpa using hel (i+1) f' (by simpa using hf')) (fun q hq'=>hq q (by simp only [List.map_cons,DataW.weightsEach];exact List.mem_append_right _ hq'))
   refine ⟨(y,z),⟨(cs.drop o).take a.sz,cs.drop (o+a.sz),?_,hy,hz⟩,⟨hg,hg'⟩,?_⟩
   ·rw [← List.drop_drop,List.take_append_drop]
   ·simp only [List.map_cons,Rows.uptoBulkAll]
    omega
theorem opn_struct {α β:Type} {fs:Array Field} {d:Kd α} {g:α→Prop} {m:α→Nat} (ht:P.underlying t=some (.struct fs)) (hc:P.cellsOf t=d.sz) (h:OpnF P fs.toList 0 d g m) (f:β→α) (inv:α→β) (hfi:∀ a,f (inv a)=a) :
  Opn P t (Kd.iso d f) (fun y=>g (f y)) (fun y=>m (f y)+1) where
 sz:=hc
 out:=by
  intro H enc W n cs x hx hq
  obtain ⟨xs,n,_,rfl,hl,hxs,hel⟩:=DataW.trod_struct ht hx
  obtain ⟨y,hy,hg,hb⟩:=h.out H enc W n cs xs (by omega) (by simpa using hxs) (fun i f' hf'=>hel i f' (by simpa using hf')) (fun q hq'=>hq q (by simp only [DataW.weights,ht];exact hq'))
  refine ⟨inv y,?_,?_,?_⟩
  ·show d.K W (f (inv y)) cs
   rw [hfi]
   simpa using hy
  ·rw [hfi];exact hg
  ·rw [hfi];simp only [Rows.uptoBulk];omega
end
end Go.Proofs.Yteipehiiaggenaa.Open

namespace Go.Proofs.Yteipehiiaggenaa.Pr
open Go.RowKit
set_option linter.unusedVariables false
def good23 (y:S23):Prop:=(Lit.int .i64 y.f0).wf=true∧(Lit.int .i64 y.f1).wf=true∧(Lit.int .i64 y.f2).wf=true∧(Lit.int .i64 y.f3).wf=true∧(Lit.int .i64 y.f4).wf=true∧(Lit.int .i64 y.f5).wf=true∧y.f6.size≤140737488351232∧y.f7.size≤140737488351232
def bulk23 (y:S23):Nat:=(1+(1+(1+(1+(1+(1+((y.f6.size+1)+(y.f7.size+1))))))))+1
end Go.Proofs.Yteipehiiaggenaa.Pr

namespace Go.Proofs.Yteipehiiaggenaa.Pr
open Go.RowKit Go.Proofs.YteipehiiaggenaaW.PrintWords
theorem opn23:Open.Opn Try.prog 23 k23 good23 bulk23 :=
 Open.opn_struct Try.underlying23 (by kernel_rfl) (Open.opnF_cons rfl (Open.opn_int Try.underlying3 (by kernel_rfl)) (Open.opnF_cons rfl (Open.opn_int Try.underlying3 (by kernel_rfl)) (Open.opnF_cons rfl (Open.opn_int Try.underlying3 (by kernel_rfl)) (Open.opnF_cons rfl (Open.opn_int Try.underlying3 (by kernel_rfl)) (Open.opnF_cons rfl (Open.opn_int Try.underlying3 (by kernel_rfl)) (Open.opnF_cons rfl (Open.opn_int Try.underlying3 (by kernel_rfl)) (Open.opnF_cons rfl (Open.opn_string Try.underlying9 (by kernel_rfl)) (Open.opnF_last rfl (Open.opn_string Try.underlying9 (by kernel_rfl)))))))))) (fun x:S23=>(x.f0,x.f1,x.f2,x.f3,x.f4,x.f5,x.f6,x.f7)) (fun p=>⟨p.1,p.2.1,p.2.2.1,p.2.2.2.1,p.2.2.2.2.1,p.2.2.2.2.2.1,p.2.2.2.2.2.2.1,p.2.2.2.2.2.2.2⟩) (fun _=>rfl)
end Go.Proofs.Yteipehiiaggenaa.Pr

namespace Go.Proofs.Yteipehiiaggenaa.Pr
open Go.RowKit Go.Proofs.YteipehiiaggenaaW.PrintWords Go.Proofs.YteipehiiaggenaaW.PrintLast
set_option linter.unusedVariables false in
def latticelaw09_RecordCut.Stated:Prop:=∀ (a0:S23) (a1:Int) (a2:Int),(good23 a0)→((Lit.int .i64 a1).wf=true)→((Lit.int .i64 a2).wf=true)→latticelaw09_RecordCut.f a0.f0 a0.f1 a0.f2 a0.f3 a0.f4 a0.f5 a0.f6 a0.f7 a1 a2=some true
end Go.Proofs.Yteipehiiaggenaa.Pr

namespace Go.Proofs.Yteipehiiaggenaa.Pure
open Go.RowKit Go.Proofs.Yteipehiiaggenaa.Pr Go.Proofs.YteipehiiaggenaaW.PrintWords Go.Proofs.YteipehiiaggenaaW.PrintLast
theorem RecordCut:latticelaw09_RecordCut.Stated:=by
 intro a0 a1 a2 ha _ _
 obtain ⟨_,_,_,_,_,_,_,hv⟩:=ha
 unfold latticelaw09_RecordCut.f
 rw [if_pos (by omega)]
end Go.Proofs.Yteipehiiaggenaa.Pure

/- The law RecordCut returns true at every input, and each argument reads afterwards as it read before: A FRAME THAT IS CUT, OR OF WHICH A BIT IS TURNED, IS NEVER TAKEN FOR IT.
   Conditions: none but those that the row itself prints. Written by a program of this session over the kit's printer. -/
namespace Go.Proofs.Yteipehiiaggenaa.recordCut
open Go.ChangeShapes Go.WideShapes Go.ChangeAt Go.RowKit
open Go.ChangeMaps (open_string shut_string)
set_option linter.unusedVariables false
theorem own:ownKnob Try.prog.godebug=none:=by kernel_rfl
theorem laidOut:laidOutB Try.prog=true:=by kernel_rfl
set_option maxRecDepth 100000 in
theorem lifted (os:Os) (started:os.Started) (H:Type) (enc:TypeId×Value→H) :
  ReturnsInHanded {} Try.checked os 6 .any (Rows.recordCutSpec.pre6 enc Try.prog Try.f6 Rows.recordCutRow.domain false) (Rows.recordCutSpec.post enc Try.prog Try.f6 false true false false):=by
 refine returnsInHanded_of_change_sized (C:=Try.checked) own started (by kernel_rfl) Try.func6
  (ChangeSpec.witness6 (enc:=enc) (C:=Try.checked) false ⟨#[],#[.agg #[.int .i64 0,.int .i64 0,.int .i64 0,.int .i64 0,.int .i64 0,.int .i64 0,.string ByteArray.empty,.string ByteArray.empty],.int .i64 0,.int .i64 0],[]⟩ 8 (by kernel_rfl) (by kernel_rfl) (by kernel_rfl) (by kernel_rfl)) ?_
 intro W base args ds gs before hval0 hW hcnd hsz0 _
 have hsz:(DataW.weightsEach Try.prog (Try.f6.params.toList++Rows.recordCutSpec.plain.varTypes Try.prog) (ds++gs)).all (·≤reachBytes)=true:=hsz0
 have hval:∀ (j:Nat) t v,Try.f6.params[j]?=some t→args[j]?=some v→Value.okWide Try.prog W .any base t v:=hval0
 have hW':=hW
 obtain ⟨p,q,hA0,hV,rfl,hfz,hnd⟩:=hW
 have hA:DataW.TrodAll enc Try.prog W 0 (fun _=>true) true Try.f6.params.toList args.toList ds p:=hA0
 rw [Try.params6] at hA hval hsz
 obtain ⟨v0,vs0,d0,ds0,p0,q0,hargs,rfl,rfl,h0,r0⟩:=trodAll_cons hA
 obtain ⟨v1,vs1,d1,ds1,p1,q1,rfl,rfl,rfl,h1,r1⟩:=trodAll_cons r0
 obtain ⟨v2,vs2,d2,ds2,p2,q2,rfl,rfl,rfl,h2,r2⟩:=trodAll_cons r1
 obtain ⟨rfl,rfl,rfl⟩:=trodAll_nil r2
 obtain rfl:args=#[v0,v1,v2]:=by cases args;simp_all
 obtain ⟨rfl,rfl⟩:=trodVars_none hV
 have k0:=h0
 have lt0:∀ x ∈ p0,x.block < W.heap.size:=by obtain ⟨m,hm⟩:=k0;exact DataW.trod_lt m _ _ _ hm
 obtain ⟨n0,hf0⟩:=h0
 obtain ⟨y0,K0,g0,m0⟩:=Pr.opn23.out H enc W n0 _ _ hf0 (Open.weights_at hsz (j:=0) (t:=23) rfl rfl)
 obtain ⟨cs0,rfl,_⟩:=okWide_struct Try.underlying23 (hval 0 23 v0 rfl rfl)
 have e0:=Pr.k23_open K0
 obtain rfl:cs0=#[.int .i64 y0.f0,.int .i64 y0.f1,.int .i64 y0.f2,.int .i64 y0.f3,.int .i64 y0.f4,.int .i64 y0.f5,.string y0.f6,.string y0.f7]:=by cases cs0;simp only [Value.cells] at e0;rw [e0]
 have k1:=h1
 obtain ⟨y1,rfl,rfl,rfl,g1⟩:=open_int Try.underlying3 (hval 1 3 v1 rfl rfl) h1
 have k2:=h2
 obtain ⟨y2,rfl,rfl,rfl,g2⟩:=open_int Try.underlying3 (hval 2 3 v2 rfl rfl) h2
 clear hA0 hval0 hsz0 hsz
 have hk:=Pure.RecordCut y0 y1 y2 g0 g1 g2
 refine (Pr.latticelaw09_RecordCut.calls y0.f0 y0.f1 y0.f2 y0.f3 y0.f4 y0.f5 y0.f6 y0.f7 y1 y2 true W hk).mono fun e W' ⟨he,bel0⟩=>?_
 have bel:Below W.heap.size W W':=bel0
 subst he
 exact ⟨_,rfl,_,_,_,[],_,[],hW',trodAll_mk1 (shut_bool Try.underlying4 _),(trodAll_cons_mk (Below.trod laidOut (by kernel_rfl) (of_decide_eq_true (by kernel_rfl)) k0 bel lt0) (trodAll_cons_mk (shut_int Try.underlying3 g1) (trodAll_cons_mk (shut_int Try.underlying3 g2) trodAll_mk0))),rfl,bel.frame _,fun h=>by cases h⟩
theorem over:Rows.recordCutRow.holds Try.pinned (OpenSpec.ofChange Rows.recordCutSpec) :=
 OpenClaim.holds_of_wide 6 Try.f6 rfl rfl rfl rfl rfl rfl rfl ⟨rfl,rfl,rfl,rfl,rfl⟩ rfl rfl rfl rfl rfl (by kernel_rfl) Try.func6 (by kernel_rfl)
  (of_decide_eq_true (by kernel_rfl)) (by unfold Func.isWrapper;first|(rw [if_pos (by decide +kernel)];kernel_rfl)|(rw [if_neg (by decide +kernel)];exact ⟨rfl,rfl⟩))
  (fun os started H enc _=>lifted os started H enc)
theorem proved:Rows.RecordCutSaid:=over
#print axioms proved
end Go.Proofs.Yteipehiiaggenaa.recordCut
namespace Go.Proofs.Yteipehiiaggenaa
theorem recordCut_holds:Rows.RecordCutSaid:=recordCut.proved
end Go.Proofs.Yteipehiiaggenaa
