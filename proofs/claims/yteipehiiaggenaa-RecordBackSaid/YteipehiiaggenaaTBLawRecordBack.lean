-- Parts melded by a program of this session.
import Derived.Below
import Derived.Deep.Draws
import Derived.Deep.AppendLies
import Derived.Maps.AppendAt
import Derived.OwnWalk
import Derived.Laws.BytesArg
import Derived.Laws.MakeOwn
import Derived.Laws.OwnMore
import Derived.Deep.OwnRows
import Derived.Tactics
import Derived.Lib.ConvBytes
import Derived.Laws.Slices
import Derived.WalkKit
import Derived.KernelRfl
import Derived.RowKit3
import Derived.Deep.LoopGhost
import Derived.Deep.QuietTactic
import Derived.BigQuiet
import Derived.WideLaws
import Derived.Deep.DeepCutAuto
import Derived.Deep.CutBlock
import Derived.Deep.RegionHeld3
import Derived.Laws.Rows
import Derived.Lib.AppendStr
import Derived.ArgAppend
import Derived.Laws.IdiomCopy
import Derived.RowKit
import Derived.Test.YteipehiiaggenaaTRecordDecodesWWords
import Derived.OrdersHeld
import Derived.Laws.BitsLemmas
import Derived.Test.YteipehiiaggenaaTRecordDecodesWRest
import Derived.Laws.StructEq
import Derived.Test.YteipehiiaggenaaProg
import Derived.Shelf.Abstract
import Derived.Test.YteipehiiaggenaaTRecordDecodesPrx0
import Derived.OneCell
import Derived.Lib.SliceRun
import Derived.Test.YteipehiiaggenaaTRecordDecodesWire
import Derived.RangeFuncBox
import Derived.RangeFuncLeaves
import Derived.OwnWalkIn
import Derived.TacticsInMore
import Derived.LoopNIn
import Derived.LoopIn
import Derived.Lib.Hide
import Derived.Test.YteipehiiaggenaaTRecordDecodesBack
import Derived.Outline
import Derived.Test.YteipehiiaggenaaTRecordDecodesRead
import Derived.Test.YteipehiiaggenaaTRecordDecodesFrom
import Derived.Test.YteipehiiaggenaaTRecordDecodesNd
import Derived.Laws.BitsAllLaws
import Derived.Test.YteipehiiaggenaaTRecordDecodesCrc
import Derived.Test.YteipehiiaggenaaTRecordDecodesPrx4
import Derived.Test.YteipehiiaggenaaTRecordDecodesCrcRef
import Derived.Test.YteipehiiaggenaaTRecordDecodesPureNode
import Derived.Deep.RegionLaw
import Derived.Laws.CopyOwn
import Derived.Test.YteipehiiaggenaaTRecordDecodesPageEnc
import Derived.Test.YteipehiiaggenaaTRecordDecodesPageFit
import Derived.Test.YteipehiiaggenaaTRecordDecodesPageRd
import Derived.Test.YteipehiiaggenaaTRecordDecodesPageNode
import Derived.Test.YteipehiiaggenaaTRecordDecodesPageDec
import Derived.Test.YteipehiiaggenaaTRecordDecodesPageRt
import Derived.Test.YteipehiiaggenaaTRecordDecodesRefRd
import Derived.Test.YteipehiiaggenaaTRecordDecodesPageRef
import Derived.Test.YteipehiiaggenaaTRecordDecodesRecImg
import Derived.Test.YteipehiiaggenaaTRecordDecodesRecRgt
import Derived.Lib.SlBytesConst
import Derived.StillTailTactics
import Derived.Test.YteipehiiaggenaaTRecordDecodesRecV
import Derived.Test.YteipehiiaggenaaTRecordDecodesPrx2
import Derived.Test.YteipehiiaggenaaTRecordDecodesPrx1
import Derived.Test.YteipehiiaggenaaTRecordDecodesPrx6
import Derived.Test.YteipehiiaggenaaTRecordDecodesRecChkP
import Derived.Test.YteipehiiaggenaaTRecordDecodesRecChkA
import Derived.Test.YteipehiiaggenaaTRecordDecodesRecChkB
import Derived.Test.YteipehiiaggenaaTRecordDecodesRecChkC
import Derived.Test.YteipehiiaggenaaTRecordDecodesRecChkD
import Derived.Test.YteipehiiaggenaaTRecordDecodesRecChk
import Derived.Test.YteipehiiaggenaaTRecordDecodesRecEnc
import Derived.Test.YteipehiiaggenaaTRecordDecodesRecRead
import Derived.Test.YteipehiiaggenaaTRecordDecodesRecDec
import Derived.Test.YteipehiiaggenaaTRecordDecodesRecRefDec
import Derived.Test.YteipehiiaggenaaTRecordDecodesRecLaw
import Derived.Test.YteipehiiaggenaaRows
import Derived.OpenShut
import Derived.SizedLaws
import Derived.ChangeArms
import Derived.ChangeOld
import Derived.DataReads
import Derived.Test.YteipehiiaggenaaTRecordDecodesOpen
import Derived.ProofKit
import Derived.ShutString
import Derived.Carry
set_option linter.unusedVariables false
set_option linter.unusedSimpArgs false
namespace Go.Proofs.YteipehiiaggenaaW.PrintWords
open Go.RowKit
section
variable {P:Program} {ops:Array Oper} {rest:List Oper} {o:Oper} {a:Act} {Q:Exit→Act→World→Prop}
end
section
variable {P:Program} {ops:Array Oper} {o:Oper} {a:Act} {Q:Exit→Act→World→Prop} {K:Act→World→Prop}
end
section
variable {α:Type} {enc:α→Value} {d:α}
end
section
variable {α:Type} {P:Program} {ops:Array Oper} {rest:List Oper} {o:Oper} {a:Act} {Q:Exit→Act→World→Prop}
end
section
variable {P:Program}
end
section
variable {α:Type} {R R':α→List Value→Prop} {e:TypeId} {size:Nat} {w w1:World} {base:Nat} {v:Value} {ps:List α}
end
section
variable {P:Program} {ops:Array Oper} {rest:List Oper} {o:Oper} {a:Act} {Q:Exit→Act→World→Prop} {α:Type} {R:α→List Value→Prop}
end
namespace Kd
section
variable {α:Type} {d:Kd α} {e:Nat} {w w1:World} {base:Nat} {ok ok':Nat→Prop} {v:Value} {xs:List α}
end
def pair {α β:Type} (a:Kd α) (b:Kd β):Kd (α×β) where
  sz:=a.sz+b.sz
  E:=a.E++b.E
  K:=fun w x cs=>∃ c0 c1,cs=c0++c1∧a.K w x.1 c0∧b.K w x.2 c1
  M:=fun w base ok x cs=>∃ c0 c1,cs=c0++c1∧a.M w base ok x.1 c0∧b.M w base ok x.2 c1
  K_len:=by
    rintro w x cs ⟨c0,c1,rfl,h0,h1⟩
    rw [List.length_append,a.K_len h0,b.K_len h1]
  K_one:=by
    rintro w x cs ⟨c0,c1,rfl,h0,h1⟩ u hu
    rcases List.mem_append.1 hu with hu|hu
    · exact a.K_one h0 u hu
    · exact b.K_one h1 u hu
  K_below:=by
    rintro w w1 x cs hb ⟨c0,c1,rfl,h0,h1⟩
    exact ⟨c0,c1,rfl,a.K_below hb h0,b.K_below hb h1⟩
  K_of_M:=by
    rintro w base ok x cs ⟨c0,c1,rfl,h0,h1⟩
    exact ⟨c0,c1,rfl,a.K_of_M h0,b.K_of_M h1⟩
  M_mono:=by
    rintro w base ok ok' x cs hok ⟨c0,c1,rfl,h0,h1⟩
    exact ⟨c0,c1,rfl,a.M_mono hok h0,b.M_mono hok h1⟩
  M_bound:=by
    rintro w base ok x cs ⟨c0,c1,rfl,h0,h1⟩
    refine ⟨c0,c1,rfl,a.M_mono ?_ (a.M_bound h0),b.M_mono ?_ (b.M_bound h1)⟩
    · rintro k ⟨h2,h3,h4,q,hq,hc⟩
      exact ⟨h2,h3,h4,q,List.mem_append_left _ hq,hc⟩
    · rintro k ⟨h2,h3,h4,q,hq,hc⟩
      exact ⟨h2,h3,h4,q,List.mem_append_right _ hq,hc⟩
  M_move:=by
    rintro w w1 base ok x cs hm ⟨c0,c1,rfl,h0,h1⟩
    exact ⟨c0,c1,rfl,a.M_move hm h0,b.M_move hm h1⟩
  M_lower:=by
    rintro w base base' ok x cs hb ⟨c0,c1,rfl,h0,h1⟩
    exact ⟨c0,c1,rfl,a.M_lower hb h0,b.M_lower hb h1⟩
def iso {α β:Type} (d:Kd α) (f:β→α):Kd β where
  sz:=d.sz
  E:=d.E
  K:=fun w x cs=>d.K w (f x) cs
  M:=fun w base ok x cs=>d.M w base ok (f x) cs
  K_len:=d.K_len
  K_one:=d.K_one
  K_below:=d.K_below
  K_of_M:=d.K_of_M
  M_mono:=d.M_mono
  M_bound:=d.M_bound
  M_move:=d.M_move
  M_lower:=d.M_lower
section
variable {P:Program} {ops:Array Oper} {rest:List Oper} {o:Oper} {a:Act} {Q:Exit→Act→World→Prop} {α:Type}
end
section
variable {P:Program} {ops:Array Oper} {o:Oper} {a:Act} {Q:Exit→Act→World→Prop} {Kc:Act→World→Prop} {α:Type}
end
end Kd
namespace Kd
section
variable {α β:Type} {d:Kd α} {d':Kd β} {e e':Nat} {w w1 W:World} {base b b':Nat} {ok ok' okv oku:Nat→Prop} {v u:Value} {xs:List α} {ys:List β}
end
section
variable {w W:World} {A:Option Addr} {n:Nat}
end
end Kd
section
variable {P:Program}
end
namespace Kd
end Kd
namespace Kd
section
variable {α:Type} {k:Kd α} {w:World} {A:Option Addr} {xs:List α} {m c:Nat}
end
end Kd
section
variable {P:Program}
end
section
variable {P:Program} {ops:Array Oper} {rest:List Oper} {o:Oper} {a:Act} {Q:Exit→Act→World→Prop}
end
end Go.Proofs.YteipehiiaggenaaW.PrintWords

namespace Go.Proofs.Yteipehiiaggenaa.Pr
open Go.RowKit Go.Proofs.YteipehiiaggenaaW.PrintWords Go.Proofs.YteipehiiaggenaaW.PrintLast Go.Proofs.YteipehiiaggenaaW.PrintMore
attribute [local go_sem] max2_int min2_int max_two min_two max_three min_three max_four min_four
set_option linter.unusedVariables false
set_option linter.unusedSimpArgs false
attribute [go_sem] bo_string_leq bo_string_gtr bo_string_geq
structure S23 where
 f0:Int
 f1:Int
 f2:Int
 f3:Int
 f4:Int
 f5:Int
 f6:ByteArray
 f7:ByteArray
def k23:Kd S23:=Kd.iso (Kd.pair (Kd.int .i64) (Kd.pair (Kd.int .i64) (Kd.pair (Kd.int .i64) (Kd.pair (Kd.int .i64) (Kd.pair (Kd.int .i64) (Kd.pair (Kd.int .i64) (Kd.pair Kd.string Kd.string))))))) (fun x:S23=>(x.f0,x.f1,x.f2,x.f3,x.f4,x.f5,x.f6,x.f7))
theorem k23_open {w:World} {x:S23} {cs:List Value} (h:k23.K w x cs):cs=[.int .i64 x.f0,.int .i64 x.f1,.int .i64 x.f2,.int .i64 x.f3,.int .i64 x.f4,.int .i64 x.f5,.string x.f6,.string x.f7]:=by
 obtain ⟨_,_,rfl,rfl,⟨_,_,rfl,rfl,⟨_,_,rfl,rfl,⟨_,_,rfl,rfl,⟨_,_,rfl,rfl,⟨_,_,rfl,rfl,⟨_,_,rfl,rfl,rfl⟩⟩⟩⟩⟩⟩⟩:=h
 exact rfl
end Go.Proofs.Yteipehiiaggenaa.Pr

namespace Go.Proofs.Yteipehiiaggenaa.Rec
open Go.RowKit Go.Proofs.YteipehiiaggenaaW.PrintWords Go.Proofs.YteipehiiaggenaaW.PrintLast Go.Proofs.YteipehiiaggenaaW.PrintMore Go.Proofs.Yteipehiiaggenaa.Wire Go.Proofs.Yteipehiiaggenaa.Crc Go.Proofs.Yteipehiiaggenaa.Pr Go.Proofs.Yteipehiiaggenaa.Page
open Go.Proofs.Yteipehiiaggenaa.Back (AllB numB numB_small numB_eight hor hor_lt hor_last pow_le7)
open Go.Proofs.Yteipehiiaggenaa.Pure
set_option linter.unusedVariables false
set_option linter.unusedSimpArgs false
theorem numOk_of {n:Int} {s:Nat} (hs:s=1∨s=2∨s=4∨s=8) (h0:0≤n) (h1:n.toNat < 256 ^ s) (h2:n < 9223372036854775808):numOk n (s:Int)=true:=by
 unfold numOk numTop
 rcases hs with rfl|rfl|rfl|rfl
 ·simp at h1 ⊢;omega
 ·simp at h1 ⊢;omega
 ·simp at h1 ⊢;omega
 ·simp at h1 ⊢;omega
theorem rdNum_inv {xs:List Int} {wg:Int} {s:Nat} (hs:s=1∨s=2∨s=4∨s=8) (hb:AllB xs) (h:(rdNum xs wg (s:Int)).2.2=0):wg=0∧xs=le (rdNum xs wg (s:Int)).1.1 s++(rdNum xs wg (s:Int)).2.1∧numOk (rdNum xs wg (s:Int)).1.1 (s:Int)=true∧AllB (rdNum xs wg (s:Int)).2.1:=by
 have hz:sizedB (s:Int)=true:=sizedB_yes (by omega)
 unfold rdNum at h ⊢
 rw [if_neg (by rw [hz];decide)] at h ⊢
 by_cases hw:wg=0
 ·rw [if_neg (by omega)] at h ⊢
  by_cases hl:(xs.length:Int) < (s:Int)
  ·rw [if_pos hl] at h;cases h
  ·rw [if_neg hl] at h ⊢
   rw [Int.toNat_natCast] at h ⊢
   have hbt:AllB (xs.take s):=fun x hx=>hb x (List.mem_of_mem_take hx)
   have htl:(xs.take s).length=s:=by rw [List.length_take];omega
   by_cases hn:numB (xs.take s) < 0
   ·rw [if_pos hn] at h;cases h
   ·rw [if_neg hn]
    have hh:=hor_lt hbt
    rw [htl] at hh
    have hlh:=le_hor hbt
    rw [htl] at hlh
    have hnb:numB (xs.take s)=(hor (xs.take s):Int):=by
     rcases hs with e|e|e|e
     ·exact numB_small hbt (by omega)
     ·exact numB_small hbt (by omega)
     ·exact numB_small hbt (by omega)
     ·obtain ⟨a,b⟩:=numB_eight hbt (by omega)
      by_cases c:(xs.take s).getD 7 0≤127
      ·exact a c
      ·exact absurd (b (by omega)) hn
    refine ⟨hw,?_,?_,fun x hx=>hb x (List.mem_of_mem_drop hx)⟩
    ·simp only
     rw [hnb,hlh,List.take_append_drop]
    ·simp only
     rw [hnb]
     refine numOk_of hs (by omega) (by rw [Int.toNat_natCast];exact hh) ?_
     rcases hs with e|e|e|e
     ·subst e;simp at hh;omega
     ·subst e;simp at hh;omega
     ·subst e;simp at hh;omega
     ·obtain ⟨a,b⟩:=numB_eight hbt (by omega)
      by_cases c:(xs.take s).getD 7 0≤127
      ·have:=(hor_last (by omega) hbt).2 c
       omega
      ·exact absurd (b (by omega)) hn
 ·rw [if_pos hw] at h
  exact absurd h hw
theorem rdText_inv {xs:List Int} {wg:Int} (hb:AllB xs) (h:(rdText xs wg 65535).2.2=0):wg=0∧xs=txB (strOfNums (rdText xs wg 65535).1.1)++(rdText xs wg 65535).2.1∧(strOfNums (rdText xs wg 65535).1.1).size≤65535∧AllB (rdText xs wg 65535).2.1:=by
 unfold rdText at h ⊢
 rw [if_neg (by omega)] at h ⊢
 by_cases hw:wg=0
 ·rw [if_neg (by omega)] at h ⊢
  by_cases hl:xs.length < 2
  ·rw [if_pos hl] at h;cases h
  ·rw [if_neg hl] at h ⊢
   have hbt:AllB (xs.take 2):=fun x hx=>hb x (List.mem_of_mem_take hx)
   have htl:(xs.take 2).length=2:=by rw [List.length_take];omega
   have hh:=hor_lt hbt
   rw [htl] at hh
   have hlh:=le_hor hbt
   rw [htl] at hlh
   have hnb:numB (xs.take 2)=(hor (xs.take 2):Int):=numB_small hbt (by omega)
   by_cases hc:((xs.length - 2:Nat):Int) < numB (xs.take 2)
   ·rw [if_pos hc] at h;cases h
   ·rw [if_neg hc] at h ⊢
    by_cases hm:(65535:Int) < numB (xs.take 2)
    ·rw [if_pos hm] at h;cases h
    ·rw [if_neg hm]
     have hn:(numB (xs.take 2)).toNat=hor (xs.take 2):=by rw [hnb];omega
     have htd:((xs.drop 2).take (numB (xs.take 2)).toNat).length=hor (xs.take 2):=by rw [List.length_take,List.length_drop,hn];omega
     have hbd:AllB ((xs.drop 2).take (numB (xs.take 2)).toNat):=fun x hx=>hb x (List.mem_of_mem_drop (List.mem_of_mem_take hx))
     refine ⟨hw,?_,?_,fun x hx=>hb x (List.mem_of_mem_drop hx)⟩
     ·simp only
      rw [tx_str hbd,htd,hlh,hn,List.append_assoc,← List.drop_drop,List.take_append_drop,List.take_append_drop]
     ·simp only
      rw [strOfNums_size,htd]
      omega
 ·rw [if_pos hw] at h
  exact absurd h hw
theorem allB_num {xs:List Int} (hb:AllB xs) (wg size:Int):AllB (rdNum xs wg size).2.1:=by
 obtain ⟨m,e⟩:=num_sub xs wg size
 rw [e]
 exact fun x hx=>hb x (List.mem_of_mem_drop hx)
theorem allB_text {xs:List Int} (hb:AllB xs) (wg most:Int):AllB (rdText xs wg most).2.1:=by
 obtain ⟨m,e⟩:=text_sub xs wg most
 rw [e]
 exact fun x hx=>hb x (List.mem_of_mem_drop hx)
theorem read_inv {ys:List Int} (hb:AllB ys) (h:endOf ys=0):ys=bodyR (recOf ys)∧Fits (recOf ys):=by
 unfold endOf rdEnd at h
 by_cases hw:(q8 ys).2.2=0
 ·rw [if_neg (by omega)] at h
  by_cases hx:(q8 ys).2.1=[]
  ·have b1:AllB (q1 ys).2.1:=allB_num hb _ _
   have b2:AllB (q2 ys).2.1:=allB_num b1 _ _
   have b3:AllB (q3 ys).2.1:=allB_num b2 _ _
   have b4:AllB (q4 ys).2.1:=allB_num b3 _ _
   have b5:AllB (q5 ys).2.1:=allB_num b4 _ _
   have b6:AllB (q6 ys).2.1:=allB_num b5 _ _
   have b7:AllB (q7 ys).2.1:=allB_text b6 _ _
   obtain ⟨w7,e8,s8,_⟩:=rdText_inv (xs:=(q7 ys).2.1) (wg:=(q7 ys).2.2) b7 hw
   obtain ⟨w6,e7,s7,_⟩:=rdText_inv (xs:=(q6 ys).2.1) (wg:=(q6 ys).2.2) b6 w7
   obtain ⟨w5,e6,s6,_⟩:=rdNum_inv (xs:=(q5 ys).2.1) (wg:=(q5 ys).2.2) (s:=8) (.inr (.inr (.inr rfl))) b5 w6
   obtain ⟨w4,e5,s5,_⟩:=rdNum_inv (xs:=(q4 ys).2.1) (wg:=(q4 ys).2.2) (s:=4) (.inr (.inr (.inl rfl))) b4 w5
   obtain ⟨w3,e4,s4,_⟩:=rdNum_inv (xs:=(q3 ys).2.1) (wg:=(q3 ys).2.2) (s:=4) (.inr (.inr (.inl rfl))) b3 w4
   obtain ⟨w2,e3,s3,_⟩:=rdNum_inv (xs:=(q2 ys).2.1) (wg:=(q2 ys).2.2) (s:=1) (.inl rfl) b2 w3
   obtain ⟨w1,e2,s2,_⟩:=rdNum_inv (xs:=(q1 ys).2.1) (wg:=(q1 ys).2.2) (s:=8) (.inr (.inr (.inr rfl))) b1 w2
   obtain ⟨_,e1,s1,_⟩:=rdNum_inv (xs:=ys) (wg:=0) (s:=8) (.inr (.inr (.inr rfl))) hb w1
   refine ⟨?_,⟨s1,s2,s3,s4,s5,s6,s7,s8⟩⟩
   have f8:(q7 ys).2.1=txB (strOfNums (q8 ys).1.1)++(q8 ys).2.1:=e8
   have f7:(q6 ys).2.1=txB (strOfNums (q7 ys).1.1)++(q7 ys).2.1:=e7
   have f6:(q5 ys).2.1=le (q6 ys).1.1 8++(q6 ys).2.1:=e6
   have f5:(q4 ys).2.1=le (q5 ys).1.1 4++(q5 ys).2.1:=e5
   have f4:(q3 ys).2.1=le (q4 ys).1.1 4++(q4 ys).2.1:=e4
   have f3:(q2 ys).2.1=le (q3 ys).1.1 1++(q3 ys).2.1:=e3
   have f2:(q1 ys).2.1=le (q2 ys).1.1 8++(q2 ys).2.1:=e2
   have f1:ys=le (q1 ys).1.1 8++(q1 ys).2.1:=e1
   rw [hx,List.append_nil] at f8
   have key:ys=le (q1 ys).1.1 8++(le (q2 ys).1.1 8++(le (q3 ys).1.1 1++(le (q4 ys).1.1 4++(le (q5 ys).1.1 4++(le (q6 ys).1.1 8++(txB (strOfNums (q7 ys).1.1)++txB (strOfNums (q8 ys).1.1))))))):=by
    rw [← f8,← f7,← f6,← f5,← f4,← f3,← f2,← f1]
   exact key
  ·rw [if_neg hx] at h;cases h
 ·rw [if_pos hw] at h
  exact absurd h hw
theorem open_inv {zs:List Int} (hb:AllB zs) (h:(opOf zs).2=0):zs=sealB (zs.take (zs.length - 4))∧4≤zs.length:=by
 unfold opOf at h
 split at h
 ·cases h
 ·rename_i h4
  split at h
  ·cases h
  ·rename_i h5
   have hd:(zs.drop (zs.length - 4)).length=4:=by rw [List.length_drop];omega
   have h6:=(four_eq hd (fun x hx=>hb x (List.mem_of_mem_drop hx)) (sum_lt (fun x hx=>hb x (List.mem_of_mem_take hx)))).1 (Classical.not_not.1 h5)
   refine ⟨?_,by omega⟩
   unfold sealB
   rw [← h6,List.take_append_drop]
theorem frame_dec {xs:List Int} (hb:AllB xs) (h:(decF9 xs).2.2=0):rightV (decF9 xs).1=true∧(decF9 xs).2.1=((bodyR (decF9 xs).1).length:Int)+6∧(bodyR (decF9 xs).1).length+6≤xs.length∧xs.take ((bodyR (decF9 xs).1).length+6)=frameB (decF9 xs).1:=by
 unfold decF9 at h ⊢
 split at h
 ·cases h
 ·rename_i h1
  rw [if_neg h1]
  split at h
  ·cases h
  ·rename_i h2
   rw [if_neg h2]
   split at h
   ·cases h
   ·rename_i h3
    rw [if_neg h3]
    split at h
    ·cases h
    ·rename_i h4
     rw [if_neg h4]
     have hbt:AllB (xs.take 2):=fun x hx=>hb x (List.mem_of_mem_take hx)
     have htl:(xs.take 2).length=2:=by rw [List.length_take];omega
     have hnb:numB (xs.take 2)=(hor (xs.take 2):Int):=numB_small hbt (by omega)
     have hlh:=le_hor hbt
     rw [htl] at hlh
     rw [hnb,Int.toNat_natCast] at h3 h4 ⊢
     rw [hnb] at h2
     generalize hor (xs.take 2)=n at h2 h3 h4 hlh ⊢
     have hmid:((xs.drop 2).take n).length=n:=by rw [List.length_take,List.length_drop];omega
     have hbm:AllB ((xs.drop 2).take n):=fun x hx=>hb x (List.mem_of_mem_drop (List.mem_of_mem_take hx))
     have hrd:(readF ((xs.drop 2).take n)).2=0:=Classical.not_not.1 h4
     unfold readF at hrd ⊢
     split at hrd
     ·cases hrd
     ·rename_i h5
      rw [if_neg h5]
      have he:endOf ((xs.drop 2).take n)=0:=Classical.not_not.1 h5
      split at hrd
      ·rename_i h6
       obtain ⟨e,hf⟩:=read_inv hbm he
       simp only
       have hln:(bodyR (recOf ((xs.drop 2).take n))).length=n:=by rw [← e];exact hmid
       refine ⟨h6,by rw [hln],by omega,?_⟩
       rw [hln]
       have hop:(opOf (xs.take (n+6))).2=0:=Classical.not_not.1 h3
       have hbo:AllB (xs.take (n+6)):=fun x hx=>hb x (List.mem_of_mem_take hx)
       obtain ⟨o1,_⟩:=open_inv hbo hop
       have hol:(xs.take (n+6)).length=n+6:=by rw [List.length_take];omega
       rw [hol,List.take_take,show min (n+6 - 4) (n+6)=2+n by omega,show xs.take (2+n)=xs.take 2++(xs.drop 2).take n from List.take_add,← hlh] at o1
       rw [o1]
       unfold frameB
       rw [hln,← e]
      ·cases hrd
theorem dec9_not {xs:List Int} (h:(decF9 xs).2.2≠0):(decF9 xs).1=zeroR∧(decF9 xs).2.1=0:=by
 unfold decF9 at h ⊢
 split
 ·exact ⟨rfl,rfl⟩
 ·rename_i h1
  rw [if_neg h1] at h
  split
  ·exact ⟨rfl,rfl⟩
  ·rename_i h2
   rw [if_neg h2] at h
   split
   ·exact ⟨rfl,rfl⟩
   ·rename_i h3
    rw [if_neg h3] at h
    split
    ·exact ⟨rfl,rfl⟩
    ·rename_i h4
     rw [if_neg h4] at h
     exact absurd rfl h
end Go.Proofs.Yteipehiiaggenaa.Rec

namespace Go.Proofs.Yteipehiiaggenaa.Rec
open Go.RowKit Go.Proofs.YteipehiiaggenaaW.PrintWords Go.Proofs.YteipehiiaggenaaW.PrintLast Go.Proofs.YteipehiiaggenaaW.PrintMore Go.Proofs.Yteipehiiaggenaa.Wire Go.Proofs.Yteipehiiaggenaa.Crc Go.Proofs.Yteipehiiaggenaa.Pr Go.Proofs.Yteipehiiaggenaa.Page
open Go.Proofs.Yteipehiiaggenaa.Back (AllB)
open Go.Proofs.Yteipehiiaggenaa.Pure
set_option linter.unusedVariables false
set_option linter.unusedSimpArgs false
theorem neqRc (W:World) (a1 a2 a3 a4 a5 a6:Int) (a7 a8:ByteArray):(binOp .neq 23 (.agg #[.int .i64 a1,.int .i64 a2,.int .i64 a3,.int .i64 a4,.int .i64 a5,.int .i64 a6,.string a7,.string a8]) (.agg #[.int .i64 a1,.int .i64 a2,.int .i64 a3,.int .i64 a4,.int .i64 a5,.int .i64 a6,.string a7,.string a8])).run Try.prog W=.ok (.bool false) W:=by
 rw [run_neq_struct,eqA_of (d:=9999) (r:=(a1==a1&&(a2==a2&&(a3==a3&&(a4==a4&&(a5==a5&&(a6==a6&&(a7.toList==a7.toList&&a8.toList==a8.toList)))))))) Try.underlying23 (by kernel_rfl)]
 ·simp
 ·exact eqf_cons (a:=.int .i64 a1) (b:=.int .i64 a1) (by decide) (by kernel_rfl) (by kernel_rfl) (by kernel_rfl) (eqf_cons (a:=.int .i64 a2) (b:=.int .i64 a2) (by decide) (by kernel_rfl) (by kernel_rfl) (by kernel_rfl) (eqf_cons (a:=.int .i64 a3) (b:=.int .i64 a3) (by decide) (by kernel_rfl) (by kernel_rfl) (by kernel_rfl) (eqf_cons (a:=.int .i64 a4) (b:=.int .i64 a4) (by decide) (by kernel_rfl) (by kernel_rfl) (by kernel_rfl) (eqf_cons (a:=.int .i64 a5) (b:=.int .i64 a5) (by decide) (by kernel_rfl) (by kernel_rfl) (by kernel_rfl) (eqf_cons (a:=.int .i64 a6) (b:=.int .i64 a6) (by decide) (by kernel_rfl) (by kernel_rfl) (by kernel_rfl) (eqf_cons (a:=.string a7) (b:=.string a7) (by decide) (by kernel_rfl) (by kernel_rfl) (by exact run_equalIn_string W 9998 9 a7 a7 Try.underlying9) (eqf_last (a:=.string a8) (b:=.string a8) (by decide) (by kernel_rfl) (by kernel_rfl) (by exact run_equalIn_string W 9998 9 a8 a8 Try.underlying9))))))))
theorem below_pastB {w w1:World} (hB:Below w.drew.heap.size w.drew w1):Below w.heap.size w w1:=below_from2 (below_drew (Below.refl _ _)) (Nat.le_refl _) hB
theorem keepT {W:World} {A A':Option Addr} {n c c':Nat} {xs:List Int} (hA:Kd.C (Kd.int .u8) W A n xs) (hA2:Kd.C (Kd.int .u8) W A' n xs):(convert 24 9 (.slice A n c)).run Try.prog W=.ok (.string (strOfNums xs)) W∧(convert 24 9 (.slice A' n c')).run Try.prog W=.ok (.string (strOfNums xs)) W :=
 ⟨Kd.C_string (c:=c) Try.underlying24 Try.underlying5 Try.underlying9 hA,Kd.C_string (c:=c') Try.underlying24 Try.underlying5 Try.underlying9 hA2⟩
set_option maxHeartbeats 16000000 in
set_option maxRecDepth 100000 in
theorem rback_ok (a1 a2 a3 a4 a5 a6:Int) (a7 a8:ByteArray) (hv:a8.size≤140737488351232) (A:Option Addr) (c:Nat) (xs:List Int) (w:World) (hr:Kd.C (Kd.int .u8) w A xs.length xs) (hc:xs.length≤c) (hb:AllB xs) (hl:xs.length≤140737488351232) :
  Calls Try.prog 5 #[.agg #[.int .i64 a1,.int .i64 a2,.int .i64 a3,.int .i64 a4,.int .i64 a5,.int .i64 a6,.string a7,.string a8],.slice A xs.length c] w fun e w'=>e=.returned (.bool true)∧Below w.heap.size w w':=by
 have hn:=rc_new w a1 a2 a3 a4 a5 a6 a7 a8
 have HB:=Aside0.mk (below_alloc (Below.refl w.heap.size w) (.cells #[.int .i64 a1,.int .i64 a2,.int .i64 a3,.int .i64 a4,.int .i64 a5,.int .i64 a6,.string a7,.string a8] 23))
 have HEN:=Aside0.mk (recenc_ok a1 a2 a3 a4 a5 a6 a7 a8 hv (w.alloc (.cells #[.int .i64 a1,.int .i64 a2,.int .i64 a3,.int .i64 a4,.int .i64 a5,.int .i64 a6,.string a7,.string a8] 23)))
 have HX:=Aside0.mk hr
 have HXC:=Aside0.mk hc
 have HXB:=Aside0.mk hb
 have HXL:=Aside0.mk hl
 have HN:=Aside0.mk hn
 have hfirst:(rightV (a1,a2,a3,a4,a5,a6,a7,a8)=true∧∃ F:List Int,frameF (a1,a2,a3,a4,a5,a6,a7,a8)=(F,0)∧AllB F∧F.length≤315∧decF9 (F++xs)=((a1,a2,a3,a4,a5,a6,a7,a8),(F.length:Int),0))∨frameF (a1,a2,a3,a4,a5,a6,a7,a8)=([],90):=by
  by_cases h:rightV (a1,a2,a3,a4,a5,a6,a7,a8)=true
  ·refine .inl ⟨h,frameB (a1,a2,a3,a4,a5,a6,a7,a8),by unfold frameF;rw [if_pos h],frame_allB _,?_,?_⟩
   ·rw [frame_length]
    have:=(fits_of h).2
    omega
   ·rw [dec_frame h xs,frame_length]
    rfl
  ·refine .inr ?_
   unfold frameF
   rw [if_neg h]
 have hsecond:(∃ y:RecV,decF9 xs=(y,(((bodyR y).length+6:Nat):Int),0)∧frameF y=(xs.take ((bodyR y).length+6),0)∧(bodyR y).length+6≤xs.length∧y.2.2.2.2.2.2.2.size≤140737488351232)∨∃ f:Int,decF9 xs=(zeroR,0,f)∧f≠0:=by
  obtain ⟨⟨y,n,f⟩,hd⟩:∃ D:RecV×Int×Int,decF9 xs=D:=⟨_,rfl⟩
  by_cases hf:f=0
  ·obtain ⟨h1,h2,h3,h4⟩:=frame_dec hb (by rw [hd];exact hf)
   rw [hd] at h1 h2 h3 h4
   dsimp only at h1 h2 h3 h4
   refine .inl ⟨y,?_,?_,h3,?_⟩
   ·rw [hd,hf,h2]
    rfl
   ·unfold frameF
    rw [if_pos h1,h4]
   ·have:=(fits_of h1).1.h8
    omega
  ·obtain ⟨h1,h2⟩:=dec9_not (xs:=xs) (by rw [hd];exact hf)
   rw [hd] at h1 h2
   dsimp only at h1 h2
   exact .inr ⟨f,by rw [hd,h1,h2],hf⟩
 obtain ⟨⟨b0,b1,b2,b3,b4,b5,b6,b7⟩,_⟩:=hn.cells
 have ltn:=hn.lt
 have HS:=Aside0.mk hsecond
 clear hr hc hb hl hn hv hsecond
 generalize frameF (a1,a2,a3,a4,a5,a6,a7,a8)=P at HEN hfirst
 obtain ⟨ps,pe⟩:=P
 dsimp only at HEN
 have HFI:=Aside0.mk hfirst
 clear hfirst
 go_enter Try.func5,Try.ntmps5
 go_upto_if 22 with (go_at_call 8;(with_reducible refine HEN.out.mono ?_);rintro e w2 ⟨A8,c8,rfl,hR,hB⟩;clear b0 b1 b2 b3 b4 b5 b6 b7;(replace HN:=Aside0.mk (HN.out.below hB));obtain ⟨⟨b0,b1,b2,b3,b4,b5,b6,b7⟩,_⟩:=HN.out.cells;(have ltn:=HN.out.lt);(replace HB:=Aside0.mk (rbelow_same HB.out hB));(have HR:=Aside0.mk (C_of_R hR).2);clear hR hB)
 go_cut [] (fun wx=>Aside0 (Below w.heap.size w wx))
 case first =>
  rcases HFI.out with ⟨hrv,F,hF,hFB,hFL,hFD⟩|hF
  ·obtain ⟨rfl,rfl⟩:=Prod.mk.inj hF
   obtain ⟨zs,hzs⟩:∃ zs,ps++xs=zs:=⟨_,rfl⟩
   have HZB:Aside0 (AllB zs):=⟨by rw [← hzs];exact allB_append hFB HXB.out⟩
   have HZL:Aside0 (zs.length≤140737488355328):=⟨by rw [← hzs,List.length_append];have:=HXL.out;omega⟩
   rw [hzs] at hFD
   have HZS:=Aside0.mk hzs
   have HFL:=Aside0.mk hFL
   have HFD:=Aside0.mk hFD
   have heq:=fun W=>neqRc W a1 a2 a3 a4 a5 a6 a7 a8
   clear hF hFB hFL hFD hrv HFI hzs
   go_wp2_with (first
    | ((with_reducible refine gate_builtin (b:=.append) (xs:=#[.tmp 23,.tmp 24]) rfl ?_);at_builtin;refine Kd.R_append_row (Value.int .u8) (0:Int) (h1:=fun _=>rfl) (w0:=w2) w2.heap.size rfl (.tmp 23) (.tmp 24) 24 5 (.int .u8 0) 1 rfl Try.underlying24 info8 rfl (by decide) (.slice none 0 0) [] ps A8 ps.length c8 (fun _=>True) rfl rfl (fun _ _=>trivial) (Kd.R_nil _ _ _ _ _) HR.out (Below.refl _ _) (Nat.le_refl _) ?aL ?_;(case aL=>(have:=HFL.out;simp;omega));intro v1 w3 ho hbel hg hat;rw [List.nil_append] at ho;obtain ⟨A1,c1,rfl⟩:=Kd.R_slice ho;(have HO1:=Aside0.mk ho);(have HB1:=Aside0.mk hbel);clear ho hbel hg hat)
    | ((with_reducible refine gate_builtin (b:=.append) (xs:=#[.tmp 26,.tmp 27]) rfl ?_);at_builtin;refine Kd.R_append_row (Value.int .u8) (0:Int) (h1:=fun _=>rfl) (w0:=w2) w2.heap.size rfl (.tmp 26) (.tmp 27) 24 5 (.int .u8 0) 1 rfl Try.underlying24 info8 rfl (by decide) (.slice A1 ps.length c1) ps xs A xs.length c (fun _=>True) rfl rfl (fun _ _=>trivial) HO1.out (Kd.C_below HX.out (rbelow_same HB.out HB1.out)) HB1.out HB1.out.size ?aL ?_;(case aL=>(have h1:=HFL.out;have h2:=HXL.out;omega));intro v2 w4 ho hbel hg hat;rw [HZS.out] at ho;obtain ⟨A2,c2,rfl,hc2,hC2⟩:=Kd.R_reads ho;clear b0 b1 b2 b3 b4 b5 b6 b7 ltn;(replace HN:=Aside0.mk (HN.out.below hbel));obtain ⟨⟨b0,b1,b2,b3,b4,b5,b6,b7⟩,_⟩:=HN.out.cells;(have ltn:=HN.out.lt);(replace HB:=Aside0.mk (rbelow_same HB.out hbel));(have hde:=recdec_ok A2 c2 zs w4 hC2 hc2 HZB.out HZL.out);rw [HFD.out] at hde;clear ho hbel hg hat hC2 hc2)
    | (go_at_call 13;(with_reducible refine hde.mono ?_);rintro e w5 ⟨rfl,hB⟩;clear b0 b1 b2 b3 b4 b5 b6 b7 ltn;(have HM:=Aside0.mk (rc_new w5 a1 a2 a3 a4 a5 a6 a7 a8));(replace HN:=Aside0.mk (HN.out.step hB (.cells #[.int .i64 a1,.int .i64 a2,.int .i64 a3,.int .i64 a4,.int .i64 a5,.int .i64 a6,.string a7,.string a8] 23)));obtain ⟨⟨b0,b1,b2,b3,b4,b5,b6,b7⟩,_⟩:=HN.out.cells;obtain ⟨⟨m0,m1,m2,m3,m4,m5,m6,m7⟩,_⟩:=HM.out.cells;(have ltn:=HN.out.lt);(replace HB:=Aside0.mk (rbelow_next HB.out hB (.cells #[.int .i64 a1,.int .i64 a2,.int .i64 a3,.int .i64 a4,.int .i64 a5,.int .i64 a6,.string a7,.string a8] 23)));clear hB hde))
   go_meet
   exact HB
  ·obtain ⟨rfl,rfl⟩:=Prod.mk.inj hF
   clear hF HFI
   go_wp2
   go_meet
   exact HB
 case rest =>
  have HW:=hcut
  clear hcut HB HN HR b0 b1 b2 b3 b4 b5 b6 b7 ltn HFI HEN
  have hde:=recdec_ok A c xs _ (Kd.C_below HX.out HW.out) HXC.out HXB.out (by have:=HXL.out;omega)
  rcases HS.out with ⟨⟨y1,y2,y3,y4,y5,y6,y7,y8⟩,hd,hF,hk,hsz⟩|⟨f,hd,hf⟩
  ·rw [hd] at hde
   generalize (bodyR (y1,y2,y3,y4,y5,y6,y7,y8)).length+6=k at hd hF hk hde
   have HK:=Aside0.mk hk
   have HF:=Aside0.mk hF
   have HSZ:=Aside0.mk hsz
   have HTL:Aside0 ((xs.take k).length=k):=⟨by rw [List.length_take];omega⟩
   clear hd hF hsz HS
   go_upto_region 13 with (first
    | (go_at_call 13;(with_reducible refine hde.mono ?_);rintro e w5 ⟨rfl,hB⟩;(have HM:=Aside0.mk (rc_new w5 y1 y2 y3 y4 y5 y6 y7 y8));obtain ⟨⟨m0,m1,m2,m3,m4,m5,m6,m7⟩,_⟩:=HM.out.cells;(have ltm:=HM.out.lt);(replace HW:=Aside0.mk (rbelow_next HW.out hB (.cells #[.int .i64 y1,.int .i64 y2,.int .i64 y3,.int .i64 y4,.int .i64 y5,.int .i64 y6,.string y7,.string y8] 23)));(have hen:=recenc_ok y1 y2 y3 y4 y5 y6 y7 y8 HSZ.out (w5.alloc (.cells #[.int .i64 y1,.int .i64 y2,.int .i64 y3,.int .i64 y4,.int .i64 y5,.int .i64 y6,.string y7,.string y8] 23)));rw [HF.out] at hen;dsimp only at hen;rw [HTL.out] at hen;clear hB hde)
    | (go_at_call 8;(with_reducible refine hen.mono ?_);rintro e w6 ⟨A9,c9,rfl,hR,hB⟩;clear m0 m1 m2 m3 m4 m5 m6 m7 ltm HM;(replace HW:=Aside0.mk (rbelow_same HW.out hB));(have HA:=Aside0.mk (by have h:=(C_of_R hR).2;rw [HTL.out] at h;exact h));clear hB hR hen))
   have hcut:∀ W:World,(Instr.slice 24 (.slice A xs.length c) none (some (.int .i64 (k:Int))) none).run Try.prog W=.ok (.slice A k c) W:=by
    intro W
    have h:=cut_to (P:=Try.prog) 24 5 .i64 Try.underlying24 (info_parts info8).choose_spec.1 A xs.length c (k:Int) (by omega) (by have:=HK.out;omega) HXC.out W
    rw [Int.toNat_natCast] at h
    exact h
   have HC2:Aside0 (Kd.C (Kd.int .u8) w6 A k (xs.take k)):=⟨by have h:=Kd.C_take (Kd.C_below HX.out HW.out) HK.out;rw [HTL.out] at h;exact h⟩
   have hkd:decide ((k:Int)≤(xs.length:Int))=true:=decide_eq_true (by have:=HK.out;omega)
   have hkn:=HK.out
   go_region_held3 (fun w'=>(convert 24 9 (.slice A9 k c9)).run Try.prog w'=.ok (.string (strOfNums (xs.take k))) w'∧(convert 24 9 (.slice A k c)).run Try.prog w'=.ok (.string (strOfNums (xs.take k))) w')
    (first|(with_reducible exact keepT HA.out HC2.out)|(with_reducible exact keepT (Kd.C_below HA.out (below_drew (Below.refl _ _))) (Kd.C_below HC2.out (below_drew (Below.refl _ _)))))
    (first
     | (go_at_call 12;(with_reducible refine (speaks9_ok _).mono ?_);rintro e w7 ⟨rfl,hB⟩;(replace hB:=below_pastB hB);(replace HW:=Aside0.mk (rbelow_same HW.out hB));(replace HA:=Aside0.mk (Kd.C_below HA.out hB));(replace HC2:=Aside0.mk (Kd.C_below HC2.out hB));clear hB))
   all_goals
    go_wp2
    go_ret
    exact ⟨rfl,HW.out⟩
  ·rw [hd] at hde
   dsimp only [zeroR] at hde
   have hfd:(f != 0)=true:=by simp [hf]
   have heq:=fun W=>eqRc W 0 0 0 0 0 0 ⟨#[]⟩ ⟨#[]⟩
   clear hd hf HS
   go_wp2_with (first
    | (go_at_call 13;(with_reducible refine hde.mono ?_);rintro e w5 ⟨rfl,hB⟩;(have HM:=Aside0.mk (rc_new w5 0 0 0 0 0 0 ⟨#[]⟩ ⟨#[]⟩));obtain ⟨⟨m0,m1,m2,m3,m4,m5,m6,m7⟩,_⟩:=HM.out.cells;(have ltm:=HM.out.lt);(replace HW:=Aside0.mk (rbelow_next HW.out hB (.cells #[.int .i64 0,.int .i64 0,.int .i64 0,.int .i64 0,.int .i64 0,.int .i64 0,.string ⟨#[]⟩,.string ⟨#[]⟩] 23)));(have hsp:=speaks9_ok (w5.alloc (.cells #[.int .i64 0,.int .i64 0,.int .i64 0,.int .i64 0,.int .i64 0,.int .i64 0,.string ⟨#[]⟩,.string ⟨#[]⟩] 23)));clear hB hde)
    | (go_at_call 12;(with_reducible refine hsp.mono ?_);rintro e w6 ⟨rfl,hB⟩;(replace HW:=Aside0.mk (rbelow_same HW.out hB));clear hB hsp))
   go_ret
   exact ⟨rfl,HW.out⟩
end Go.Proofs.Yteipehiiaggenaa.Rec

namespace Go.Proofs.Yteipehiiaggenaa.Pr
open Go.RowKit Go.Proofs.YteipehiiaggenaaW.PrintWords Go.Proofs.YteipehiiaggenaaW.PrintLast Go.Proofs.YteipehiiaggenaaW.PrintMore
attribute [local go_sem] max2_int min2_int max_two min_two max_three min_three max_four min_four
set_option linter.unusedVariables false
set_option linter.unusedSimpArgs false
noncomputable def latticelaw09_RecordBack.f (a0_0 a0_1 a0_2 a0_3 a0_4 a0_5:Int) (a0_6 a0_7:ByteArray) (a1:List Int):Option Bool:=@ite _ (a0_7.size≤140737488351232∧Back.AllB a1∧a1.length≤140737488351232) (Classical.propDecidable _) (some true) none
theorem latticelaw09_RecordBack.calls (a0_0 a0_1 a0_2 a0_3 a0_4 a0_5:Int) (a0_6 a0_7:ByteArray) (A1:Option Addr) (c1:Nat) (a1:List Int) (r:Bool) (w:World) (hr1:Kd.C (Kd.int .u8) w A1 a1.length a1) (hc1:a1.length≤c1) (h:latticelaw09_RecordBack.f a0_0 a0_1 a0_2 a0_3 a0_4 a0_5 a0_6 a0_7 a1=some r) :
  Calls Try.prog 5 #[.agg #[.int .i64 a0_0,.int .i64 a0_1,.int .i64 a0_2,.int .i64 a0_3,.int .i64 a0_4,.int .i64 a0_5,.string a0_6,.string a0_7],.slice A1 a1.length c1] w fun e w'=>e=.returned (.bool r)∧Below w.heap.size w w':=by
 unfold latticelaw09_RecordBack.f at h
 split at h
 ·rename_i hn
  injection h with h
  subst h
  exact Rec.rback_ok a0_0 a0_1 a0_2 a0_3 a0_4 a0_5 a0_6 a0_7 hn.1 A1 c1 a1 w hr1 hc1 hn.2.1 hn.2.2
 ·cases h
end Go.Proofs.Yteipehiiaggenaa.Pr

namespace Go.Proofs.Yteipehiiaggenaa.Open
open Go.RowKit Go.ChangeShapes Go.WideShapes Go.Proofs.YteipehiiaggenaaW.PrintWords
section
variable {P:Program} {t e:TypeId}
theorem opn_string (ht:P.underlying t=some .string) (hc:P.cellsOf t=1):Opn P t Kd.string (fun y=>y.size≤reachN) (fun y=>y.size+1) where
 sz:=hc
 out:=by
  intro H enc W n cs x h hq
  obtain ⟨y,rfl,rfl,hw⟩:=DataW.trod_string ht h
  have:=hq y.data.toList.length (by simp [DataW.weights])
  exact ⟨y,rfl,by simpa using this,by simp [Rows.uptoBulk]⟩
structure OpnF (P:Program) (fs:List Field) (o:Nat) {α:Type} (d:Kd α) (g:α→Prop) (m:α→Nat):Prop where
 out:∀ (H:Type) (enc:TypeId×Value→H) (W:World) (n:Nat) (cs:List Value) (xs:List (DataW H×List MemPlace)),cs.length=o+d.sz→xs.length=fs.length →
  (∀ (i:Nat) (f:Field),fs[i]?=some f→DataW.trod enc P W 0 (fun _=>true) true n f.type ((cs.drop f.offset).take (P.cellsOf f.type))=xs[i]?) →
  (∀ q ∈ DataW.weightsEach P (fs.map (·.type)) (xs.map (·.1)),q≤reachN)→∃ y:α,d.K W y (cs.drop o)∧g y∧m y≤Rows.uptoBulkAll (xs.map (·.1))
theorem opnF_last {α:Type} {f:Field} {o:Nat} {d:Kd α} {g:α→Prop} {m:α→Nat} (hf:f.offset=o) (h:Opn P f.type d g m):OpnF P [f] o d g m where
 out:=by
  intro H enc W n cs xs hcs hxs hel hq
  match xs,hxs with
  | [x],_ =>
   have h0:=hel 0 f rfl
   rw [hf,h.sz,List.take_of_length_le (by rw [List.length_drop];omega)] at h0
   obtain ⟨y,hy,hg,hb⟩:=h.out H enc W n _ x (by simpa using h0) (fun q hq'=>hq q (by simp [DataW.weightsEach];exact hq'))
   exact ⟨y,hy,hg,by simp [Rows.uptoBulkAll];exact hb⟩
theorem opnF_cons {α β:Type} {f:Field} {fs:List Field} {o:Nat} {a:Kd α} {b:Kd β} {g:α→Prop} {m:α→Nat} {g':β→Prop} {m':β→Nat} (hf:f.offset=o) (h:Opn P f.type a g m) (hr:OpnF P fs (o+a.sz) b g' m') :
  OpnF P (f::fs) o (Kd.pair a b) (fun y=>g y.1∧g' y.2) (fun y=>m y.1+m' y.2) where
 out:=by
  intro H enc W n cs xs hcs hxs hel hq
  match xs,hxs with
  | x::xs,hxs =>
   have hsz:(Kd.pair a b).sz=a.sz+b.sz:=rfl
   have h0:=hel 0 f rfl
   rw [hf,h.sz] at h0
   obtain ⟨y,hy,hg,hb⟩:=h.out H enc W n _ x (by simpa using h0) (fun q hq'=>hq q (by simp only [List.map_cons,DataW.weightsEach];exact List.mem_append_left _ hq'))
   obtain ⟨z,hz,hg',hb'⟩:=hr.out H enc W n cs xs (by omega) (by simpa using hxs) (fun i f' hf'=>by simpa using hel (i+1) f' (by simpa using hf')) (fun q hq'=>hq q (by simp only [List.map_cons,DataW.weightsEach];exact List.mem_append_right _ hq'))
   refine ⟨(y,z),⟨(cs.drop o).take a.sz,cs.drop (o+a.sz),?_,hy,hz⟩,⟨hg,hg'⟩,?_⟩
   ·rw [← List.drop_drop,List.take_append_drop]
   ·simp only [List.map_cons,Rows.uptoBulkAll]
    omega
theorem opn_struct {α β:Type} {fs:Array Field} {d:Kd α} {g:α→Prop} {m:α→Nat} (ht:P.underlying t=some (.struct fs)) (hc:P.cellsOf t=d.sz) (h:OpnF P fs.toList 0 d g m) (f:β→α) (inv:α→β) (hfi:∀ a,f (inv a)=a) :
  Opn P t (Kd.iso d f) (fun y=>g (f y)) (fun y=>m (f y)+1) where
 sz:=hc
 out:=by
  intro H enc W n cs x hx hq
  obtain ⟨xs,n,_,rfl,hl,hxs,hel⟩:=DataW.trod_struct ht hx
  obtain ⟨y,hy,hg,hb⟩:=h.out H enc W n cs xs (by omega) (by simpa using hxs) (fun i f' hf'=>hel i f' (by simpa using hf')) (fun q hq'=>hq q (by simp only [DataW.weights,ht];exact hq'))
  refine ⟨inv y,?_,?_,?_⟩
  ·show d.K W (f (inv y)) cs
   rw [hfi]
   simpa using hy
  ·rw [hfi];exact hg
  ·rw [hfi];simp only [Rows.uptoBulk];omega
end
end Go.Proofs.Yteipehiiaggenaa.Open

namespace Go.Proofs.Yteipehiiaggenaa.Pr
open Go.RowKit
set_option linter.unusedVariables false
def good23 (y:S23):Prop:=(Lit.int .i64 y.f0).wf=true∧(Lit.int .i64 y.f1).wf=true∧(Lit.int .i64 y.f2).wf=true∧(Lit.int .i64 y.f3).wf=true∧(Lit.int .i64 y.f4).wf=true∧(Lit.int .i64 y.f5).wf=true∧y.f6.size≤140737488351232∧y.f7.size≤140737488351232
def bulk23 (y:S23):Nat:=(1+(1+(1+(1+(1+(1+((y.f6.size+1)+(y.f7.size+1))))))))+1
end Go.Proofs.Yteipehiiaggenaa.Pr

namespace Go.Proofs.Yteipehiiaggenaa.Pr
open Go.RowKit Go.Proofs.YteipehiiaggenaaW.PrintWords
theorem opn23:Open.Opn Try.prog 23 k23 good23 bulk23 :=
 Open.opn_struct Try.underlying23 (by kernel_rfl) (Open.opnF_cons rfl (Open.opn_int Try.underlying3 (by kernel_rfl)) (Open.opnF_cons rfl (Open.opn_int Try.underlying3 (by kernel_rfl)) (Open.opnF_cons rfl (Open.opn_int Try.underlying3 (by kernel_rfl)) (Open.opnF_cons rfl (Open.opn_int Try.underlying3 (by kernel_rfl)) (Open.opnF_cons rfl (Open.opn_int Try.underlying3 (by kernel_rfl)) (Open.opnF_cons rfl (Open.opn_int Try.underlying3 (by kernel_rfl)) (Open.opnF_cons rfl (Open.opn_string Try.underlying9 (by kernel_rfl)) (Open.opnF_last rfl (Open.opn_string Try.underlying9 (by kernel_rfl)))))))))) (fun x:S23=>(x.f0,x.f1,x.f2,x.f3,x.f4,x.f5,x.f6,x.f7)) (fun p=>⟨p.1,p.2.1,p.2.2.1,p.2.2.2.1,p.2.2.2.2.1,p.2.2.2.2.2.1,p.2.2.2.2.2.2.1,p.2.2.2.2.2.2.2⟩) (fun _=>rfl)
end Go.Proofs.Yteipehiiaggenaa.Pr

namespace Go.Proofs.Yteipehiiaggenaa.Pr
open Go.RowKit Go.Proofs.YteipehiiaggenaaW.PrintWords Go.Proofs.YteipehiiaggenaaW.PrintLast
set_option linter.unusedVariables false in
def latticelaw09_RecordBack.Stated:Prop:=∀ (a0:S23) (a1:List Int),(good23 a0)→((a1.length≤maxLen∧a1.length*1≤140737488351232∧∀ e ∈ a1,(Lit.int .u8 e).wf=true))→latticelaw09_RecordBack.f a0.f0 a0.f1 a0.f2 a0.f3 a0.f4 a0.f5 a0.f6 a0.f7 a1=some true
end Go.Proofs.Yteipehiiaggenaa.Pr

namespace Go.Proofs.Yteipehiiaggenaa.Pure
open Go.RowKit Go.Proofs.Yteipehiiaggenaa.Pr Go.Proofs.YteipehiiaggenaaW.PrintWords Go.Proofs.YteipehiiaggenaaW.PrintLast
theorem RecordBack:latticelaw09_RecordBack.Stated:=by
 intro a0 a1 ha hl
 obtain ⟨_,_,_,_,_,_,_,hv⟩:=ha
 unfold latticelaw09_RecordBack.f
 rw [if_pos]
 refine ⟨by omega,?_,by have:=hl.2.1;omega⟩
 intro x hx
 have:=Go.bounds_u8 (hl.2.2 x hx)
 omega
end Go.Proofs.Yteipehiiaggenaa.Pure

/- The law RecordBack returns true at every input, and each argument reads afterwards as it read before: THERE AND BACK: a frame, with anything behind it, is read as its record, and what is read is written the same.
   Conditions: none but those that the row itself prints. Written by a program of this session over the kit's printer. -/
namespace Go.Proofs.Yteipehiiaggenaa.recordBack
open Go.ChangeShapes Go.WideShapes Go.ChangeAt Go.RowKit
open Go.ChangeMaps (open_string shut_string)
set_option linter.unusedVariables false
theorem own:ownKnob Try.prog.godebug=none:=by kernel_rfl
theorem laidOut:laidOutB Try.prog=true:=by kernel_rfl
set_option maxRecDepth 100000 in
theorem lifted (os:Os) (started:os.Started) (H:Type) (enc:TypeId×Value→H) :
  ReturnsInHanded {} Try.checked os 5 .any (Rows.recordBackSpec.pre6 enc Try.prog Try.f5 Rows.recordBackRow.domain false) (Rows.recordBackSpec.post enc Try.prog Try.f5 false true false false):=by
 refine returnsInHanded_of_change_sized (C:=Try.checked) own started (by kernel_rfl) Try.func5
  (ChangeSpec.witness6 (enc:=enc) (C:=Try.checked) false ⟨#[],#[.agg #[.int .i64 0,.int .i64 0,.int .i64 0,.int .i64 0,.int .i64 0,.int .i64 0,.string ByteArray.empty,.string ByteArray.empty],.slice none 0 0],[]⟩ 8 (by kernel_rfl) (by kernel_rfl) (by kernel_rfl) (by kernel_rfl)) ?_
 intro W base args ds gs before hval0 hW hcnd hsz0 _
 have hsz:(DataW.weightsEach Try.prog (Try.f5.params.toList++Rows.recordBackSpec.plain.varTypes Try.prog) (ds++gs)).all (·≤reachBytes)=true:=hsz0
 have hval:∀ (j:Nat) t v,Try.f5.params[j]?=some t→args[j]?=some v→Value.okWide Try.prog W .any base t v:=hval0
 have hW':=hW
 obtain ⟨p,q,hA0,hV,rfl,hfz,hnd⟩:=hW
 have hA:DataW.TrodAll enc Try.prog W 0 (fun _=>true) true Try.f5.params.toList args.toList ds p:=hA0
 rw [Try.params5] at hA hval hsz
 obtain ⟨v0,vs0,d0,ds0,p0,q0,hargs,rfl,rfl,h0,r0⟩:=trodAll_cons hA
 obtain ⟨v1,vs1,d1,ds1,p1,q1,rfl,rfl,rfl,h1,r1⟩:=trodAll_cons r0
 obtain ⟨rfl,rfl,rfl⟩:=trodAll_nil r1
 obtain rfl:args=#[v0,v1]:=by cases args;simp_all
 obtain ⟨rfl,rfl⟩:=trodVars_none hV
 have k0:=h0
 have lt0:∀ x ∈ p0,x.block < W.heap.size:=by obtain ⟨m,hm⟩:=k0;exact DataW.trod_lt m _ _ _ hm
 obtain ⟨n0,hf0⟩:=h0
 obtain ⟨y0,K0,g0,m0⟩:=Pr.opn23.out H enc W n0 _ _ hf0 (Open.weights_at hsz (j:=0) (t:=23) rfl rfl)
 obtain ⟨cs0,rfl,_⟩:=okWide_struct Try.underlying23 (hval 0 23 v0 rfl rfl)
 have e0:=Pr.k23_open K0
 obtain rfl:cs0=#[.int .i64 y0.f0,.int .i64 y0.f1,.int .i64 y0.f2,.int .i64 y0.f3,.int .i64 y0.f4,.int .i64 y0.f5,.string y0.f6,.string y0.f7]:=by cases cs0;simp only [Value.cells] at e0;rw [e0]
 have k1:=h1
 have lt1:∀ x ∈ p1,x.block < W.heap.size:=by obtain ⟨m,hm⟩:=k1;exact DataW.trod_lt m _ _ _ hm
 obtain ⟨n1,hf1⟩:=h1
 obtain ⟨y1,K1,g1,m1⟩:=(Open.opn_slice (B:=1) Try.underlying24 (by kernel_rfl) (by kernel_rfl) (Open.opn_int Try.underlying5 (by kernel_rfl))).out H enc W n1 _ _ hf1 (Open.weights_at hsz (j:=1) (t:=24) rfl rfl)
 obtain ⟨a1,len1,cap1,rfl⟩:=okWide_slice Try.underlying24 (hval 1 24 v1 rfl rfl)
 obtain ⟨A1,c1,e1,hc1,hr1⟩:=K1
 simp only [Value.cells,List.cons.injEq,Value.slice.injEq,and_true] at e1
 obtain ⟨rfl,rfl,rfl⟩:=e1
 clear hA0 hval0 hsz0 hsz
 have hk:=Pure.RecordBack y0 y1 g0 g1
 refine (Pr.latticelaw09_RecordBack.calls y0.f0 y0.f1 y0.f2 y0.f3 y0.f4 y0.f5 y0.f6 y0.f7 _ _ y1 true W hr1 hc1 hk).mono fun e W' ⟨he,bel0⟩=>?_
 have bel:Below W.heap.size W W':=bel0
 subst he
 exact ⟨_,rfl,_,_,_,[],_,[],hW',trodAll_mk1 (shut_bool Try.underlying4 _),(trodAll_cons_mk (Below.trod laidOut (by kernel_rfl) (of_decide_eq_true (by kernel_rfl)) k0 bel lt0) (trodAll_cons_mk (Below.trod laidOut (by kernel_rfl) (of_decide_eq_true (by kernel_rfl)) k1 bel lt1) trodAll_mk0)),rfl,bel.frame _,fun h=>by cases h⟩
theorem over:Rows.recordBackRow.holds Try.pinned (OpenSpec.ofChange Rows.recordBackSpec) :=
 OpenClaim.holds_of_wide 5 Try.f5 rfl rfl rfl rfl rfl rfl rfl ⟨rfl,rfl,rfl,rfl,rfl⟩ rfl rfl rfl rfl rfl (by kernel_rfl) Try.func5 (by kernel_rfl)
  (of_decide_eq_true (by kernel_rfl)) (by unfold Func.isWrapper;first|(rw [if_pos (by decide +kernel)];kernel_rfl)|(rw [if_neg (by decide +kernel)];exact ⟨rfl,rfl⟩))
  (fun os started H enc _=>lifted os started H enc)
theorem proved:Rows.RecordBackSaid:=over
#print axioms proved
end Go.Proofs.Yteipehiiaggenaa.recordBack
namespace Go.Proofs.Yteipehiiaggenaa
theorem recordBack_holds:Rows.RecordBackSaid:=recordBack.proved
end Go.Proofs.Yteipehiiaggenaa
