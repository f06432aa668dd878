-- Parts melded by a program of this session.
import Derived.Below
import Derived.Deep.Draws
import Derived.Deep.AppendLies
import Derived.Maps.AppendAt
import Derived.OwnWalk
import Derived.Laws.BytesArg
import Derived.Laws.MakeOwn
import Derived.Laws.OwnMore
import Derived.Deep.OwnRows
import Derived.Tactics
import Derived.Lib.ConvBytes
import Derived.Laws.Slices
import Derived.WalkKit
import Derived.KernelRfl
import Derived.RowKit3
import Derived.Deep.LoopGhost
import Derived.Deep.QuietTactic
import Derived.BigQuiet
import Derived.WideLaws
import Derived.Deep.DeepCutAuto
import Derived.Deep.CutBlock
import Derived.Deep.RegionHeld3
import Derived.Laws.Rows
import Derived.Lib.AppendStr
import Derived.ArgAppend
import Derived.Laws.IdiomCopy
import Derived.RowKit
import Derived.Test.YteipehiiaggenaaTRecordDecodesWWords
import Derived.OrdersHeld
import Derived.Laws.BitsLemmas
import Derived.Test.YteipehiiaggenaaTRecordDecodesWRest
import Derived.Laws.StructEq
import Derived.Test.YteipehiiaggenaaProg
import Derived.Shelf.Abstract
import Derived.Test.YteipehiiaggenaaTRecordDecodesPrx0
import Derived.OneCell
import Derived.Lib.SliceRun
import Derived.Test.YteipehiiaggenaaTRecordDecodesWire
import Derived.RangeFuncBox
import Derived.RangeFuncLeaves
import Derived.OwnWalkIn
import Derived.TacticsInMore
import Derived.LoopNIn
import Derived.LoopIn
import Derived.Lib.Hide
import Derived.Test.YteipehiiaggenaaTRecordDecodesBack
import Derived.Outline
import Derived.Test.YteipehiiaggenaaTRecordDecodesRead
import Derived.Test.YteipehiiaggenaaTRecordDecodesFrom
import Derived.Test.YteipehiiaggenaaTRecordDecodesNd
import Derived.Laws.BitsAllLaws
import Derived.Test.YteipehiiaggenaaTRecordDecodesCrc
import Derived.Test.YteipehiiaggenaaTRecordDecodesPrx2
import Derived.Test.YteipehiiaggenaaTRecordDecodesPrx1
import Derived.Test.YteipehiiaggenaaTRecordDecodesPrx6
import Derived.Test.YteipehiiaggenaaTRecordDecodesPrx13
import Derived.Test.YteipehiiaggenaaTRecordDecodesPureNode
import Derived.Deep.RegionLaw
import Derived.Laws.CopyOwn
import Derived.Test.YteipehiiaggenaaTRecordDecodesPageEnc
import Derived.Test.YteipehiiaggenaaTRecordDecodesPageFit
import Derived.Test.YteipehiiaggenaaTRecordDecodesPageRd
import Derived.Test.YteipehiiaggenaaTRecordDecodesPageNode
import Derived.Test.YteipehiiaggenaaTRecordDecodesPrx3
import Derived.Test.YteipehiiaggenaaTRecordDecodesPageDec
import Derived.Test.YteipehiiaggenaaTRecordDecodesRefWr
import Derived.Test.YteipehiiaggenaaTRecordDecodesCrcRef
import Derived.Test.YteipehiiaggenaaTRecordDecodesPageRt
import Derived.Test.YteipehiiaggenaaTRecordDecodesPrx8
import Derived.Test.YteipehiiaggenaaTRecordDecodesPrx14
import Derived.Test.YteipehiiaggenaaTRecordDecodesPagePure
import Derived.Test.YteipehiiaggenaaTRecordDecodesRefRd
import Derived.Test.YteipehiiaggenaaTRecordDecodesPageRef
import Derived.Test.YteipehiiaggenaaTRecordDecodesRecImg
import Derived.Test.YteipehiiaggenaaTRecordDecodesRecRgt
import Derived.Lib.SlBytesConst
import Derived.StillTailTactics
import Derived.Test.YteipehiiaggenaaTRecordDecodesRecV
import Derived.Test.YteipehiiaggenaaTRecordDecodesRecChkP
import Derived.Test.YteipehiiaggenaaTRecordDecodesRecChkA
import Derived.Test.YteipehiiaggenaaTRecordDecodesRecChkB
import Derived.Test.YteipehiiaggenaaTRecordDecodesRecChkC
import Derived.Test.YteipehiiaggenaaTRecordDecodesRecChkD
import Derived.Test.YteipehiiaggenaaTRecordDecodesRecChk
import Derived.Test.YteipehiiaggenaaTRecordDecodesRecEnc
import Derived.Test.YteipehiiaggenaaTRecordDecodesRecRead
import Derived.Test.YteipehiiaggenaaTRecordDecodesRecDec
import Derived.Test.YteipehiiaggenaaTRecordDecodesRecRight
import Derived.Test.YteipehiiaggenaaTRecordDecodesRecRefDec
import Derived.Test.YteipehiiaggenaaTRecordDecodesRecLaw
import Derived.Test.YteipehiiaggenaaTRecordDecodesPrx9
import Derived.Test.YteipehiiaggenaaTRecordDecodesPrx10
import Derived.Test.YteipehiiaggenaaTRecordDecodesPrx12
import Derived.Test.YteipehiiaggenaaRows
import Derived.OpenShut
import Derived.SizedLaws
import Derived.ChangeArms
import Derived.ChangeOld
import Derived.DataReads
import Derived.Test.YteipehiiaggenaaTRecordDecodesOpen
import Derived.ProofKit
import Derived.ShutString
import Derived.Carry
set_option linter.unusedVariables false
set_option linter.unusedSimpArgs false
namespace Go.Proofs.YteipehiiaggenaaW.PrintWords
open Go.RowKit
theorem own_string {P:Program} {w:World} {base n:Nat} {e' src dst e:TypeId} {v:Value} {xs:List Int} (hs:P.underlying src=some (.slice e)) (he:P.underlying e=some (.int .u8)) (hd:P.underlying dst=some .string)
    (h:w.ownsRow base e' 1 v n (nums .u8 xs)):(convert src dst v).run P w=.ok (.string (strOfNums xs)) w:=by
  have hl:xs.length=n:=by have:=h.1;simp [nums] at this;exact this
  rcases h.2 with ⟨rfl,rfl⟩|⟨g,cap,cur,rfl,_⟩
  · obtain rfl:xs=[]:=List.eq_nil_of_length_eq_zero hl
    exact run_convert_bytes_nil w src e hs he 0 0 dst hd
  · refine run_convert_bytes_arg w src e hs he g 0 n cap xs hl (fun i hi=>?_) dst hd
    have hc:=h.cells (g:=g) rfl i (.int .u8 (xs.getD i 0)) (by simp [nums,List.getElem?_eq_getElem (show i < xs.length by omega),List.getD_eq_getElem?_getD])
    have ha:(⟨g,0,none⟩:Addr).add i=⟨g,0+i,none⟩:=by unfold Addr.add;split <;> simp_all
    rwa [ha] at hc
section
variable {P:Program} {ops:Array Oper} {rest:List Oper} {o:Oper} {a:Act} {Q:Exit→Act→World→Prop}
end
section
variable {P:Program} {ops:Array Oper} {o:Oper} {a:Act} {Q:Exit→Act→World→Prop} {K:Act→World→Prop}
end
section
variable {α:Type} {enc:α→Value} {d:α}
end
section
variable {α:Type} {P:Program} {ops:Array Oper} {rest:List Oper} {o:Oper} {a:Act} {Q:Exit→Act→World→Prop}
end
section
variable {P:Program}
end
section
variable {α:Type} {R R':α→List Value→Prop} {e:TypeId} {size:Nat} {w w1:World} {base:Nat} {v:Value} {ps:List α}
end
section
variable {P:Program} {ops:Array Oper} {rest:List Oper} {o:Oper} {a:Act} {Q:Exit→Act→World→Prop} {α:Type} {R:α→List Value→Prop}
end
namespace Kd
section
variable {α:Type} {d:Kd α} {e:Nat} {w w1:World} {base:Nat} {ok ok':Nat→Prop} {v:Value} {xs:List α}
end
def pair {α β:Type} (a:Kd α) (b:Kd β):Kd (α×β) where
  sz:=a.sz+b.sz
  E:=a.E++b.E
  K:=fun w x cs=>∃ c0 c1,cs=c0++c1∧a.K w x.1 c0∧b.K w x.2 c1
  M:=fun w base ok x cs=>∃ c0 c1,cs=c0++c1∧a.M w base ok x.1 c0∧b.M w base ok x.2 c1
  K_len:=by
    rintro w x cs ⟨c0,c1,rfl,h0,h1⟩
    rw [List.length_append,a.K_len h0,b.K_len h1]
  K_one:=by
    rintro w x cs ⟨c0,c1,rfl,h0,h1⟩ u hu
    rcases List.mem_append.1 hu with hu|hu
    · exact a.K_one h0 u hu
    · exact b.K_one h1 u hu
  K_below:=by
    rintro w w1 x cs hb ⟨c0,c1,rfl,h0,h1⟩
    exact ⟨c0,c1,rfl,a.K_below hb h0,b.K_below hb h1⟩
  K_of_M:=by
    rintro w base ok x cs ⟨c0,c1,rfl,h0,h1⟩
    exact ⟨c0,c1,rfl,a.K_of_M h0,b.K_of_M h1⟩
  M_mono:=by
    rintro w base ok ok' x cs hok ⟨c0,c1,rfl,h0,h1⟩
    exact ⟨c0,c1,rfl,a.M_mono hok h0,b.M_mono hok h1⟩
  M_bound:=by
    rintro w base ok x cs ⟨c0,c1,rfl,h0,h1⟩
    refine ⟨c0,c1,rfl,a.M_mono ?_ (a.M_bound h0),b.M_mono ?_ (b.M_bound h1)⟩
    · rintro k ⟨h2,h3,h4,q,hq,hc⟩
      exact ⟨h2,h3,h4,q,List.mem_append_left _ hq,hc⟩
    · rintro k ⟨h2,h3,h4,q,hq,hc⟩
      exact ⟨h2,h3,h4,q,List.mem_append_right _ hq,hc⟩
  M_move:=by
    rintro w w1 base ok x cs hm ⟨c0,c1,rfl,h0,h1⟩
    exact ⟨c0,c1,rfl,a.M_move hm h0,b.M_move hm h1⟩
  M_lower:=by
    rintro w base base' ok x cs hb ⟨c0,c1,rfl,h0,h1⟩
    exact ⟨c0,c1,rfl,a.M_lower hb h0,b.M_lower hb h1⟩
def iso {α β:Type} (d:Kd α) (f:β→α):Kd β where
  sz:=d.sz
  E:=d.E
  K:=fun w x cs=>d.K w (f x) cs
  M:=fun w base ok x cs=>d.M w base ok (f x) cs
  K_len:=d.K_len
  K_one:=d.K_one
  K_below:=d.K_below
  K_of_M:=d.K_of_M
  M_mono:=d.M_mono
  M_bound:=d.M_bound
  M_move:=d.M_move
  M_lower:=d.M_lower
section
variable {P:Program} {ops:Array Oper} {rest:List Oper} {o:Oper} {a:Act} {Q:Exit→Act→World→Prop} {α:Type}
end
section
variable {P:Program} {ops:Array Oper} {o:Oper} {a:Act} {Q:Exit→Act→World→Prop} {Kc:Act→World→Prop} {α:Type}
end
end Kd
namespace Kd
end Kd
namespace Kd
section
variable {α β:Type} {d:Kd α} {d':Kd β} {e e':Nat} {w w1 W:World} {base b b':Nat} {ok ok' okv oku:Nat→Prop} {v u:Value} {xs:List α} {ys:List β}
end
section
variable {w W:World} {A:Option Addr} {n:Nat}
end
section
variable {P:Program} {ops:Array Oper} {rest:List Oper} {o:Oper} {a:Act} {Q:Exit→Act→World→Prop}
end
end Kd
section
variable {P:Program}
end
section
variable {w w1:World} {base n size:Nat} {e:TypeId} {v:Value} {xs:List Value}
end
namespace Kd
section
variable {α:Type} {d:Kd α} {e:Nat} {w w1 W:World} {base:Nat} {ok ok':Nat→Prop} {v:Value} {xs:List α}
end
end Kd
namespace Kd
section
variable {α:Type} {d:Kd α} {e e':Nat} {w w1 W:World} {base:Nat} {ok:Nat→Prop} {u v:Value} {xs:List α}
end
end Kd
namespace Kd
section
variable {P:Program} {ops:Array Oper} {rest:List Oper} {o:Oper} {a:Act} {Q:Exit→Act→World→Prop} {α:Type}
end
end Kd
namespace Kd
section
variable {α:Type} {k:Kd α} {w:World} {A:Option Addr} {xs:List α} {m c:Nat}
end
end Kd
section
variable {P:Program}
end
section
variable {P:Program} {ops:Array Oper} {rest:List Oper} {o:Oper} {a:Act} {Q:Exit→Act→World→Prop}
end
section
variable {P:Program} {ops:Array Oper} {rest:List Oper} {o:Oper} {a:Act} {Q:Exit→Act→World→Prop} {W:World}
end
end Go.Proofs.YteipehiiaggenaaW.PrintWords

namespace Go.Proofs.Yteipehiiaggenaa.Pr
open Go.RowKit Go.Proofs.YteipehiiaggenaaW.PrintWords Go.Proofs.YteipehiiaggenaaW.PrintLast Go.Proofs.YteipehiiaggenaaW.PrintMore
attribute [local go_sem] max2_int min2_int max_two min_two max_three min_three max_four min_four
set_option linter.unusedVariables false
set_option linter.unusedSimpArgs false
attribute [go_sem] bo_string_leq bo_string_gtr bo_string_geq
structure S23 where
 f0:Int
 f1:Int
 f2:Int
 f3:Int
 f4:Int
 f5:Int
 f6:ByteArray
 f7:ByteArray
def k23:Kd S23:=Kd.iso (Kd.pair (Kd.int .i64) (Kd.pair (Kd.int .i64) (Kd.pair (Kd.int .i64) (Kd.pair (Kd.int .i64) (Kd.pair (Kd.int .i64) (Kd.pair (Kd.int .i64) (Kd.pair Kd.string Kd.string))))))) (fun x:S23=>(x.f0,x.f1,x.f2,x.f3,x.f4,x.f5,x.f6,x.f7))
theorem k23_open {w:World} {x:S23} {cs:List Value} (h:k23.K w x cs):cs=[.int .i64 x.f0,.int .i64 x.f1,.int .i64 x.f2,.int .i64 x.f3,.int .i64 x.f4,.int .i64 x.f5,.string x.f6,.string x.f7]:=by
 obtain ⟨_,_,rfl,rfl,⟨_,_,rfl,rfl,⟨_,_,rfl,rfl,⟨_,_,rfl,rfl,⟨_,_,rfl,rfl,⟨_,_,rfl,rfl,⟨_,_,rfl,rfl,rfl⟩⟩⟩⟩⟩⟩⟩:=h
 exact rfl
end Go.Proofs.Yteipehiiaggenaa.Pr

namespace Go.Proofs.Yteipehiiaggenaa.Pr
open Go.RowKit Go.Proofs.YteipehiiaggenaaW.PrintWords Go.Proofs.YteipehiiaggenaaW.PrintLast Go.Proofs.YteipehiiaggenaaW.PrintMore
attribute [local go_sem] max2_int min2_int max_two min_two max_three min_three max_four min_four
set_option linter.unusedVariables false
set_option linter.unusedSimpArgs false
def latticeref09_Right.f (a0_0 a0_1 a0_2 a0_3 a0_4 a0_5:Int) (a0_6 a0_7:ByteArray):Option Bool:=if a0_7.size≤140737488351232 then some (Rec.rightB a0_0 a0_1 a0_2 a0_3 a0_4 a0_5 a0_6 a0_7) else none
theorem latticeref09_Right.calls (a0_0 a0_1 a0_2 a0_3 a0_4 a0_5:Int) (a0_6 a0_7:ByteArray) (r:Bool) (w:World) (h:latticeref09_Right.f a0_0 a0_1 a0_2 a0_3 a0_4 a0_5 a0_6 a0_7=some r) :
  Calls Try.prog 20 #[.agg #[.int .i64 a0_0,.int .i64 a0_1,.int .i64 a0_2,.int .i64 a0_3,.int .i64 a0_4,.int .i64 a0_5,.string a0_6,.string a0_7]] w fun e w'=>e=.returned (.bool r)∧Below w.heap.size w w':=by
 unfold latticeref09_Right.f at h
 split at h
 ·rename_i hn
  injection h with h
  subst h
  exact Rec.refright_ok a0_0 a0_1 a0_2 a0_3 a0_4 a0_5 a0_6 a0_7 hn w
 ·cases h
def latticeref09_Encode.f (a0_0:Int) (a0_1:Int) (a0_2:Int) (a0_3:Int) (a0_4:Int) (a0_5:Int) (a0_6:ByteArray) (a0_7:ByteArray):Option (List Int×Int):=(latticeref09_Right.f a0_0 a0_1 a0_2 a0_3 a0_4 a0_5 a0_6 a0_7).bind fun t236=>(if t236=true then ((latticeref01_Num.f a0_0 8).bind fun t237=>(if ([]:List Int).length+t237.length < 140737488355328 then ((some (([]:List Int)++t237:List Int)).bind fun y240=>((latticeref01_Num.f a0_1 8).bind fun t243=>(if y240.length+t243.length < 140737488355328 then ((some (y240++t243:List Int)).bind fun y246=>((latticeref01_Num.f a0_2 1).bind fun t249=>(if y246.length+t249.length < 140737488355328 then ((some (y246++t249:List Int)).bind fun y252=>((latticeref01_Num.f a0_3 4).bind fun t255=>(if y252.length+t255.length < 140737488355328 then ((some (y252++t255:List Int)).bind fun y258=>((latticeref01_Num.f a0_4 4).bind fun t261=>(if y258.length+t261.length < 140737488355328 then ((some (y258++t261:List Int)).bind fun y264=>((latticeref01_Num.f a0_5 8).bind fun t267=>(if y264.length+t267.length < 140737488355328 then ((some (y264++t267:List Int)).bind fun y270=>((latticeref01_Text.f a0_6).bind fun t273=>(if y270.length+t273.length < 140737488355328 then ((some (y270++t273:List Int)).bind fun y276=>((latticeref01_Text.f a0_7).bind fun t279=>(if y276.length+t279.length < 140737488355328 then ((latticeref01_Text.f (strOfNums (y276++t279))).bind fun t285=>((latticeref02_Seal.f t285).bind fun t288=>(some (t288,0)))) else (none)))) else (none)))) else (none)))) else (none)))) else (none)))) else (none)))) else (none)))) else (none))) else (some (([]:List Int),90)))
set_option maxHeartbeats 8000000 in
set_option maxRecDepth 100000 in
theorem latticeref09_Encode.calls (a0_0:Int) (a0_1:Int) (a0_2:Int) (a0_3:Int) (a0_4:Int) (a0_5:Int) (a0_6:ByteArray) (a0_7:ByteArray) (r1:List Int) (r2:Int) (w:World) (h:latticeref09_Encode.f a0_0 a0_1 a0_2 a0_3 a0_4 a0_5 a0_6 a0_7=some (r1,r2)) :
  Calls Try.prog 9 #[.agg #[.int .i64 a0_0,.int .i64 a0_1,.int .i64 a0_2,.int .i64 a0_3,.int .i64 a0_4,.int .i64 a0_5,.string a0_6,.string a0_7]] w fun e w'=>∃ v0_:Value,e=.returned (.tuple #[v0_,.int .i64 r2])∧Kd.R (Kd.int .u8) 5 w' w.heap.size (fun _=>True) v0_ r1∧Below w.heap.size w w':=by
 have hu23:=Try.underlying23
 have HB:=Aside0.mk (Below.refl w.heap.size w)
 have H:((latticeref09_Right.f a0_0 a0_1 a0_2 a0_3 a0_4 a0_5 a0_6 a0_7).bind fun t236=>(if t236=true then ((latticeref01_Num.f a0_0 8).bind fun t237=>(if ([]:List Int).length+t237.length < 140737488355328 then ((some (([]:List Int)++t237:List Int)).bind fun y240=>((latticeref01_Num.f a0_1 8).bind fun t243=>(if y240.length+t243.length < 140737488355328 then ((some (y240++t243:List Int)).bind fun y246=>((latticeref01_Num.f a0_2 1).bind fun t249=>(if y246.length+t249.length < 140737488355328 then ((some (y246++t249:List Int)).bind fun y252=>((latticeref01_Num.f a0_3 4).bind fun t255=>(if y252.length+t255.length < 140737488355328 then ((some (y252++t255:List Int)).bind fun y258=>((latticeref01_Num.f a0_4 4).bind fun t261=>(if y258.length+t261.length < 140737488355328 then ((some (y258++t261:List Int)).bind fun y264=>((latticeref01_Num.f a0_5 8).bind fun t267=>(if y264.length+t267.length < 140737488355328 then ((some (y264++t267:List Int)).bind fun y270=>((latticeref01_Text.f a0_6).bind fun t273=>(if y270.length+t273.length < 140737488355328 then ((some (y270++t273:List Int)).bind fun y276=>((latticeref01_Text.f a0_7).bind fun t279=>(if y276.length+t279.length < 140737488355328 then ((latticeref01_Text.f (strOfNums (y276++t279))).bind fun t285=>((latticeref02_Seal.f t285).bind fun t288=>(some (t288,0)))) else (none)))) else (none)))) else (none)))) else (none)))) else (none)))) else (none)))) else (none)))) else (none))) else (some (([]:List Int),90))))=some (r1,r2):=h
 clear h
 replace H:=Option.bind_eq_some_iff.mp H
 obtain ⟨t236,A20,H⟩:=H
 try dsimp only at H
 have A2:=Aside0.mk A20
 clear A20
 by_cases c3:t236=true
 ·subst c3
  have H1:((latticeref01_Num.f a0_0 8).bind fun t237=>(if ([]:List Int).length+t237.length < 140737488355328 then ((some (([]:List Int)++t237:List Int)).bind fun y240=>((latticeref01_Num.f a0_1 8).bind fun t243=>(if y240.length+t243.length < 140737488355328 then ((some (y240++t243:List Int)).bind fun y246=>((latticeref01_Num.f a0_2 1).bind fun t249=>(if y246.length+t249.length < 140737488355328 then ((some (y246++t249:List Int)).bind fun y252=>((latticeref01_Num.f a0_3 4).bind fun t255=>(if y252.length+t255.length < 140737488355328 then ((some (y252++t255:List Int)).bind fun y258=>((latticeref01_Num.f a0_4 4).bind fun t261=>(if y258.length+t261.length < 140737488355328 then ((some (y258++t261:List Int)).bind fun y264=>((latticeref01_Num.f a0_5 8).bind fun t267=>(if y264.length+t267.length < 140737488355328 then ((some (y264++t267:List Int)).bind fun y270=>((latticeref01_Text.f a0_6).bind fun t273=>(if y270.length+t273.length < 140737488355328 then ((some (y270++t273:List Int)).bind fun y276=>((latticeref01_Text.f a0_7).bind fun t279=>(if y276.length+t279.length < 140737488355328 then ((latticeref01_Text.f (strOfNums (y276++t279))).bind fun t285=>((latticeref02_Seal.f t285).bind fun t288=>(some (t288,0)))) else (none)))) else (none)))) else (none)))) else (none)))) else (none)))) else (none)))) else (none)))) else (none)))=some (r1,r2):=by rw [if_pos rfl] at H;exact H
  clear H
  have H:=H1
  clear H1
  replace H:=Option.bind_eq_some_iff.mp H
  obtain ⟨t237,A40,H⟩:=H
  try dsimp only at H
  have A4:=Aside0.mk A40
  clear A40
  by_cases c5:([]:List Int).length+t237.length < 140737488355328
  ·rw [if_pos c5] at H
   have LMc5:=Aside0.mk c5
   clear c5
   obtain ⟨y240,hy240⟩:∃ y_:List Int,y_=(([]:List Int)++t237):=⟨_,rfl⟩
   replace H:((latticeref01_Num.f a0_1 8).bind fun t243=>(if y240.length+t243.length < 140737488355328 then ((some (y240++t243:List Int)).bind fun y246=>((latticeref01_Num.f a0_2 1).bind fun t249=>(if y246.length+t249.length < 140737488355328 then ((some (y246++t249:List Int)).bind fun y252=>((latticeref01_Num.f a0_3 4).bind fun t255=>(if y252.length+t255.length < 140737488355328 then ((some (y252++t255:List Int)).bind fun y258=>((latticeref01_Num.f a0_4 4).bind fun t261=>(if y258.length+t261.length < 140737488355328 then ((some (y258++t261:List Int)).bind fun y264=>((latticeref01_Num.f a0_5 8).bind fun t267=>(if y264.length+t267.length < 140737488355328 then ((some (y264++t267:List Int)).bind fun y270=>((latticeref01_Text.f a0_6).bind fun t273=>(if y270.length+t273.length < 140737488355328 then ((some (y270++t273:List Int)).bind fun y276=>((latticeref01_Text.f a0_7).bind fun t279=>(if y276.length+t279.length < 140737488355328 then ((latticeref01_Text.f (strOfNums (y276++t279))).bind fun t285=>((latticeref02_Seal.f t285).bind fun t288=>(some (t288,0)))) else (none)))) else (none)))) else (none)))) else (none)))) else (none)))) else (none)))) else (none)))=some (r1,r2):=by first|(rw [hy240];with_reducible exact H)|(have H2_:=(Option.bind_some _ _).symm.trans H;rw [hy240];with_reducible exact H2_)|(have H2_:=(Option.bind_some _ _).symm.trans H;with_reducible exact H2_)|with_reducible exact H|(rw [hy240];exact H)|exact H
   have Ny240:=Aside0.mk hy240
   clear hy240
   replace H:=Option.bind_eq_some_iff.mp H
   obtain ⟨t243,A60,H⟩:=H
   try dsimp only at H
   have A6:=Aside0.mk A60
   clear A60
   by_cases c7:y240.length+t243.length < 140737488355328
   ·rw [if_pos c7] at H
    have LMc7:=Aside0.mk c7
    clear c7
    obtain ⟨y246,hy246⟩:∃ y_:List Int,y_=(y240++t243):=⟨_,rfl⟩
    replace H:((latticeref01_Num.f a0_2 1).bind fun t249=>(if y246.length+t249.length < 140737488355328 then ((some (y246++t249:List Int)).bind fun y252=>((latticeref01_Num.f a0_3 4).bind fun t255=>(if y252.length+t255.length < 140737488355328 then ((some (y252++t255:List Int)).bind fun y258=>((latticeref01_Num.f a0_4 4).bind fun t261=>(if y258.length+t261.length < 140737488355328 then ((some (y258++t261:List Int)).bind fun y264=>((latticeref01_Num.f a0_5 8).bind fun t267=>(if y264.length+t267.length < 140737488355328 then ((some (y264++t267:List Int)).bind fun y270=>((latticeref01_Text.f a0_6).bind fun t273=>(if y270.length+t273.length < 140737488355328 then ((some (y270++t273:List Int)).bind fun y276=>((latticeref01_Text.f a0_7).bind fun t279=>(if y276.length+t279.length < 140737488355328 then ((latticeref01_Text.f (strOfNums (y276++t279))).bind fun t285=>((latticeref02_Seal.f t285).bind fun t288=>(some (t288,0)))) else (none)))) else (none)))) else (none)))) else (none)))) else (none)))) else (none)))=some (r1,r2):=by first|(rw [hy246];with_reducible exact H)|(have H2_:=(Option.bind_some _ _).symm.trans H;rw [hy246];with_reducible exact H2_)|(have H2_:=(Option.bind_some _ _).symm.trans H;with_reducible exact H2_)|with_reducible exact H|(rw [hy246];exact H)|exact H
    have Ny246:=Aside0.mk hy246
    clear hy246
    replace H:=Option.bind_eq_some_iff.mp H
    obtain ⟨t249,A80,H⟩:=H
    try dsimp only at H
    have A8:=Aside0.mk A80
    clear A80
    by_cases c9:y246.length+t249.length < 140737488355328
    ·rw [if_pos c9] at H
     have LMc9:=Aside0.mk c9
     clear c9
     obtain ⟨y252,hy252⟩:∃ y_:List Int,y_=(y246++t249):=⟨_,rfl⟩
     replace H:((latticeref01_Num.f a0_3 4).bind fun t255=>(if y252.length+t255.length < 140737488355328 then ((some (y252++t255:List Int)).bind fun y258=>((latticeref01_Num.f a0_4 4).bind fun t261=>(if y258.length+t261.length < 140737488355328 then ((some (y258++t261:List Int)).bind fun y264=>((latticeref01_Num.f a0_5 8).bind fun t267=>(if y264.length+t267.length < 140737488355328 then ((some (y264++t267:List Int)).bind fun y270=>((latticeref01_Text.f a0_6).bind fun t273=>(if y270.length+t273.length < 140737488355328 then ((some (y270++t273:List Int)).bind fun y276=>((latticeref01_Text.f a0_7).bind fun t279=>(if y276.length+t279.length < 140737488355328 then ((latticeref01_Text.f (strOfNums (y276++t279))).bind fun t285=>((latticeref02_Seal.f t285).bind fun t288=>(some (t288,0)))) else (none)))) else (none)))) else (none)))) else (none)))) else (none)))=some (r1,r2):=by first|(rw [hy252];with_reducible exact H)|(have H2_:=(Option.bind_some _ _).symm.trans H;rw [hy252];with_reducible exact H2_)|(have H2_:=(Option.bind_some _ _).symm.trans H;with_reducible exact H2_)|with_reducible exact H|(rw [hy252];exact H)|exact H
     have Ny252:=Aside0.mk hy252
     clear hy252
     replace H:=Option.bind_eq_some_iff.mp H
     obtain ⟨t255,A100,H⟩:=H
     try dsimp only at H
     have A10:=Aside0.mk A100
     clear A100
     by_cases c11:y252.length+t255.length < 140737488355328
     ·rw [if_pos c11] at H
      have LMc11:=Aside0.mk c11
      clear c11
      obtain ⟨y258,hy258⟩:∃ y_:List Int,y_=(y252++t255):=⟨_,rfl⟩
      replace H:((latticeref01_Num.f a0_4 4).bind fun t261=>(if y258.length+t261.length < 140737488355328 then ((some (y258++t261:List Int)).bind fun y264=>((latticeref01_Num.f a0_5 8).bind fun t267=>(if y264.length+t267.length < 140737488355328 then ((some (y264++t267:List Int)).bind fun y270=>((latticeref01_Text.f a0_6).bind fun t273=>(if y270.length+t273.length < 140737488355328 then ((some (y270++t273:List Int)).bind fun y276=>((latticeref01_Text.f a0_7).bind fun t279=>(if y276.length+t279.length < 140737488355328 then ((latticeref01_Text.f (strOfNums (y276++t279))).bind fun t285=>((latticeref02_Seal.f t285).bind fun t288=>(some (t288,0)))) else (none)))) else (none)))) else (none)))) else (none)))=some (r1,r2):=by first|(rw [hy258];with_reducible exact H)|(have H2_:=(Option.bind_some _ _).symm.trans H;rw [hy258];with_reducible exact H2_)|(have H2_:=(Option.bind_some _ _).symm.trans H;with_reducible exact H2_)|with_reducible exact H|(rw [hy258];exact H)|exact H
      have Ny258:=Aside0.mk hy258
      clear hy258
      replace H:=Option.bind_eq_some_iff.mp H
      obtain ⟨t261,A120,H⟩:=H
      try dsimp only at H
      have A12:=Aside0.mk A120
      clear A120
      by_cases c13:y258.length+t261.length < 140737488355328
      ·rw [if_pos c13] at H
       have LMc13:=Aside0.mk c13
       clear c13
       obtain ⟨y264,hy264⟩:∃ y_:List Int,y_=(y258++t261):=⟨_,rfl⟩
       replace H:((latticeref01_Num.f a0_5 8).bind fun t267=>(if y264.length+t267.length < 140737488355328 then ((some (y264++t267:List Int)).bind fun y270=>((latticeref01_Text.f a0_6).bind fun t273=>(if y270.length+t273.length < 140737488355328 then ((some (y270++t273:List Int)).bind fun y276=>((latticeref01_Text.f a0_7).bind fun t279=>(if y276.length+t279.length < 140737488355328 then ((latticeref01_Text.f (strOfNums (y276++t279))).bind fun t285=>((latticeref02_Seal.f t285).bind fun t288=>(some (t288,0)))) else (none)))) else (none)))) else (none)))=some (r1,r2):=by first|(rw [hy264];with_reducible exact H)|(have H2_:=(Option.bind_some _ _).symm.trans H;rw [hy264];with_reducible exact H2_)|(have H2_:=(Option.bind_some _ _).symm.trans H;with_reducible exact H2_)|with_reducible exact H|(rw [hy264];exact H)|exact H
       have Ny264:=Aside0.mk hy264
       clear hy264
       replace H:=Option.bind_eq_some_iff.mp H
       obtain ⟨t267,A140,H⟩:=H
       try dsimp only at H
       have A14:=Aside0.mk A140
       clear A140
       by_cases c15:y264.length+t267.length < 140737488355328
       ·rw [if_pos c15] at H
        have LMc15:=Aside0.mk c15
        clear c15
        obtain ⟨y270,hy270⟩:∃ y_:List Int,y_=(y264++t267):=⟨_,rfl⟩
        replace H:((latticeref01_Text.f a0_6).bind fun t273=>(if y270.length+t273.length < 140737488355328 then ((some (y270++t273:List Int)).bind fun y276=>((latticeref01_Text.f a0_7).bind fun t279=>(if y276.length+t279.length < 140737488355328 then ((latticeref01_Text.f (strOfNums (y276++t279))).bind fun t285=>((latticeref02_Seal.f t285).bind fun t288=>(some (t288,0)))) else (none)))) else (none)))=some (r1,r2):=by first|(rw [hy270];with_reducible exact H)|(have H2_:=(Option.bind_some _ _).symm.trans H;rw [hy270];with_reducible exact H2_)|(have H2_:=(Option.bind_some _ _).symm.trans H;with_reducible exact H2_)|with_reducible exact H|(rw [hy270];exact H)|exact H
        have Ny270:=Aside0.mk hy270
        clear hy270
        replace H:=Option.bind_eq_some_iff.mp H
        obtain ⟨t273,A160,H⟩:=H
        try dsimp only at H
        have A16:=Aside0.mk A160
        clear A160
        by_cases c17:y270.length+t273.length < 140737488355328
        ·rw [if_pos c17] at H
         have LMc17:=Aside0.mk c17
         clear c17
         obtain ⟨y276,hy276⟩:∃ y_:List Int,y_=(y270++t273):=⟨_,rfl⟩
         replace H:((latticeref01_Text.f a0_7).bind fun t279=>(if y276.length+t279.length < 140737488355328 then ((latticeref01_Text.f (strOfNums (y276++t279))).bind fun t285=>((latticeref02_Seal.f t285).bind fun t288=>(some (t288,0)))) else (none)))=some (r1,r2):=by first|(rw [hy276];with_reducible exact H)|(have H2_:=(Option.bind_some _ _).symm.trans H;rw [hy276];with_reducible exact H2_)|(have H2_:=(Option.bind_some _ _).symm.trans H;with_reducible exact H2_)|with_reducible exact H|(rw [hy276];exact H)|exact H
         have Ny276:=Aside0.mk hy276
         clear hy276
         replace H:=Option.bind_eq_some_iff.mp H
         obtain ⟨t279,A180,H⟩:=H
         try dsimp only at H
         have A18:=Aside0.mk A180
         clear A180
         by_cases c19:y276.length+t279.length < 140737488355328
         ·rw [if_pos c19] at H
          have LMc19:=Aside0.mk c19
          clear c19
          obtain ⟨y282,hy282⟩:∃ y_:List Int,y_=(y276++t279):=⟨_,rfl⟩
          replace H:((latticeref01_Text.f (strOfNums y282)).bind fun t285=>((latticeref02_Seal.f t285).bind fun t288=>(some (t288,0))))=some (r1,r2):=by first|(rw [hy282];with_reducible exact H)|(have H2_:=(Option.bind_some _ _).symm.trans H;rw [hy282];with_reducible exact H2_)|(have H2_:=(Option.bind_some _ _).symm.trans H;with_reducible exact H2_)|with_reducible exact H|(rw [hy282];exact H)|exact H
          have Ny282:=Aside0.mk hy282
          clear hy282
          replace H:=Option.bind_eq_some_iff.mp H
          obtain ⟨t285,A200,H⟩:=H
          try dsimp only at H
          have A20:=Aside0.mk A200
          clear A200
          replace H:=Option.bind_eq_some_iff.mp H
          obtain ⟨t288,A210,H⟩:=H
          try dsimp only at H
          have A21:=Aside0.mk A210
          clear A210
          simp only [Option.some.injEq,Prod.mk.injEq] at H
          obtain ⟨rfl,rfl⟩:=H
          go_enter Try.func9,Try.ntmps9
          go_wp2_with (first|((with_reducible refine gate_dst (N:=1) rfl ?_);refine box_event ?hg (N:=1) ?hd (cs:=#[.int .i64 a0_0,.int .i64 a0_1,.int .i64 a0_2,.int .i64 a0_3,.int .i64 a0_4,.int .i64 a0_5,.string a0_6,.string a0_7]) (t:=23) ?hr ?_;(case hd=>rfl);(case hg=>rfl);(case hr=>first|(go_simp;done)|(go_simp;rfl));intro gb235 hg w22 hbox hb;have n0_:=Aside0.mk (below_step (by repeat (first|(with_reducible first|exact HB.out|apply below_alloc|apply pw_below_drewN|apply below_drew1)|exact HB.out)) hb);have n1_:=Aside0.mk (hbox);have n2_:=Aside0.mk ((by rw [hg];exact (below_size (by repeat (first|(with_reducible first|exact HB.out|apply below_alloc|apply pw_below_drewN|apply below_drew1)|exact HB.out))):w.heap.size≤gb235));have n3_:=Aside0.mk ((by rw [hg];exact (below_size (by repeat (first|(with_reducible first|exact HB.out|apply below_alloc|apply pw_below_drewN|apply below_drew1)|exact HB.out))):w.heap.size≤gb235));clear HB;have HB:=n0_;have BK235:=n1_;have GW235:=n2_;have GE235:=n3_;clear n0_ n1_ n2_ n3_;clear hb hbox hg;have hcz23_0:w22.cell? ⟨gb235,0,none⟩=some (.int .i64 a0_0):=(blk_cell BK235.out 0).trans rfl;have hcz23_1:w22.cell? ⟨gb235,1,none⟩=some (.int .i64 a0_1):=(blk_cell BK235.out 1).trans rfl;have hcz23_2:w22.cell? ⟨gb235,2,none⟩=some (.int .i64 a0_2):=(blk_cell BK235.out 2).trans rfl;have hcz23_3:w22.cell? ⟨gb235,3,none⟩=some (.int .i64 a0_3):=(blk_cell BK235.out 3).trans rfl;have hcz23_4:w22.cell? ⟨gb235,4,none⟩=some (.int .i64 a0_4):=(blk_cell BK235.out 4).trans rfl;have hcz23_5:w22.cell? ⟨gb235,5,none⟩=some (.int .i64 a0_5):=(blk_cell BK235.out 5).trans rfl;have hcz23_6:w22.cell? ⟨gb235,6,none⟩=some (.string a0_6):=(blk_cell BK235.out 6).trans rfl;have hcz23_7:w22.cell? ⟨gb235,7,none⟩=some (.string a0_7):=(blk_cell BK235.out 7).trans rfl;have hfz23_0:=blk_frozen BK235.out 0;have hfz23_1:=blk_frozen BK235.out 1;have hfz23_2:=blk_frozen BK235.out 2;have hfz23_3:=blk_frozen BK235.out 3;have hfz23_4:=blk_frozen BK235.out 4;have hfz23_5:=blk_frozen BK235.out 5;have hfz23_6:=blk_frozen BK235.out 6;have hfz23_7:=blk_frozen BK235.out 7)|((with_reducible refine gate_callee (f:=20) rfl ?_);refine goesL_ (some 6) rfl rfl Try.func20 (by kernel_rfl) rfl #[.agg #[.int .i64 a0_0,.int .i64 a0_1,.int .i64 a0_2,.int .i64 a0_3,.int .i64 a0_4,.int .i64 a0_5,.string a0_6,.string a0_7]] rfl (by (try simp only [List.map_toArray,List.map_cons,List.map_nil]);first|done|rfl|(simp only [List.length_drop,List.length_take];rfl)) ?_;(with_reducible refine (latticeref09_Right.calls a0_0 a0_1 a0_2 a0_3 a0_4 a0_5 a0_6 a0_7 true _ A2.out).mono ?_);rintro e w24 ⟨rfl,hb⟩;refine ⟨_,rfl,?_⟩;have n0_:=Aside0.mk (blk_below (g:=gb235) (o:=.cells #[.int .i64 a0_0,.int .i64 a0_1,.int .i64 a0_2,.int .i64 a0_3,.int .i64 a0_4,.int .i64 a0_5,.string a0_6,.string a0_7] 23 (0,0)) (by (with_reducible repeat (first|refine blk_drewN ?_ _|refine blk_drew ?_|refine blk_alloc ?_ _));exact BK235.out) hb);have n1_:=Aside0.mk (below_step (by repeat (first|(with_reducible first|exact HB.out|apply below_alloc|apply pw_below_drewN|apply below_drew1|refine below_set ?_ GE235.out)|exact HB.out)) hb);clear BK235;clear HB;have BK235:=n0_;have HB:=n1_;clear n0_ n1_;(try clear hb);(try clear hb2);(try clear hk);(try clear hi);have hcz25_0:w24.cell? ⟨gb235,0,none⟩=some (.int .i64 a0_0):=(blk_cell BK235.out 0).trans rfl;have hcz25_1:w24.cell? ⟨gb235,1,none⟩=some (.int .i64 a0_1):=(blk_cell BK235.out 1).trans rfl;have hcz25_2:w24.cell? ⟨gb235,2,none⟩=some (.int .i64 a0_2):=(blk_cell BK235.out 2).trans rfl;have hcz25_3:w24.cell? ⟨gb235,3,none⟩=some (.int .i64 a0_3):=(blk_cell BK235.out 3).trans rfl;have hcz25_4:w24.cell? ⟨gb235,4,none⟩=some (.int .i64 a0_4):=(blk_cell BK235.out 4).trans rfl;have hcz25_5:w24.cell? ⟨gb235,5,none⟩=some (.int .i64 a0_5):=(blk_cell BK235.out 5).trans rfl;have hcz25_6:w24.cell? ⟨gb235,6,none⟩=some (.string a0_6):=(blk_cell BK235.out 6).trans rfl;have hcz25_7:w24.cell? ⟨gb235,7,none⟩=some (.string a0_7):=(blk_cell BK235.out 7).trans rfl;have hfz25_0:=blk_frozen BK235.out 0;have hfz25_1:=blk_frozen BK235.out 1;have hfz25_2:=blk_frozen BK235.out 2;have hfz25_3:=blk_frozen BK235.out 3;have hfz25_4:=blk_frozen BK235.out 4;have hfz25_5:=blk_frozen BK235.out 5;have hfz25_6:=blk_frozen BK235.out 6;have hfz25_7:=blk_frozen BK235.out 7)|((with_reducible refine gate_callee (f:=21) rfl ?_);refine goesL_ (some 11) rfl rfl Try.func21 (by kernel_rfl) rfl #[.int .i64 a0_0,.int .i64 8] rfl (by (try simp only [List.map_toArray,List.map_cons,List.map_nil]);first|done|rfl|(simp only [List.length_drop,List.length_take];rfl)) ?_;(with_reducible refine (latticeref01_Num.calls a0_0 8 t237 _ A4.out).mono ?_);rintro e w26 ⟨v238,rfl,ho0,hb⟩;refine ⟨_,rfl,?_⟩;have n0_:=Aside0.mk (Kd.R_lower ho0 (below_size (by repeat (first|(with_reducible first|exact HB.out|apply below_alloc|apply pw_below_drewN|apply below_drew1|refine below_set ?_ GE235.out)|exact HB.out))));have n1_:=Aside0.mk (blk_below (g:=gb235) (o:=.cells #[.int .i64 a0_0,.int .i64 a0_1,.int .i64 a0_2,.int .i64 a0_3,.int .i64 a0_4,.int .i64 a0_5,.string a0_6,.string a0_7] 23 (0,0)) (by (with_reducible repeat (first|refine blk_drewN ?_ _|refine blk_drew ?_|refine blk_alloc ?_ _));exact BK235.out) hb);have n2_:=Aside0.mk (below_step (by repeat (first|(with_reducible first|exact HB.out|apply below_alloc|apply pw_below_drewN|apply below_drew1|refine below_set ?_ GE235.out)|exact HB.out)) hb);clear BK235;clear HB;have HO239:=n0_;have BK235:=n1_;have HB:=n2_;clear n0_ n1_ n2_;(try clear hb);(try clear hb2);(try clear hk);(try clear hi);(try clear ho0);obtain ⟨Ao28,co28,eo28⟩:=Kd.R_slice HO239.out;subst eo28)|((with_reducible refine gate_builtin (b:=.append) (xs:=#[.tmp 8,.tmp 11]) rfl ?_);at_builtin;refine Kd.R_append_rows (Kd.int .u8) (w0:=w) w.heap.size rfl (.tmp 8) (.tmp 11) 24 5 (.int .u8 0) 1 rfl Try.underlying24 info5 rfl (by decide) (by omega) (.slice none 0 0) ([]:List Int) t237 _ _ _ (fun k_=>some k_≠(.slice Ao28 t237.length co28:Value).ownBlock) (fun _=>False) rfl rfl ?aO ?aR (fun _ _ h=>h) (fun _ h=>h.elim) ?aF ?aB ?aS ?aL ?_;(case aR=>repeat (first|exact (Kd.R_reads' HO239.out).2.2|(with_reducible refine Kd.C_alloc ?_ _)|(with_reducible refine Kd.C_drewN ?_ _)|(with_reducible refine Kd.C_drew ?_)));(case aB=>exact (by repeat (first|(with_reducible first|exact HB.out|apply below_alloc|apply pw_below_drewN|apply below_drew1|refine below_set ?_ GE235.out)|exact HB.out)));(case aF=>exact (fun k_ hk=>Kd.fresh' (Kd.R_lt (by (with_reducible repeat (first|apply Kd.R_alloc|apply Kd.R_drewN|apply Kd.R_drew));exact HO239.out)) k_ hk));(case aO=>exact ((Kd.R_nil _ _ _ _ (fun k_=>some k_≠(.slice Ao28 t237.length co28:Value).ownBlock))));(case aS=>exact (below_size (by repeat (first|(with_reducible first|exact HB.out|apply below_alloc|apply pw_below_drewN|apply below_drew1|refine below_set ?_ GE235.out)|exact HB.out))));(case aL=>have:=LMc5.out;omega);intro v241 w27 ho hb hg hat;rw [← Ny240.out] at ho;have n0_:=Aside0.mk (blk_grown (g:=gb235) (o:=.cells #[.int .i64 a0_0,.int .i64 a0_1,.int .i64 a0_2,.int .i64 a0_3,.int .i64 a0_4,.int .i64 a0_5,.string a0_6,.string a0_7] 23 (0,0)) (by (with_reducible repeat (first|refine blk_drewN ?_ _|refine blk_drew ?_|refine blk_alloc ?_ _));exact BK235.out) hg (by simp [Value.ownBlock]));have n1_:=Aside0.mk (Kd.R_after (Kd.R_apart_nil (by (with_reducible repeat (first|apply Kd.R_alloc|apply Kd.R_drewN|apply Kd.R_drew));exact HO239.out)) hg hat);have n2_:=Aside0.mk (hb);have n3_:=Aside0.mk (ho);clear BK235;clear HO239;clear HB;have BK235:=n0_;have HO239:=n1_;have HB:=n2_;have HO242:=n3_;clear n0_ n1_ n2_ n3_;clear ho hb hg hat;have hcz29_0:w27.cell? ⟨gb235,0,none⟩=some (.int .i64 a0_0):=(blk_cell BK235.out 0).trans rfl;have hcz29_1:w27.cell? ⟨gb235,1,none⟩=some (.int .i64 a0_1):=(blk_cell BK235.out 1).trans rfl;have hcz29_2:w27.cell? ⟨gb235,2,none⟩=some (.int .i64 a0_2):=(blk_cell BK235.out 2).trans rfl;have hcz29_3:w27.cell? ⟨gb235,3,none⟩=some (.int .i64 a0_3):=(blk_cell BK235.out 3).trans rfl;have hcz29_4:w27.cell? ⟨gb235,4,none⟩=some (.int .i64 a0_4):=(blk_cell BK235.out 4).trans rfl;have hcz29_5:w27.cell? ⟨gb235,5,none⟩=some (.int .i64 a0_5):=(blk_cell BK235.out 5).trans rfl;have hcz29_6:w27.cell? ⟨gb235,6,none⟩=some (.string a0_6):=(blk_cell BK235.out 6).trans rfl;have hcz29_7:w27.cell? ⟨gb235,7,none⟩=some (.string a0_7):=(blk_cell BK235.out 7).trans rfl;have hfz29_0:=blk_frozen BK235.out 0;have hfz29_1:=blk_frozen BK235.out 1;have hfz29_2:=blk_frozen BK235.out 2;have hfz29_3:=blk_frozen BK235.out 3;have hfz29_4:=blk_frozen BK235.out 4;have hfz29_5:=blk_frozen BK235.out 5;have hfz29_6:=blk_frozen BK235.out 6;have hfz29_7:=blk_frozen BK235.out 7)|((with_reducible refine gate_callee (f:=21) rfl ?_);refine goesL_ (some 16) rfl rfl Try.func21 (by kernel_rfl) rfl #[.int .i64 a0_1,.int .i64 8] rfl (by (try simp only [List.map_toArray,List.map_cons,List.map_nil]);first|done|rfl|(simp only [List.length_drop,List.length_take];rfl)) ?_;(with_reducible refine (latticeref01_Num.calls a0_1 8 t243 _ A6.out).mono ?_);rintro e w30 ⟨v244,rfl,ho0,hb⟩;refine ⟨_,rfl,?_⟩;have n0_:=Aside0.mk (Kd.R_elder' (by (with_reducible repeat (first|apply Kd.R_alloc|apply Kd.R_drewN|apply Kd.R_drew));exact HO239.out) (Kd.R_base ho0) hb);have n1_:=Aside0.mk (Kd.R_elder' (by (with_reducible repeat (first|apply Kd.R_alloc|apply Kd.R_drewN|apply Kd.R_drew));exact HO242.out) (Kd.R_base ho0) hb);have n2_:=Aside0.mk (Kd.R_lower (Kd.R_new' (Kd.R_new' ho0 (Kd.R_lt (by (with_reducible repeat (first|apply Kd.R_alloc|apply Kd.R_drewN|apply Kd.R_drew));exact HO239.out))) (Kd.R_lt (by (with_reducible repeat (first|apply Kd.R_alloc|apply Kd.R_drewN|apply Kd.R_drew));exact HO242.out))) (below_size (by repeat (first|(with_reducible first|exact HB.out|apply below_alloc|apply pw_below_drewN|apply below_drew1|refine below_set ?_ GE235.out)|exact HB.out))));have n3_:=Aside0.mk (blk_below (g:=gb235) (o:=.cells #[.int .i64 a0_0,.int .i64 a0_1,.int .i64 a0_2,.int .i64 a0_3,.int .i64 a0_4,.int .i64 a0_5,.string a0_6,.string a0_7] 23 (0,0)) (by (with_reducible repeat (first|refine blk_drewN ?_ _|refine blk_drew ?_|refine blk_alloc ?_ _));exact BK235.out) hb);have n4_:=Aside0.mk (below_step (by repeat (first|(with_reducible first|exact HB.out|apply below_alloc|apply pw_below_drewN|apply below_drew1|refine below_set ?_ GE235.out)|exact HB.out)) hb);clear HO239;clear HO242;clear BK235;clear HB;have HO239:=n0_;have HO242:=n1_;have HO245:=n2_;have BK235:=n3_;have HB:=n4_;clear n0_ n1_ n2_ n3_ n4_;(try clear hb);(try clear hb2);(try clear hk);(try clear hi);(try clear ho0);obtain ⟨Ao32,co32,eo32⟩:=Kd.R_slice HO245.out;subst eo32)|((with_reducible refine gate_builtin (b:=.append) (xs:=#[.tmp 13,.tmp 16]) rfl ?_);at_builtin;refine Kd.R_append_rows (Kd.int .u8) (w0:=w) w.heap.size rfl (.tmp 13) (.tmp 16) 24 5 (.int .u8 0) 1 rfl Try.underlying24 info5 rfl (by decide) (by omega) v241 y240 t243 _ _ _ (fun k_=>some k_≠(.slice Ao28 t237.length co28:Value).ownBlock∧some k_≠(.slice Ao32 t243.length co32:Value).ownBlock) (fun _=>False) rfl rfl ?aO ?aR (fun _ _ h=>h) (fun _ h=>h.elim) ?aF ?aB ?aS ?aL ?_;(case aR=>repeat (first|exact (Kd.R_reads' HO245.out).2.2|(with_reducible refine Kd.C_alloc ?_ _)|(with_reducible refine Kd.C_drewN ?_ _)|(with_reducible refine Kd.C_drew ?_)));(case aB=>exact (by repeat (first|(with_reducible first|exact HB.out|apply below_alloc|apply pw_below_drewN|apply below_drew1|refine below_set ?_ GE235.out)|exact HB.out)));(case aF=>exact (fun k_ hk=>⟨Kd.fresh' (Kd.R_lt (by (with_reducible repeat (first|apply Kd.R_alloc|apply Kd.R_drewN|apply Kd.R_drew));exact HO239.out)) k_ hk,Kd.fresh' (Kd.R_lt (by (with_reducible repeat (first|apply Kd.R_alloc|apply Kd.R_drewN|apply Kd.R_drew));exact HO245.out)) k_ hk⟩));(case aO=>exact (by (with_reducible repeat (first|apply Kd.R_alloc|apply Kd.R_drewN|apply Kd.R_drew));exact HO242.out));(case aS=>exact (below_size (by repeat (first|(with_reducible first|exact HB.out|apply below_alloc|apply pw_below_drewN|apply below_drew1|refine below_set ?_ GE235.out)|exact HB.out))));(case aL=>have:=LMc7.out;omega);intro v247 w31 ho hb hg hat;rw [← Ny246.out] at ho;have n0_:=Aside0.mk (blk_grown (g:=gb235) (o:=.cells #[.int .i64 a0_0,.int .i64 a0_1,.int .i64 a0_2,.int .i64 a0_3,.int .i64 a0_4,.int .i64 a0_5,.string a0_6,.string a0_7] 23 (0,0)) (by (with_reducible repeat (first|refine blk_drewN ?_ _|refine blk_drew ?_|refine blk_alloc ?_ _));exact BK235.out) hg (Kd.R_ne HO242.out BK235.out (by decide)));have n1_:=Aside0.mk (Kd.R_after (ok:=(fun k_=>some k_≠(.slice Ao32 t243.length co32:Value).ownBlock)) (by (with_reducible repeat (first|apply Kd.R_alloc|apply Kd.R_drewN|apply Kd.R_drew));exact Kd.R_mono HO239.out (fun _ hk=>⟨hk.2,hk.1.2⟩)) hg hat);have n2_:=Aside0.mk (Kd.R_after (ok:=(fun k_=>some k_≠(.slice Ao28 t237.length co28:Value).ownBlock)) (by (with_reducible repeat (first|apply Kd.R_alloc|apply Kd.R_drewN|apply Kd.R_drew));exact Kd.R_mono HO245.out (fun _ hk=>⟨hk.1.2,hk.2⟩)) hg hat);have n3_:=Aside0.mk (hb);have n4_:=Aside0.mk (ho);clear BK235;clear HO239;clear HO245;clear HB;clear HO242;have BK235:=n0_;have HO239:=n1_;have HO245:=n2_;have HB:=n3_;have HO248:=n4_;clear n0_ n1_ n2_ n3_ n4_;clear ho hb hg hat;have hcz33_0:w31.cell? ⟨gb235,0,none⟩=some (.int .i64 a0_0):=(blk_cell BK235.out 0).trans rfl;have hcz33_1:w31.cell? ⟨gb235,1,none⟩=some (.int .i64 a0_1):=(blk_cell BK235.out 1).trans rfl;have hcz33_2:w31.cell? ⟨gb235,2,none⟩=some (.int .i64 a0_2):=(blk_cell BK235.out 2).trans rfl;have hcz33_3:w31.cell? ⟨gb235,3,none⟩=some (.int .i64 a0_3):=(blk_cell BK235.out 3).trans rfl;have hcz33_4:w31.cell? ⟨gb235,4,none⟩=some (.int .i64 a0_4):=(blk_cell BK235.out 4).trans rfl;have hcz33_5:w31.cell? ⟨gb235,5,none⟩=some (.int .i64 a0_5):=(blk_cell BK235.out 5).trans rfl;have hcz33_6:w31.cell? ⟨gb235,6,none⟩=some (.string a0_6):=(blk_cell BK235.out 6).trans rfl;have hcz33_7:w31.cell? ⟨gb235,7,none⟩=some (.string a0_7):=(blk_cell BK235.out 7).trans rfl;have hfz33_0:=blk_frozen BK235.out 0;have hfz33_1:=blk_frozen BK235.out 1;have hfz33_2:=blk_frozen BK235.out 2;have hfz33_3:=blk_frozen BK235.out 3;have hfz33_4:=blk_frozen BK235.out 4;have hfz33_5:=blk_frozen BK235.out 5;have hfz33_6:=blk_frozen BK235.out 6;have hfz33_7:=blk_frozen BK235.out 7)|((with_reducible refine gate_callee (f:=21) rfl ?_);refine goesL_ (some 21) rfl rfl Try.func21 (by kernel_rfl) rfl #[.int .i64 a0_2,.int .i64 1] rfl (by (try simp only [List.map_toArray,List.map_cons,List.map_nil]);first|done|rfl|(simp only [List.length_drop,List.length_take];rfl)) ?_;(with_reducible refine (latticeref01_Num.calls a0_2 1 t249 _ A8.out).mono ?_);rintro e w34 ⟨v250,rfl,ho0,hb⟩;refine ⟨_,rfl,?_⟩;have n0_:=Aside0.mk (Kd.R_elder' (by (with_reducible repeat (first|apply Kd.R_alloc|apply Kd.R_drewN|apply Kd.R_drew));exact HO239.out) (Kd.R_base ho0) hb);have n1_:=Aside0.mk (Kd.R_elder' (by (with_reducible repeat (first|apply Kd.R_alloc|apply Kd.R_drewN|apply Kd.R_drew));exact HO245.out) (Kd.R_base ho0) hb);have n2_:=Aside0.mk (Kd.R_elder' (by (with_reducible repeat (first|apply Kd.R_alloc|apply Kd.R_drewN|apply Kd.R_drew));exact HO248.out) (Kd.R_base ho0) hb);have n3_:=Aside0.mk (Kd.R_lower (Kd.R_new' (Kd.R_new' (Kd.R_new' ho0 (Kd.R_lt (by (with_reducible repeat (first|apply Kd.R_alloc|apply Kd.R_drewN|apply Kd.R_drew));exact HO239.out))) (Kd.R_lt (by (with_reducible repeat (first|apply Kd.R_alloc|apply Kd.R_drewN|apply Kd.R_drew));exact HO245.out))) (Kd.R_lt (by (with_reducible repeat (first|apply Kd.R_alloc|apply Kd.R_drewN|apply Kd.R_drew));exact HO248.out))) (below_size (by repeat (first|(with_reducible first|exact HB.out|apply below_alloc|apply pw_below_drewN|apply below_drew1|refine below_set ?_ GE235.out)|exact HB.out))));have n4_:=Aside0.mk (blk_below (g:=gb235) (o:=.cells #[.int .i64 a0_0,.int .i64 a0_1,.int .i64 a0_2,.int .i64 a0_3,.int .i64 a0_4,.int .i64 a0_5,.string a0_6,.string a0_7] 23 (0,0)) (by (with_reducible repeat (first|refine blk_drewN ?_ _|refine blk_drew ?_|refine blk_alloc ?_ _));exact BK235.out) hb);have n5_:=Aside0.mk (below_step (by repeat (first|(with_reducible first|exact HB.out|apply below_alloc|apply pw_below_drewN|apply below_drew1|refine below_set ?_ GE235.out)|exact HB.out)) hb);clear HO239;clear HO245;clear HO248;clear BK235;clear HB;have HO239:=n0_;have HO245:=n1_;have HO248:=n2_;have HO251:=n3_;have BK235:=n4_;have HB:=n5_;clear n0_ n1_ n2_ n3_ n4_ n5_;(try clear hb);(try clear hb2);(try clear hk);(try clear hi);(try clear ho0);obtain ⟨Ao36,co36,eo36⟩:=Kd.R_slice HO251.out;subst eo36)|((with_reducible refine gate_builtin (b:=.append) (xs:=#[.tmp 18,.tmp 21]) rfl ?_);at_builtin;refine Kd.R_append_rows (Kd.int .u8) (w0:=w) w.heap.size rfl (.tmp 18) (.tmp 21) 24 5 (.int .u8 0) 1 rfl Try.underlying24 info5 rfl (by decide) (by omega) v247 y246 t249 _ _ _ (fun k_=>some k_≠(.slice Ao28 t237.length co28:Value).ownBlock∧some k_≠(.slice Ao32 t243.length co32:Value).ownBlock∧some k_≠(.slice Ao36 t249.length co36:Value).ownBlock) (fun _=>False) rfl rfl ?aO ?aR (fun _ _ h=>h) (fun _ h=>h.elim) ?aF ?aB ?aS ?aL ?_;(case aR=>repeat (first|exact (Kd.R_reads' HO251.out).2.2|(with_reducible refine Kd.C_alloc ?_ _)|(with_reducible refine Kd.C_drewN ?_ _)|(with_reducible refine Kd.C_drew ?_)));(case aB=>exact (by repeat (first|(with_reducible first|exact HB.out|apply below_alloc|apply pw_below_drewN|apply below_drew1|refine below_set ?_ GE235.out)|exact HB.out)));(case aF=>exact (fun k_ hk=>⟨Kd.fresh' (Kd.R_lt (by (with_reducible repeat (first|apply Kd.R_alloc|apply Kd.R_drewN|apply Kd.R_drew));exact HO239.out)) k_ hk,Kd.fresh' (Kd.R_lt (by (with_reducible repeat (first|apply Kd.R_alloc|apply Kd.R_drewN|apply Kd.R_drew));exact HO245.out)) k_ hk,Kd.fresh' (Kd.R_lt (by (with_reducible repeat (first|apply Kd.R_alloc|apply Kd.R_drewN|apply Kd.R_drew));exact HO251.out)) k_ hk⟩));(case aO=>exact (by (with_reducible repeat (first|apply Kd.R_alloc|apply Kd.R_drewN|apply Kd.R_drew));exact Kd.R_mono HO248.out (fun _ hk=>⟨hk.1.1,⟨hk.1.2,hk.2⟩⟩)));(case aS=>exact (below_size (by repeat (first|(with_reducible first|exact HB.out|apply below_alloc|apply pw_below_drewN|apply below_drew1|refine below_set ?_ GE235.out)|exact HB.out))));(case aL=>have:=LMc9.out;omega);intro v253 w35 ho hb hg hat;rw [← Ny252.out] at ho;have n0_:=Aside0.mk (blk_grown (g:=gb235) (o:=.cells #[.int .i64 a0_0,.int .i64 a0_1,.int .i64 a0_2,.int .i64 a0_3,.int .i64 a0_4,.int .i64 a0_5,.string a0_6,.string a0_7] 23 (0,0)) (by (with_reducible repeat (first|refine blk_drewN ?_ _|refine blk_drew ?_|refine blk_alloc ?_ _));exact BK235.out) hg (Kd.R_ne HO248.out BK235.out (by decide)));have n1_:=Aside0.mk (Kd.R_after (ok:=(fun k_=>some k_≠(.slice Ao32 t243.length co32:Value).ownBlock∧some k_≠(.slice Ao36 t249.length co36:Value).ownBlock)) (by (with_reducible repeat (first|apply Kd.R_alloc|apply Kd.R_drewN|apply Kd.R_drew));exact Kd.R_mono HO239.out (fun _ hk=>⟨⟨hk.1.1,hk.2⟩,hk.1.2⟩)) hg hat);have n2_:=Aside0.mk (Kd.R_after (ok:=(fun k_=>some k_≠(.slice Ao28 t237.length co28:Value).ownBlock∧some k_≠(.slice Ao36 t249.length co36:Value).ownBlock)) (by (with_reducible repeat (first|apply Kd.R_alloc|apply Kd.R_drewN|apply Kd.R_drew));exact Kd.R_mono HO245.out (fun _ hk=>⟨⟨hk.1.1,hk.2⟩,hk.1.2⟩)) hg hat);have n3_:=Aside0.mk (Kd.R_after (ok:=(fun k_=>some k_≠(.slice Ao28 t237.length co28:Value).ownBlock∧some k_≠(.slice Ao32 t243.length co32:Value).ownBlock)) (by (with_reducible repeat (first|apply Kd.R_alloc|apply Kd.R_drewN|apply Kd.R_drew));exact Kd.R_mono HO251.out (fun _ hk=>⟨⟨hk.1.1.2,hk.1.2⟩,hk.2⟩)) hg hat);have n4_:=Aside0.mk (hb);have n5_:=Aside0.mk (ho);clear BK235;clear HO239;clear HO245;clear HO251;clear HB;clear HO248;have BK235:=n0_;have HO239:=n1_;have HO245:=n2_;have HO251:=n3_;have HB:=n4_;have HO254:=n5_;clear n0_ n1_ n2_ n3_ n4_ n5_;clear ho hb hg hat;have hcz37_0:w35.cell? ⟨gb235,0,none⟩=some (.int .i64 a0_0):=(blk_cell BK235.out 0).trans rfl;have hcz37_1:w35.cell? ⟨gb235,1,none⟩=some (.int .i64 a0_1):=(blk_cell BK235.out 1).trans rfl;have hcz37_2:w35.cell? ⟨gb235,2,none⟩=some (.int .i64 a0_2):=(blk_cell BK235.out 2).trans rfl;have hcz37_3:w35.cell? ⟨gb235,3,none⟩=some (.int .i64 a0_3):=(blk_cell BK235.out 3).trans rfl;have hcz37_4:w35.cell? ⟨gb235,4,none⟩=some (.int .i64 a0_4):=(blk_cell BK235.out 4).trans rfl;have hcz37_5:w35.cell? ⟨gb235,5,none⟩=some (.int .i64 a0_5):=(blk_cell BK235.out 5).trans rfl;have hcz37_6:w35.cell? ⟨gb235,6,none⟩=some (.string a0_6):=(blk_cell BK235.out 6).trans rfl;have hcz37_7:w35.cell? ⟨gb235,7,none⟩=some (.string a0_7):=(blk_cell BK235.out 7).trans rfl;have hfz37_0:=blk_frozen BK235.out 0;have hfz37_1:=blk_frozen BK235.out 1;have hfz37_2:=blk_frozen BK235.out 2;have hfz37_3:=blk_frozen BK235.out 3;have hfz37_4:=blk_frozen BK235.out 4;have hfz37_5:=blk_frozen BK235.out 5;have hfz37_6:=blk_frozen BK235.out 6;have hfz37_7:=blk_frozen BK235.out 7)|((with_reducible refine gate_callee (f:=21) rfl ?_);refine goesL_ (some 26) rfl rfl Try.func21 (by kernel_rfl) rfl #[.int .i64 a0_3,.int .i64 4] rfl (by (try simp only [List.map_toArray,List.map_cons,List.map_nil]);first|done|rfl|(simp only [List.length_drop,List.length_take];rfl)) ?_;(with_reducible refine (latticeref01_Num.calls a0_3 4 t255 _ A10.out).mono ?_);rintro e w38 ⟨v256,rfl,ho0,hb⟩;refine ⟨_,rfl,?_⟩;have n0_:=Aside0.mk (Kd.R_elder' (by (with_reducible repeat (first|apply Kd.R_alloc|apply Kd.R_drewN|apply Kd.R_drew));exact HO239.out) (Kd.R_base ho0) hb);have n1_:=Aside0.mk (Kd.R_elder' (by (with_reducible repeat (first|apply Kd.R_alloc|apply Kd.R_drewN|apply Kd.R_drew));exact HO245.out) (Kd.R_base ho0) hb);have n2_:=Aside0.mk (Kd.R_elder' (by (with_reducible repeat (first|apply Kd.R_alloc|apply Kd.R_drewN|apply Kd.R_drew));exact HO251.out) (Kd.R_base ho0) hb);have n3_:=Aside0.mk (Kd.R_elder' (by (with_reducible repeat (first|apply Kd.R_alloc|apply Kd.R_drewN|apply Kd.R_drew));exact HO254.out) (Kd.R_base ho0) hb);have n4_:=Aside0.mk (Kd.R_lower (Kd.R_new' (Kd.R_new' (Kd.R_new' (Kd.R_new' ho0 (Kd.R_lt (by (with_reducible repeat (first|apply Kd.R_alloc|apply Kd.R_drewN|apply Kd.R_drew));exact HO239.out))) (Kd.R_lt (by (with_reducible repeat (first|apply Kd.R_alloc|apply Kd.R_drewN|apply Kd.R_drew));exact HO245.out))) (Kd.R_lt (by (with_reducible repeat (first|apply Kd.R_alloc|apply Kd.R_drewN|apply Kd.R_drew));exact HO251.out))) (Kd.R_lt (by (with_reducible repeat (first|apply Kd.R_alloc|apply Kd.R_drewN|apply Kd.R_drew));exact HO254.out))) (below_size (by repeat (first|(with_reducible first|exact HB.out|apply below_alloc|apply pw_below_drewN|apply below_drew1|refine below_set ?_ GE235.out)|exact HB.out))));have n5_:=Aside0.mk (blk_below (g:=gb235) (o:=.cells #[.int .i64 a0_0,.int .i64 a0_1,.int .i64 a0_2,.int .i64 a0_3,.int .i64 a0_4,.int .i64 a0_5,.string a0_6,.string a0_7] 23 (0,0)) (by (with_reducible repeat (first|refine blk_drewN ?_ _|refine blk_drew ?_|refine blk_alloc ?_ _));exact BK235.out) hb);have n6_:=Aside0.mk (below_step (by repeat (first|(with_reducible first|exact HB.out|apply below_alloc|apply pw_below_drewN|apply below_drew1|refine below_set ?_ GE235.out)|exact HB.out)) hb);clear HO239;clear HO245;clear HO251;clear HO254;clear BK235;clear HB;have HO239:=n0_;have HO245:=n1_;have HO251:=n2_;have HO254:=n3_;have HO257:=n4_;have BK235:=n5_;have HB:=n6_;clear n0_ n1_ n2_ n3_ n4_ n5_ n6_;(try clear hb);(try clear hb2);(try clear hk);(try clear hi);(try clear ho0);obtain ⟨Ao40,co40,eo40⟩:=Kd.R_slice HO257.out;subst eo40)|((with_reducible refine gate_builtin (b:=.append) (xs:=#[.tmp 23,.tmp 26]) rfl ?_);at_builtin;refine Kd.R_append_rows (Kd.int .u8) (w0:=w) w.heap.size rfl (.tmp 23) (.tmp 26) 24 5 (.int .u8 0) 1 rfl Try.underlying24 info5 rfl (by decide) (by omega) v253 y252 t255 _ _ _ (fun k_=>some k_≠(.slice Ao28 t237.length co28:Value).ownBlock∧some k_≠(.slice Ao32 t243.length co32:Value).ownBlock∧some k_≠(.slice Ao36 t249.length co36:Value).ownBlock∧some k_≠(.slice Ao40 t255.length co40:Value).ownBlock) (fun _=>False) rfl rfl ?aO ?aR (fun _ _ h=>h) (fun _ h=>h.elim) ?aF ?aB ?aS ?aL ?_;(case aR=>repeat (first|exact (Kd.R_reads' HO257.out).2.2|(with_reducible refine Kd.C_alloc ?_ _)|(with_reducible refine Kd.C_drewN ?_ _)|(with_reducible refine Kd.C_drew ?_)));(case aB=>exact (by repeat (first|(with_reducible first|exact HB.out|apply below_alloc|apply pw_below_drewN|apply below_drew1|refine below_set ?_ GE235.out)|exact HB.out)));(case aF=>exact (fun k_ hk=>⟨Kd.fresh' (Kd.R_lt (by (with_reducible repeat (first|apply Kd.R_alloc|apply Kd.R_drewN|apply Kd.R_drew));exact HO239.out)) k_ hk,Kd.fresh' (Kd.R_lt (by (with_reducible repeat (first|apply Kd.R_alloc|apply Kd.R_drewN|apply Kd.R_drew));exact HO245.out)) k_ hk,Kd.fresh' (Kd.R_lt (by (with_reducible repeat (first|apply Kd.R_alloc|apply Kd.R_drewN|apply Kd.R_drew));exact HO251.out)) k_ hk,Kd.fresh' (Kd.R_lt (by (with_reducible repeat (first|apply Kd.R_alloc|apply Kd.R_drewN|apply Kd.R_drew));exact HO257.out)) k_ hk⟩));(case aO=>exact (by (with_reducible repeat (first|apply Kd.R_alloc|apply Kd.R_drewN|apply Kd.R_drew));exact Kd.R_mono HO254.out (fun _ hk=>⟨hk.1.1,⟨hk.1.2.1,⟨hk.1.2.2,hk.2⟩⟩⟩)));(case aS=>exact (below_size (by repeat (first|(with_reducible first|exact HB.out|apply below_alloc|apply pw_below_drewN|apply below_drew1|refine below_set ?_ GE235.out)|exact HB.out))));(case aL=>have:=LMc11.out;omega);intro v259 w39 ho hb hg hat;rw [← Ny258.out] at ho;have n0_:=Aside0.mk (blk_grown (g:=gb235) (o:=.cells #[.int .i64 a0_0,.int .i64 a0_1,.int .i64 a0_2,.int .i64 a0_3,.int .i64 a0_4,.int .i64 a0_5,.string a0_6,.string a0_7] 23 (0,0)) (by (with_reducible repeat (first|refine blk_drewN ?_ _|refine blk_drew ?_|refine blk_alloc ?_ _));exact BK235.out) hg (Kd.R_ne HO254.out BK235.out (by decide)));have n1_:=Aside0.mk (Kd.R_after (ok:=(fun k_=>some k_≠(.slice Ao32 t243.length co32:Value).ownBlock∧some k_≠(.slice Ao36 t249.length co36:Value).ownBlock∧some k_≠(.slice Ao40 t255.length co40:Value).ownBlock)) (by (with_reducible repeat (first|apply Kd.R_alloc|apply Kd.R_drewN|apply Kd.R_drew));exact Kd.R_mono HO239.out (fun _ hk=>⟨⟨hk.1.1.1,⟨hk.1.1.2,hk.2⟩⟩,hk.1.2⟩)) hg hat);have n2_:=Aside0.mk (Kd.R_after (ok:=(fun k_=>some k_≠(.slice Ao28 t237.length co28:Value).ownBlock∧some k_≠(.slice Ao36 t249.length co36:Value).ownBlock∧some k_≠(.slice Ao40 t255.length co40:Value).ownBlock)) (by (with_reducible repeat (first|apply Kd.R_alloc|apply Kd.R_drewN|apply Kd.R_drew));exact Kd.R_mono HO245.out (fun _ hk=>⟨⟨hk.1.1.1,⟨hk.1.1.2,hk.2⟩⟩,hk.1.2⟩)) hg hat);have n3_:=Aside0.mk (Kd.R_after (ok:=(fun k_=>some k_≠(.slice Ao28 t237.length co28:Value).ownBlock∧some k_≠(.slice Ao32 t243.length co32:Value).ownBlock∧some k_≠(.slice Ao40 t255.length co40:Value).ownBlock)) (by (with_reducible repeat (first|apply Kd.R_alloc|apply Kd.R_drewN|apply Kd.R_drew));exact Kd.R_mono HO251.out (fun _ hk=>⟨⟨hk.1.1.1,⟨hk.1.1.2,hk.2⟩⟩,hk.1.2⟩)) hg hat);have n4_:=Aside0.mk (Kd.R_after (ok:=(fun k_=>some k_≠(.slice Ao28 t237.length co28:Value).ownBlock∧some k_≠(.slice Ao32 t243.length co32:Value).ownBlock∧some k_≠(.slice Ao36 t249.length co36:Value).ownBlock)) (by (with_reducible repeat (first|apply Kd.R_alloc|apply Kd.R_drewN|apply Kd.R_drew));exact Kd.R_mono HO257.out (fun _ hk=>⟨⟨hk.1.1.1.2,⟨hk.1.1.2,hk.1.2⟩⟩,hk.2⟩)) hg hat);have n5_:=Aside0.mk (hb);have n6_:=Aside0.mk (ho);clear BK235;clear HO239;clear HO245;clear HO251;clear HO257;clear HB;clear HO254;have BK235:=n0_;have HO239:=n1_;have HO245:=n2_;have HO251:=n3_;have HO257:=n4_;have HB:=n5_;have HO260:=n6_;clear n0_ n1_ n2_ n3_ n4_ n5_ n6_;clear ho hb hg hat;have hcz41_0:w39.cell? ⟨gb235,0,none⟩=some (.int .i64 a0_0):=(blk_cell BK235.out 0).trans rfl;have hcz41_1:w39.cell? ⟨gb235,1,none⟩=some (.int .i64 a0_1):=(blk_cell BK235.out 1).trans rfl;have hcz41_2:w39.cell? ⟨gb235,2,none⟩=some (.int .i64 a0_2):=(blk_cell BK235.out 2).trans rfl;have hcz41_3:w39.cell? ⟨gb235,3,none⟩=some (.int .i64 a0_3):=(blk_cell BK235.out 3).trans rfl;have hcz41_4:w39.cell? ⟨gb235,4,none⟩=some (.int .i64 a0_4):=(blk_cell BK235.out 4).trans rfl;have hcz41_5:w39.cell? ⟨gb235,5,none⟩=some (.int .i64 a0_5):=(blk_cell BK235.out 5).trans rfl;have hcz41_6:w39.cell? ⟨gb235,6,none⟩=some (.string a0_6):=(blk_cell BK235.out 6).trans rfl;have hcz41_7:w39.cell? ⟨gb235,7,none⟩=some (.string a0_7):=(blk_cell BK235.out 7).trans rfl;have hfz41_0:=blk_frozen BK235.out 0;have hfz41_1:=blk_frozen BK235.out 1;have hfz41_2:=blk_frozen BK235.out 2;have hfz41_3:=blk_frozen BK235.out 3;have hfz41_4:=blk_frozen BK235.out 4;have hfz41_5:=blk_frozen BK235.out 5;have hfz41_6:=blk_frozen BK235.out 6;have hfz41_7:=blk_frozen BK235.out 7)|((with_reducible refine gate_callee (f:=21) rfl ?_);refine goesL_ (some 31) rfl rfl Try.func21 (by kernel_rfl) rfl #[.int .i64 a0_4,.int .i64 4] rfl (by (try simp only [List.map_toArray,List.map_cons,List.map_nil]);first|done|rfl|(simp only [List.length_drop,List.length_take];rfl)) ?_;(with_reducible refine (latticeref01_Num.calls a0_4 4 t261 _ A12.out).mono ?_);rintro e w42 ⟨v262,rfl,ho0,hb⟩;refine ⟨_,rfl,?_⟩;have n0_:=Aside0.mk (Kd.R_elder' (by (with_reducible repeat (first|apply Kd.R_alloc|apply Kd.R_drewN|apply Kd.R_drew));exact HO239.out) (Kd.R_base ho0) hb);have n1_:=Aside0.mk (Kd.R_elder' (by (with_reducible repeat (first|apply Kd.R_alloc|apply Kd.R_drewN|apply Kd.R_drew));exact HO245.out) (Kd.R_base ho0) hb);have n2_:=Aside0.mk (Kd.R_elder' (by (with_reducible repeat (first|apply Kd.R_alloc|apply Kd.R_drewN|apply Kd.R_drew));exact HO251.out) (Kd.R_base ho0) hb);have n3_:=Aside0.mk (Kd.R_elder' (by (with_reducible repeat (first|apply Kd.R_alloc|apply Kd.R_drewN|apply Kd.R_drew));exact HO257.out) (Kd.R_base ho0) hb);have n4_:=Aside0.mk (Kd.R_elder' (by (with_reducible repeat (first|apply Kd.R_alloc|apply Kd.R_drewN|apply Kd.R_drew));exact HO260.out) (Kd.R_base ho0) hb);have n5_:=Aside0.mk (Kd.R_lower (Kd.R_new' (Kd.R_new' (Kd.R_new' (Kd.R_new' (Kd.R_new' ho0 (Kd.R_lt (by (with_reducible repeat (first|apply Kd.R_alloc|apply Kd.R_drewN|apply Kd.R_drew));exact HO239.out))) (Kd.R_lt (by (with_reducible repeat (first|apply Kd.R_alloc|apply Kd.R_drewN|apply Kd.R_drew));exact HO245.out))) (Kd.R_lt (by (with_reducible repeat (first|apply Kd.R_alloc|apply Kd.R_drewN|apply Kd.R_drew));exact HO251.out))) (Kd.R_lt (by (with_reducible repeat (first|apply Kd.R_alloc|apply Kd.R_drewN|apply Kd.R_drew));exact HO257.out))) (Kd.R_lt (by (with_reducible repeat (first|apply Kd.R_alloc|apply Kd.R_drewN|apply Kd.R_drew));exact HO260.out))) (below_size (by repeat (first|(with_reducible first|exact HB.out|apply below_alloc|apply pw_below_drewN|apply below_drew1|refine below_set ?_ GE235.out)|exact HB.out))));have n6_:=Aside0.mk (blk_below (g:=gb235) (o:=.cells #[.int .i64 a0_0,.int .i64 a0_1,.int .i64 a0_2,.int .i64 a0_3,.int .i64 a0_4,.int .i64 a0_5,.string a0_6,.string a0_7] 23 (0,0)) (by (with_reducible repeat (first|refine blk_drewN ?_ _|refine blk_drew ?_|refine blk_alloc ?_ _));exact BK235.out) hb);have n7_:=Aside0.mk (below_step (by repeat (first|(with_reducible first|exact HB.out|apply below_alloc|apply pw_below_drewN|apply below_drew1|refine below_set ?_ GE235.out)|exact HB.out)) hb);clear HO239;clear HO245;clear HO251;clear HO257;clear HO260;clear BK235;clear HB;have HO239:=n0_;have HO245:=n1_;have HO251:=n2_;have HO257:=n3_;have HO260:=n4_;have HO263:=n5_;have BK235:=n6_;have HB:=n7_;clear n0_ n1_ n2_ n3_ n4_ n5_ n6_ n7_;(try clear hb);(try clear hb2);(try clear hk);(try clear hi);(try clear ho0);obtain ⟨Ao44,co44,eo44⟩:=Kd.R_slice HO263.out;subst eo44)|((with_reducible refine gate_builtin (b:=.append) (xs:=#[.tmp 28,.tmp 31]) rfl ?_);at_builtin;refine Kd.R_append_rows (Kd.int .u8) (w0:=w) w.heap.size rfl (.tmp 28) (.tmp 31) 24 5 (.int .u8 0) 1 rfl Try.underlying24 info5 rfl (by decide) (by omega) v259 y258 t261 _ _ _ (fun k_=>some k_≠(.slice Ao28 t237.length co28:Value).ownBlock∧some k_≠(.slice Ao32 t243.length co32:Value).ownBlock∧some k_≠(.slice Ao36 t249.length co36:Value).ownBlock∧some k_≠(.slice Ao40 t255.length co40:Value).ownBlock∧some k_≠(.slice Ao44 t261.length co44:Value).ownBlock) (fun _=>False) rfl rfl ?aO ?aR (fun _ _ h=>h) (fun _ h=>h.elim) ?aF ?aB ?aS ?aL ?_;(case aR=>repeat (first|exact (Kd.R_reads' HO263.out).2.2|(with_reducible refine Kd.C_alloc ?_ _)|(with_reducible refine Kd.C_drewN ?_ _)|(with_reducible refine Kd.C_drew ?_)));(case aB=>exact (by repeat (first|(with_reducible first|exact HB.out|apply below_alloc|apply pw_below_drewN|apply below_drew1|refine below_set ?_ GE235.out)|exact HB.out)));(case aF=>exact (fun k_ hk=>⟨Kd.fresh' (Kd.R_lt (by (with_reducible repeat (first|apply Kd.R_alloc|apply Kd.R_drewN|apply Kd.R_drew));exact HO239.out)) k_ hk,Kd.fresh' (Kd.R_lt (by (with_reducible repeat (first|apply Kd.R_alloc|apply Kd.R_drewN|apply Kd.R_drew));exact HO245.out)) k_ hk,Kd.fresh' (Kd.R_lt (by (with_reducible repeat (first|apply Kd.R_alloc|apply Kd.R_drewN|apply Kd.R_drew));exact HO251.out)) k_ hk,Kd.fresh' (Kd.R_lt (by (with_reducible repeat (first|apply Kd.R_alloc|apply Kd.R_drewN|apply Kd.R_drew));exact HO257.out)) k_ hk,Kd.fresh' (Kd.R_lt (by (with_reducible repeat (first|apply Kd.R_alloc|apply Kd.R_drewN|apply Kd.R_drew));exact HO263.out)) k_ hk⟩));(case aO=>exact (by (with_reducible repeat (first|apply Kd.R_alloc|apply Kd.R_drewN|apply Kd.R_drew));exact Kd.R_mono HO260.out (fun _ hk=>⟨hk.1.1,⟨hk.1.2.1,⟨hk.1.2.2.1,⟨hk.1.2.2.2,hk.2⟩⟩⟩⟩)));(case aS=>exact (below_size (by repeat (first|(with_reducible first|exact HB.out|apply below_alloc|apply pw_below_drewN|apply below_drew1|refine below_set ?_ GE235.out)|exact HB.out))));(case aL=>have:=LMc13.out;omega);intro v265 w43 ho hb hg hat;rw [← Ny264.out] at ho;have n0_:=Aside0.mk (blk_grown (g:=gb235) (o:=.cells #[.int .i64 a0_0,.int .i64 a0_1,.int .i64 a0_2,.int .i64 a0_3,.int .i64 a0_4,.int .i64 a0_5,.string a0_6,.string a0_7] 23 (0,0)) (by (with_reducible repeat (first|refine blk_drewN ?_ _|refine blk_drew ?_|refine blk_alloc ?_ _));exact BK235.out) hg (Kd.R_ne HO260.out BK235.out (by decide)));have n1_:=Aside0.mk (Kd.R_after (ok:=(fun k_=>some k_≠(.slice Ao32 t243.length co32:Value).ownBlock∧some k_≠(.slice Ao36 t249.length co36:Value).ownBlock∧some k_≠(.slice Ao40 t255.length co40:Value).ownBlock∧some k_≠(.slice Ao44 t261.length co44:Value).ownBlock)) (by (with_reducible repeat (first|apply Kd.R_alloc|apply Kd.R_drewN|apply Kd.R_drew));exact Kd.R_mono HO239.out (fun _ hk=>⟨⟨hk.1.1.1,⟨hk.1.1.2.1,⟨hk.1.1.2.2,hk.2⟩⟩⟩,hk.1.2⟩)) hg hat);have n2_:=Aside0.mk (Kd.R_after (ok:=(fun k_=>some k_≠(.slice Ao28 t237.length co28:Value).ownBlock∧some k_≠(.slice Ao36 t249.length co36:Value).ownBlock∧some k_≠(.slice Ao40 t255.length co40:Value).ownBlock∧some k_≠(.slice Ao44 t261.length co44:Value).ownBlock)) (by (with_reducible repeat (first|apply Kd.R_alloc|apply Kd.R_drewN|apply Kd.R_drew));exact Kd.R_mono HO245.out (fun _ hk=>⟨⟨hk.1.1.1,⟨hk.1.1.2.1,⟨hk.1.1.2.2,hk.2⟩⟩⟩,hk.1.2⟩)) hg hat);have n3_:=Aside0.mk (Kd.R_after (ok:=(fun k_=>some k_≠(.slice Ao28 t237.length co28:Value).ownBlock∧some k_≠(.slice Ao32 t243.length co32:Value).ownBlock∧some k_≠(.slice Ao40 t255.length co40:Value).ownBlock∧some k_≠(.slice Ao44 t261.length co44:Value).ownBlock)) (by (with_reducible repeat (first|apply Kd.R_alloc|apply Kd.R_drewN|apply Kd.R_drew));exact Kd.R_mono HO251.out (fun _ hk=>⟨⟨hk.1.1.1,⟨hk.1.1.2.1,⟨hk.1.1.2.2,hk.2⟩⟩⟩,hk.1.2⟩)) hg hat);have n4_:=Aside0.mk (Kd.R_after (ok:=(fun k_=>some k_≠(.slice Ao28 t237.length co28:Value).ownBlock∧some k_≠(.slice Ao32 t243.length co32:Value).ownBlock∧some k_≠(.slice Ao36 t249.length co36:Value).ownBlock∧some k_≠(.slice Ao44 t261.length co44:Value).ownBlock)) (by (with_reducible repeat (first|apply Kd.R_alloc|apply Kd.R_drewN|apply Kd.R_drew));exact Kd.R_mono HO257.out (fun _ hk=>⟨⟨hk.1.1.1,⟨hk.1.1.2.1,⟨hk.1.1.2.2,hk.2⟩⟩⟩,hk.1.2⟩)) hg hat);have n5_:=Aside0.mk (Kd.R_after (ok:=(fun k_=>some k_≠(.slice Ao28 t237.length co28:Value).ownBlock∧some k_≠(.slice Ao32 t243.length co32:Value).ownBlock∧some k_≠(.slice Ao36 t249.length co36:Value).ownBlock∧some k_≠(.slice Ao40 t255.length co40:Value).ownBlock)) (by (with_reducible repeat (first|apply Kd.R_alloc|apply Kd.R_drewN|apply Kd.R_drew));exact Kd.R_mono HO263.out (fun _ hk=>⟨⟨hk.1.1.1.1.2,⟨hk.1.1.1.2,⟨hk.1.1.2,hk.1.2⟩⟩⟩,hk.2⟩)) hg hat);have n6_:=Aside0.mk (hb);have n7_:=Aside0.mk (ho);clear BK235;clear HO239;clear HO245;clear HO251;clear HO257;clear HO263;clear HB;clear HO260;have BK235:=n0_;have HO239:=n1_;have HO245:=n2_;have HO251:=n3_;have HO257:=n4_;have HO263:=n5_;have HB:=n6_;have HO266:=n7_;clear n0_ n1_ n2_ n3_ n4_ n5_ n6_ n7_;clear ho hb hg hat;have hcz45_0:w43.cell? ⟨gb235,0,none⟩=some (.int .i64 a0_0):=(blk_cell BK235.out 0).trans rfl;have hcz45_1:w43.cell? ⟨gb235,1,none⟩=some (.int .i64 a0_1):=(blk_cell BK235.out 1).trans rfl;have hcz45_2:w43.cell? ⟨gb235,2,none⟩=some (.int .i64 a0_2):=(blk_cell BK235.out 2).trans rfl;have hcz45_3:w43.cell? ⟨gb235,3,none⟩=some (.int .i64 a0_3):=(blk_cell BK235.out 3).trans rfl;have hcz45_4:w43.cell? ⟨gb235,4,none⟩=some (.int .i64 a0_4):=(blk_cell BK235.out 4).trans rfl;have hcz45_5:w43.cell? ⟨gb235,5,none⟩=some (.int .i64 a0_5):=(blk_cell BK235.out 5).trans rfl;have hcz45_6:w43.cell? ⟨gb235,6,none⟩=some (.string a0_6):=(blk_cell BK235.out 6).trans rfl;have hcz45_7:w43.cell? ⟨gb235,7,none⟩=some (.string a0_7):=(blk_cell BK235.out 7).trans rfl;have hfz45_0:=blk_frozen BK235.out 0;have hfz45_1:=blk_frozen BK235.out 1;have hfz45_2:=blk_frozen BK235.out 2;have hfz45_3:=blk_frozen BK235.out 3;have hfz45_4:=blk_frozen BK235.out 4;have hfz45_5:=blk_frozen BK235.out 5;have hfz45_6:=blk_frozen BK235.out 6;have hfz45_7:=blk_frozen BK235.out 7)|((with_reducible refine gate_callee (f:=21) rfl ?_);refine goesL_ (some 36) rfl rfl Try.func21 (by kernel_rfl) rfl #[.int .i64 a0_5,.int .i64 8] rfl (by (try simp only [List.map_toArray,List.map_cons,List.map_nil]);first|done|rfl|(simp only [List.length_drop,List.length_take];rfl)) ?_;(with_reducible refine (latticeref01_Num.calls a0_5 8 t267 _ A14.out).mono ?_);rintro e w46 ⟨v268,rfl,ho0,hb⟩;refine ⟨_,rfl,?_⟩;have n0_:=Aside0.mk (Kd.R_elder' (by (with_reducible repeat (first|apply Kd.R_alloc|apply Kd.R_drewN|apply Kd.R_drew));exact HO239.out) (Kd.R_base ho0) hb);have n1_:=Aside0.mk (Kd.R_elder' (by (with_reducible repeat (first|apply Kd.R_alloc|apply Kd.R_drewN|apply Kd.R_drew));exact HO245.out) (Kd.R_base ho0) hb);have n2_:=Aside0.mk (Kd.R_elder' (by (with_reducible repeat (first|apply Kd.R_alloc|apply Kd.R_drewN|apply Kd.R_drew));exact HO251.out) (Kd.R_base ho0) hb);have n3_:=Aside0.mk (Kd.R_elder' (by (with_reducible repeat (first|apply Kd.R_alloc|apply Kd.R_drewN|apply Kd.R_drew));exact HO257.out) (Kd.R_base ho0) hb);have n4_:=Aside0.mk (Kd.R_elder' (by (with_reducible repeat (first|apply Kd.R_alloc|apply Kd.R_drewN|apply Kd.R_drew));exact HO263.out) (Kd.R_base ho0) hb);have n5_:=Aside0.mk (Kd.R_elder' (by (with_reducible repeat (first|apply Kd.R_alloc|apply Kd.R_drewN|apply Kd.R_drew));exact HO266.out) (Kd.R_base ho0) hb);have n6_:=Aside0.mk (Kd.R_lower (Kd.R_new' (Kd.R_new' (Kd.R_new' (Kd.R_new' (Kd.R_new' (Kd.R_new' ho0 (Kd.R_lt (by (with_reducible repeat (first|apply Kd.R_alloc|apply Kd.R_drewN|apply Kd.R_drew));exact HO239.out))) (Kd.R_lt (by (with_reducible repeat (first|apply Kd.R_alloc|apply Kd.R_drewN|apply Kd.R_drew));exact HO245.out))) (Kd.R_lt (by (with_reducible repeat (first|apply Kd.R_alloc|apply Kd.R_drewN|apply Kd.R_drew));exact HO251.out))) (Kd.R_lt (by (with_reducible repeat (first|apply Kd.R_alloc|apply Kd.R_drewN|apply Kd.R_drew));exact HO257.out))) (Kd.R_lt (by (with_reducible repeat (first|apply Kd.R_alloc|apply Kd.R_drewN|apply Kd.R_drew));exact HO263.out))) (Kd.R_lt (by (with_reducible repeat (first|apply Kd.R_alloc|apply Kd.R_drewN|apply Kd.R_drew));exact HO266.out))) (below_size (by repeat (first|(with_reducible first|exact HB.out|apply below_alloc|apply pw_below_drewN|apply below_drew1|refine below_set ?_ GE235.out)|exact HB.out))));have n7_:=Aside0.mk (blk_below (g:=gb235) (o:=.cells #[.int .i64 a0_0,.int .i64 a0_1,.int .i64 a0_2,.int .i64 a0_3,.int .i64 a0_4,.int .i64 a0_5,.string a0_6,.string a0_7] 23 (0,0)) (by (with_reducible repeat (first|refine blk_drewN ?_ _|refine blk_drew ?_|refine blk_alloc ?_ _));exact BK235.out) hb);have n8_:=Aside0.mk (below_step (by repeat (first|(with_reducible first|exact HB.out|apply below_alloc|apply pw_below_drewN|apply below_drew1|refine below_set ?_ GE235.out)|exact HB.out)) hb);clear HO239;clear HO245;clear HO251;clear HO257;clear HO263;clear HO266;clear BK235;clear HB;have HO239:=n0_;have HO245:=n1_;have HO251:=n2_;have HO257:=n3_;have HO263:=n4_;have HO266:=n5_;have HO269:=n6_;have BK235:=n7_;have HB:=n8_;clear n0_ n1_ n2_ n3_ n4_ n5_ n6_ n7_ n8_;(try clear hb);(try clear hb2);(try clear hk);(try clear hi);(try clear ho0);obtain ⟨Ao48,co48,eo48⟩:=Kd.R_slice HO269.out;subst eo48)|((with_reducible refine gate_builtin (b:=.append) (xs:=#[.tmp 33,.tmp 36]) rfl ?_);at_builtin;refine Kd.R_append_rows (Kd.int .u8) (w0:=w) w.heap.size rfl (.tmp 33) (.tmp 36) 24 5 (.int .u8 0) 1 rfl Try.underlying24 info5 rfl (by decide) (by omega) v265 y264 t267 _ _ _ (fun k_=>some k_≠(.slice Ao28 t237.length co28:Value).ownBlock∧some k_≠(.slice Ao32 t243.length co32:Value).ownBlock∧some k_≠(.slice Ao36 t249.length co36:Value).ownBlock∧some k_≠(.slice Ao40 t255.length co40:Value).ownBlock∧some k_≠(.slice Ao44 t261.length co44:Value).ownBlock∧some k_≠(.slice Ao48 t267.length co48:Value).ownBlock) (fun _=>False) rfl rfl ?aO ?aR (fun _ _ h=>h) (fun _ h=>h.elim) ?aF ?aB ?aS ?aL ?_;(case aR=>repeat (first|exact (Kd.R_reads' HO269.out).2.2|(with_reducible refine Kd.C_alloc ?_ _)|(with_reducible refine Kd.C_drewN ?_ _)|(with_reducible refine Kd.C_drew ?_)));(case aB=>exact (by repeat (first|(with_reducible first|exact HB.out|apply below_alloc|apply pw_below_drewN|apply below_drew1|refine below_set ?_ GE235.out)|exact HB.out)));(case aF=>exact (fun k_ hk=>⟨Kd.fresh' (Kd.R_lt (by (with_reducible repeat (first|apply Kd.R_alloc|apply Kd.R_drewN|apply Kd.R_drew));exact HO239.out)) k_ hk,Kd.fresh' (Kd.R_lt (by (with_reducible repeat (first|apply Kd.R_alloc|apply Kd.R_drewN|apply Kd.R_drew));exact HO245.out)) k_ hk,Kd.fresh' (Kd.R_lt (by (with_reducible repeat (first|apply Kd.R_alloc|apply Kd.R_drewN|apply Kd.R_drew));exact HO251.out)) k_ hk,Kd.fresh' (Kd.R_lt (by (with_reducible repeat (first|apply Kd.R_alloc|apply Kd.R_drewN|apply Kd.R_drew));exact HO257.out)) k_ hk,Kd.fresh' (Kd.R_lt (by (with_reducible repeat (first|apply Kd.R_alloc|apply Kd.R_drewN|apply Kd.R_drew));exact HO263.out)) k_ hk,Kd.fresh' (Kd.R_lt (by (with_reducible repeat (first|apply Kd.R_alloc|apply Kd.R_drewN|apply Kd.R_drew));exact HO269.out)) k_ hk⟩));(case aO=>exact (by (with_reducible repeat (first|apply Kd.R_alloc|apply Kd.R_drewN|apply Kd.R_drew));exact Kd.R_mono HO266.out (fun _ hk=>⟨hk.1.1,⟨hk.1.2.1,⟨hk.1.2.2.1,⟨hk.1.2.2.2.1,⟨hk.1.2.2.2.2,hk.2⟩⟩⟩⟩⟩)));(case aS=>exact (below_size (by repeat (first|(with_reducible first|exact HB.out|apply below_alloc|apply pw_below_drewN|apply below_drew1|refine below_set ?_ GE235.out)|exact HB.out))));(case aL=>have:=LMc15.out;omega);intro v271 w47 ho hb hg hat;rw [← Ny270.out] at ho;have n0_:=Aside0.mk (blk_grown (g:=gb235) (o:=.cells #[.int .i64 a0_0,.int .i64 a0_1,.int .i64 a0_2,.int .i64 a0_3,.int .i64 a0_4,.int .i64 a0_5,.string a0_6,.string a0_7] 23 (0,0)) (by (with_reducible repeat (first|refine blk_drewN ?_ _|refine blk_drew ?_|refine blk_alloc ?_ _));exact BK235.out) hg (Kd.R_ne HO266.out BK235.out (by decide)));have n1_:=Aside0.mk (Kd.R_after (ok:=(fun k_=>some k_≠(.slice Ao32 t243.length co32:Value).ownBlock∧some k_≠(.slice Ao36 t249.length co36:Value).ownBlock∧some k_≠(.slice Ao40 t255.length co40:Value).ownBlock∧some k_≠(.slice Ao44 t261.length co44:Value).ownBlock∧some k_≠(.slice Ao48 t267.length co48:Value).ownBlock)) (by (with_reducible repeat (first|apply Kd.R_alloc|apply Kd.R_drewN|apply Kd.R_drew));exact Kd.R_mono HO239.out (fun _ hk=>⟨⟨hk.1.1.1,⟨hk.1.1.2.1,⟨hk.1.1.2.2.1,⟨hk.1.1.2.2.2,hk.2⟩⟩⟩⟩,hk.1.2⟩)) hg hat);have n2_:=Aside0.mk (Kd.R_after (ok:=(fun k_=>some k_≠(.slice Ao28 t237.length co28:Value).ownBlock∧some k_≠(.slice Ao36 t249.length co36:Value).ownBlock∧some k_≠(.slice Ao40 t255.length co40:Value).ownBlock∧some k_≠(.slice Ao44 t261.length co44:Value).ownBlock∧some k_≠(.slice Ao48 t267.length co48:Value).ownBlock)) (by (with_reducible repeat (first|apply Kd.R_alloc|apply Kd.R_drewN|apply Kd.R_drew));exact Kd.R_mono HO245.out (fun _ hk=>⟨⟨hk.1.1.1,⟨hk.1.1.2.1,⟨hk.1.1.2.2.1,⟨hk.1.1.2.2.2,hk.2⟩⟩⟩⟩,hk.1.2⟩)) hg hat);have n3_:=Aside0.mk (Kd.R_after (ok:=(fun k_=>some k_≠(.slice Ao28 t237.length co28:Value).ownBlock∧some k_≠(.slice Ao32 t243.length co32:Value).ownBlock∧some k_≠(.slice Ao40 t255.length co40:Value).ownBlock∧some k_≠(.slice Ao44 t261.length co44:Value).ownBlock∧some k_≠(.slice Ao48 t267.length co48:Value).ownBlock)) (by (with_reducible repeat (first|apply Kd.R_alloc|apply Kd.R_drewN|apply Kd.R_drew));exact Kd.R_mono HO251.out (fun _ hk=>⟨⟨hk.1.1.1,⟨hk.1.1.2.1,⟨hk.1.1.2.2.1,⟨hk.1.1.2.2.2,hk.2⟩⟩⟩⟩,hk.1.2⟩)) hg hat);have n4_:=Aside0.mk (Kd.R_after (ok:=(fun k_=>some k_≠(.slice Ao28 t237.length co28:Value).ownBlock∧some k_≠(.slice Ao32 t243.length co32:Value).ownBlock∧some k_≠(.slice Ao36 t249.length co36:Value).ownBlock∧some k_≠(.slice Ao44 t261.length co44:Value).ownBlock∧some k_≠(.slice Ao48 t267.length co48:Value).ownBlock)) (by (with_reducible repeat (first|apply Kd.R_alloc|apply Kd.R_drewN|apply Kd.R_drew));exact Kd.R_mono HO257.out (fun _ hk=>⟨⟨hk.1.1.1,⟨hk.1.1.2.1,⟨hk.1.1.2.2.1,⟨hk.1.1.2.2.2,hk.2⟩⟩⟩⟩,hk.1.2⟩)) hg hat);have n5_:=Aside0.mk (Kd.R_after (ok:=(fun k_=>some k_≠(.slice Ao28 t237.length co28:Value).ownBlock∧some k_≠(.slice Ao32 t243.length co32:Value).ownBlock∧some k_≠(.slice Ao36 t249.length co36:Value).ownBlock∧some k_≠(.slice Ao40 t255.length co40:Value).ownBlock∧some k_≠(.slice Ao48 t267.length co48:Value).ownBlock)) (by (with_reducible repeat (first|apply Kd.R_alloc|apply Kd.R_drewN|apply Kd.R_drew));exact Kd.R_mono HO263.out (fun _ hk=>⟨⟨hk.1.1.1,⟨hk.1.1.2.1,⟨hk.1.1.2.2.1,⟨hk.1.1.2.2.2,hk.2⟩⟩⟩⟩,hk.1.2⟩)) hg hat);have n6_:=Aside0.mk (Kd.R_after (ok:=(fun k_=>some k_≠(.slice Ao28 t237.length co28:Value).ownBlock∧some k_≠(.slice Ao32 t243.length co32:Value).ownBlock∧some k_≠(.slice Ao36 t249.length co36:Value).ownBlock∧some k_≠(.slice Ao40 t255.length co40:Value).ownBlock∧some k_≠(.slice Ao44 t261.length co44:Value).ownBlock)) (by (with_reducible repeat (first|apply Kd.R_alloc|apply Kd.R_drewN|apply Kd.R_drew));exact Kd.R_mono HO269.out (fun _ hk=>⟨⟨hk.1.1.1.1.1.2,⟨hk.1.1.1.1.2,⟨hk.1.1.1.2,⟨hk.1.1.2,hk.1.2⟩⟩⟩⟩,hk.2⟩)) hg hat);have n7_:=Aside0.mk (hb);have n8_:=Aside0.mk (ho);clear BK235;clear HO239;clear HO245;clear HO251;clear HO257;clear HO263;clear HO269;clear HB;clear HO266;have BK235:=n0_;have HO239:=n1_;have HO245:=n2_;have HO251:=n3_;have HO257:=n4_;have HO263:=n5_;have HO269:=n6_;have HB:=n7_;have HO272:=n8_;clear n0_ n1_ n2_ n3_ n4_ n5_ n6_ n7_ n8_;clear ho hb hg hat;have hcz49_0:w47.cell? ⟨gb235,0,none⟩=some (.int .i64 a0_0):=(blk_cell BK235.out 0).trans rfl;have hcz49_1:w47.cell? ⟨gb235,1,none⟩=some (.int .i64 a0_1):=(blk_cell BK235.out 1).trans rfl;have hcz49_2:w47.cell? ⟨gb235,2,none⟩=some (.int .i64 a0_2):=(blk_cell BK235.out 2).trans rfl;have hcz49_3:w47.cell? ⟨gb235,3,none⟩=some (.int .i64 a0_3):=(blk_cell BK235.out 3).trans rfl;have hcz49_4:w47.cell? ⟨gb235,4,none⟩=some (.int .i64 a0_4):=(blk_cell BK235.out 4).trans rfl;have hcz49_5:w47.cell? ⟨gb235,5,none⟩=some (.int .i64 a0_5):=(blk_cell BK235.out 5).trans rfl;have hcz49_6:w47.cell? ⟨gb235,6,none⟩=some (.string a0_6):=(blk_cell BK235.out 6).trans rfl;have hcz49_7:w47.cell? ⟨gb235,7,none⟩=some (.string a0_7):=(blk_cell BK235.out 7).trans rfl;have hfz49_0:=blk_frozen BK235.out 0;have hfz49_1:=blk_frozen BK235.out 1;have hfz49_2:=blk_frozen BK235.out 2;have hfz49_3:=blk_frozen BK235.out 3;have hfz49_4:=blk_frozen BK235.out 4;have hfz49_5:=blk_frozen BK235.out 5;have hfz49_6:=blk_frozen BK235.out 6;have hfz49_7:=blk_frozen BK235.out 7)|((with_reducible refine gate_callee (f:=22) rfl ?_);refine goesL_ (some 41) rfl rfl Try.func22 (by kernel_rfl) rfl #[.string a0_6] rfl (by (try simp only [List.map_toArray,List.map_cons,List.map_nil]);first|done|rfl|(simp only [List.length_drop,List.length_take];rfl)) ?_;(with_reducible refine (latticeref01_Text.calls a0_6 t273 _ A16.out).mono ?_);rintro e w50 ⟨v274,rfl,ho0,hb⟩;refine ⟨_,rfl,?_⟩;have n0_:=Aside0.mk (Kd.R_elder' (by (with_reducible repeat (first|apply Kd.R_alloc|apply Kd.R_drewN|apply Kd.R_drew));exact HO239.out) (Kd.R_base ho0) hb);have n1_:=Aside0.mk (Kd.R_elder' (by (with_reducible repeat (first|apply Kd.R_alloc|apply Kd.R_drewN|apply Kd.R_drew));exact HO245.out) (Kd.R_base ho0) hb);have n2_:=Aside0.mk (Kd.R_elder' (by (with_reducible repeat (first|apply Kd.R_alloc|apply Kd.R_drewN|apply Kd.R_drew));exact HO251.out) (Kd.R_base ho0) hb);have n3_:=Aside0.mk (Kd.R_elder' (by (with_reducible repeat (first|apply Kd.R_alloc|apply Kd.R_drewN|apply Kd.R_drew));exact HO257.out) (Kd.R_base ho0) hb);have n4_:=Aside0.mk (Kd.R_elder' (by (with_reducible repeat (first|apply Kd.R_alloc|apply Kd.R_drewN|apply Kd.R_drew));exact HO263.out) (Kd.R_base ho0) hb);have n5_:=Aside0.mk (Kd.R_elder' (by (with_reducible repeat (first|apply Kd.R_alloc|apply Kd.R_drewN|apply Kd.R_drew));exact HO269.out) (Kd.R_base ho0) hb);have n6_:=Aside0.mk (Kd.R_elder' (by (with_reducible repeat (first|apply Kd.R_alloc|apply Kd.R_drewN|apply Kd.R_drew));exact HO272.out) (Kd.R_base ho0) hb);have n7_:=Aside0.mk (Kd.R_lower (Kd.R_new' (Kd.R_new' (Kd.R_new' (Kd.R_new' (Kd.R_new' (Kd.R_new' (Kd.R_new' ho0 (Kd.R_lt (by (with_reducible repeat (first|apply Kd.R_alloc|apply Kd.R_drewN|apply Kd.R_drew));exact HO239.out))) (Kd.R_lt (by (with_reducible repeat (first|apply Kd.R_alloc|apply Kd.R_drewN|apply Kd.R_drew));exact HO245.out))) (Kd.R_lt (by (with_reducible repeat (first|apply Kd.R_alloc|apply Kd.R_drewN|apply Kd.R_drew));exact HO251.out))) (Kd.R_lt (by (with_reducible repeat (first|apply Kd.R_alloc|apply Kd.R_drewN|apply Kd.R_drew));exact HO257.out))) (Kd.R_lt (by (with_reducible repeat (first|apply Kd.R_alloc|apply Kd.R_drewN|apply Kd.R_drew));exact HO263.out))) (Kd.R_lt (by (with_reducible repeat (first|apply Kd.R_alloc|apply Kd.R_drewN|apply Kd.R_drew));exact HO269.out))) (Kd.R_lt (by (with_reducible repeat (first|apply Kd.R_alloc|apply Kd.R_drewN|apply Kd.R_drew));exact HO272.out))) (below_size (by repeat (first|(with_reducible first|exact HB.out|apply below_alloc|apply pw_below_drewN|apply below_drew1|refine below_set ?_ GE235.out)|exact HB.out))));have n8_:=Aside0.mk (blk_below (g:=gb235) (o:=.cells #[.int .i64 a0_0,.int .i64 a0_1,.int .i64 a0_2,.int .i64 a0_3,.int .i64 a0_4,.int .i64 a0_5,.string a0_6,.string a0_7] 23 (0,0)) (by (with_reducible repeat (first|refine blk_drewN ?_ _|refine blk_drew ?_|refine blk_alloc ?_ _));exact BK235.out) hb);have n9_:=Aside0.mk (below_step (by repeat (first|(with_reducible first|exact HB.out|apply below_alloc|apply pw_below_drewN|apply below_drew1|refine below_set ?_ GE235.out)|exact HB.out)) hb);clear HO239;clear HO245;clear HO251;clear HO257;clear HO263;clear HO269;clear HO272;clear BK235;clear HB;have HO239:=n0_;have HO245:=n1_;have HO251:=n2_;have HO257:=n3_;have HO263:=n4_;have HO269:=n5_;have HO272:=n6_;have HO275:=n7_;have BK235:=n8_;have HB:=n9_;clear n0_ n1_ n2_ n3_ n4_ n5_ n6_ n7_ n8_ n9_;(try clear hb);(try clear hb2);(try clear hk);(try clear hi);(try clear ho0);obtain ⟨Ao52,co52,eo52⟩:=Kd.R_slice HO275.out;subst eo52)|((with_reducible refine gate_builtin (b:=.append) (xs:=#[.tmp 38,.tmp 41]) rfl ?_);at_builtin;refine Kd.R_append_rows (Kd.int .u8) (w0:=w) w.heap.size rfl (.tmp 38) (.tmp 41) 24 5 (.int .u8 0) 1 rfl Try.underlying24 info5 rfl (by decide) (by omega) v271 y270 t273 _ _ _ (fun k_=>some k_≠(.slice Ao28 t237.length co28:Value).ownBlock∧some k_≠(.slice Ao32 t243.length co32:Value).ownBlock∧some k_≠(.slice Ao36 t249.length co36:Value).ownBlock∧some k_≠(.slice Ao40 t255.length co40:Value).ownBlock∧some k_≠(.slice Ao44 t261.length co44:Value).ownBlock∧some k_≠(.slice Ao48 t267.length co48:Value).ownBlock∧some k_≠(.slice Ao52 t273.length co52:Value).ownBlock) (fun _=>False) rfl rfl ?aO ?aR (fun _ _ h=>h) (fun _ h=>h.elim) ?aF ?aB ?aS ?aL ?_;(case aR=>repeat (first|exact (Kd.R_reads' HO275.out).2.2|(with_reducible refine Kd.C_alloc ?_ _)|(with_reducible refine Kd.C_drewN ?_ _)|(with_reducible refine Kd.C_drew ?_)));(case aB=>exact (by repeat (first|(with_reducible first|exact HB.out|apply below_alloc|apply pw_below_drewN|apply below_drew1|refine below_set ?_ GE235.out)|exact HB.out)));(case aF=>exact (fun k_ hk=>⟨Kd.fresh' (Kd.R_lt (by (with_reducible repeat (first|apply Kd.R_alloc|apply Kd.R_drewN|apply Kd.R_drew));exact HO239.out)) k_ hk,Kd.fresh' (Kd.R_lt (by (with_reducible repeat (first|apply Kd.R_alloc|apply Kd.R_drewN|apply Kd.R_drew));exact HO245.out)) k_ hk,Kd.fresh' (Kd.R_lt (by (with_reducible repeat (first|apply Kd.R_alloc|apply Kd.R_drewN|apply Kd.R_drew));exact HO251.out)) k_ hk,Kd.fresh' (Kd.R_lt (by (with_reducible repeat (first|apply Kd.R_alloc|apply Kd.R_drewN|apply Kd.R_drew));exact HO257.out)) k_ hk,Kd.fresh' (Kd.R_lt (by (with_reducible repeat (first|apply Kd.R_alloc|apply Kd.R_drewN|apply Kd.R_drew));exact HO263.out)) k_ hk,Kd.fresh' (Kd.R_lt (by (with_reducible repeat (first|apply Kd.R_alloc|apply Kd.R_drewN|apply Kd.R_drew));exact HO269.out)) k_ hk,Kd.fresh' (Kd.R_lt (by (with_reducible repeat (first|apply Kd.R_alloc|apply Kd.R_drewN|apply Kd.R_drew));exact HO275.out)) k_ hk⟩));(case aO=>exact (by (with_reducible repeat (first|apply Kd.R_alloc|apply Kd.R_drewN|apply Kd.R_drew));exact Kd.R_mono HO272.out (fun _ hk=>⟨hk.1.1,⟨hk.1.2.1,⟨hk.1.2.2.1,⟨hk.1.2.2.2.1,⟨hk.1.2.2.2.2.1,⟨hk.1.2.2.2.2.2,hk.2⟩⟩⟩⟩⟩⟩)));(case aS=>exact (below_size (by repeat (first|(with_reducible first|exact HB.out|apply below_alloc|apply pw_below_drewN|apply below_drew1|refine below_set ?_ GE235.out)|exact HB.out))));(case aL=>have:=LMc17.out;omega);intro v277 w51 ho hb hg hat;rw [← Ny276.out] at ho;have n0_:=Aside0.mk (blk_grown (g:=gb235) (o:=.cells #[.int .i64 a0_0,.int .i64 a0_1,.int .i64 a0_2,.int .i64 a0_3,.int .i64 a0_4,.int .i64 a0_5,.string a0_6,.string a0_7] 23 (0,0)) (by (with_reducible repeat (first|refine blk_drewN ?_ _|refine blk_drew ?_|refine blk_alloc ?_ _));exact BK235.out) hg (Kd.R_ne HO272.out BK235.out (by decide)));have n1_:=Aside0.mk (Kd.R_after (ok:=(fun k_=>some k_≠(.slice Ao32 t243.length co32:Value).ownBlock∧some k_≠(.slice Ao36 t249.length co36:Value).ownBlock∧some k_≠(.slice Ao40 t255.length co40:Value).ownBlock∧some k_≠(.slice Ao44 t261.length co44:Value).ownBlock∧some k_≠(.slice Ao48 t267.length co48:Value).ownBlock∧some k_≠(.slice Ao52 t273.length co52:Value).ownBlock)) (by (with_reducible repeat (first|apply Kd.R_alloc|apply Kd.R_drewN|apply Kd.R_drew));exact Kd.R_mono HO239.out (fun _ hk=>⟨⟨hk.1.1.1,⟨hk.1.1.2.1,⟨hk.1.1.2.2.1,⟨hk.1.1.2.2.2.1,⟨hk.1.1.2.2.2.2,hk.2⟩⟩⟩⟩⟩,hk.1.2⟩)) hg hat);have n2_:=Aside0.mk (Kd.R_after (ok:=(fun k_=>some k_≠(.slice Ao28 t237.length co28:Value).ownBlock∧some k_≠(.slice Ao36 t249.length co36:Value).ownBlock∧some k_≠(.slice Ao40 t255.length co40:Value).ownBlock∧some k_≠(.slice Ao44 t261.length co44:Value).ownBlock∧some k_≠(.slice Ao48 t267.length co48:Value).ownBlock∧some k_≠(.slice Ao52 t273.length co52:Value).ownBlock)) (by (with_reducible repeat (first|apply Kd.R_alloc|apply Kd.R_drewN|apply Kd.R_drew));exact Kd.R_mono HO245.out (fun _ hk=>⟨⟨hk.1.1.1,⟨hk.1.1.2.1,⟨hk.1.1.2.2.1,⟨hk.1.1.2.2.2.1,⟨hk.1.1.2.2.2.2,hk.2⟩⟩⟩⟩⟩,hk.1.2⟩)) hg hat);have n3_:=Aside0.mk (Kd.R_after (ok:=(fun k_=>some k_≠(.slice Ao28 t237.length co28:Value).ownBlock∧some k_≠(.slice Ao32 t243.length co32:Value).ownBlock∧some k_≠(.slice Ao40 t255.length co40:Value).ownBlock∧some k_≠(.slice Ao44 t261.length co44:Value).ownBlock∧some k_≠(.slice Ao48 t267.length co48:Value).ownBlock∧some k_≠(.slice Ao52 t273.length co52:Value).ownBlock)) (by (with_reducible repeat (first|apply Kd.R_alloc|apply Kd.R_drewN|apply Kd.R_drew));exact Kd.R_mono HO251.out (fun _ hk=>⟨⟨hk.1.1.1,⟨hk.1.1.2.1,⟨hk.1.1.2.2.1,⟨hk.1.1.2.2.2.1,⟨hk.1.1.2.2.2.2,hk.2⟩⟩⟩⟩⟩,hk.1.2⟩)) hg hat);have n4_:=Aside0.mk (Kd.R_after (ok:=(fun k_=>some k_≠(.slice Ao28 t237.length co28:Value).ownBlock∧some k_≠(.slice Ao32 t243.length co32:Value).ownBlock∧some k_≠(.slice Ao36 t249.length co36:Value).ownBlock∧some k_≠(.slice Ao44 t261.length co44:Value).ownBlock∧some k_≠(.slice Ao48 t267.length co48:Value).ownBlock∧some k_≠(.slice Ao52 t273.length co52:Value).ownBlock)) (by (with_reducible repeat (first|apply Kd.R_alloc|apply Kd.R_drewN|apply Kd.R_drew));exact Kd.R_mono HO257.out (fun _ hk=>⟨⟨hk.1.1.1,⟨hk.1.1.2.1,⟨hk.1.1.2.2.1,⟨hk.1.1.2.2.2.1,⟨hk.1.1.2.2.2.2,hk.2⟩⟩⟩⟩⟩,hk.1.2⟩)) hg hat);have n5_:=Aside0.mk (Kd.R_after (ok:=(fun k_=>some k_≠(.slice Ao28 t237.length co28:Value).ownBlock∧some k_≠(.slice Ao32 t243.length co32:Value).ownBlock∧some k_≠(.slice Ao36 t249.length co36:Value).ownBlock∧some k_≠(.slice Ao40 t255.length co40:Value).ownBlock∧some k_≠(.slice Ao48 t267.length co48:Value).ownBlock∧some k_≠(.slice Ao52 t273.length co52:Value).ownBlock)) (by (with_reducible repeat (first|apply Kd.R_alloc|apply Kd.R_drewN|apply Kd.R_drew));exact Kd.R_mono HO263.out (fun _ hk=>⟨⟨hk.1.1.1,⟨hk.1.1.2.1,⟨hk.1.1.2.2.1,⟨hk.1.1.2.2.2.1,⟨hk.1.1.2.2.2.2,hk.2⟩⟩⟩⟩⟩,hk.1.2⟩)) hg hat);have n6_:=Aside0.mk (Kd.R_after (ok:=(fun k_=>some k_≠(.slice Ao28 t237.length co28:Value).ownBlock∧some k_≠(.slice Ao32 t243.length co32:Value).ownBlock∧some k_≠(.slice Ao36 t249.length co36:Value).ownBlock∧some k_≠(.slice Ao40 t255.length co40:Value).ownBlock∧some k_≠(.slice Ao44 t261.length co44:Value).ownBlock∧some k_≠(.slice Ao52 t273.length co52:Value).ownBlock)) (by (with_reducible repeat (first|apply Kd.R_alloc|apply Kd.R_drewN|apply Kd.R_drew));exact Kd.R_mono HO269.out (fun _ hk=>⟨⟨hk.1.1.1,⟨hk.1.1.2.1,⟨hk.1.1.2.2.1,⟨hk.1.1.2.2.2.1,⟨hk.1.1.2.2.2.2,hk.2⟩⟩⟩⟩⟩,hk.1.2⟩)) hg hat);have n7_:=Aside0.mk (Kd.R_after (ok:=(fun k_=>some k_≠(.slice Ao28 t237.length co28:Value).ownBlock∧some k_≠(.slice Ao32 t243.length co32:Value).ownBlock∧some k_≠(.slice Ao36 t249.length co36:Value).ownBlock∧some k_≠(.slice Ao40 t255.length co40:Value).ownBlock∧some k_≠(.slice Ao44 t261.length co44:Value).ownBlock∧some k_≠(.slice Ao48 t267.length co48:Value).ownBlock)) (by (with_reducible repeat (first|apply Kd.R_alloc|apply Kd.R_drewN|apply Kd.R_drew));exact Kd.R_mono HO275.out (fun _ hk=>⟨⟨hk.1.1.1.1.1.1.2,⟨hk.1.1.1.1.1.2,⟨hk.1.1.1.1.2,⟨hk.1.1.1.2,⟨hk.1.1.2,hk.1.2⟩⟩⟩⟩⟩,hk.2⟩)) hg hat);have n8_:=Aside0.mk (hb);have n9_:=Aside0.mk (ho);clear BK235;clear HO239;clear HO245;clear HO251;clear HO257;clear HO263;clear HO269;clear HO275;clear HB;clear HO272;have BK235:=n0_;have HO239:=n1_;have HO245:=n2_;have HO251:=n3_;have HO257:=n4_;have HO263:=n5_;have HO269:=n6_;have HO275:=n7_;have HB:=n8_;have HO278:=n9_;clear n0_ n1_ n2_ n3_ n4_ n5_ n6_ n7_ n8_ n9_;clear ho hb hg hat;have hcz53_0:w51.cell? ⟨gb235,0,none⟩=some (.int .i64 a0_0):=(blk_cell BK235.out 0).trans rfl;have hcz53_1:w51.cell? ⟨gb235,1,none⟩=some (.int .i64 a0_1):=(blk_cell BK235.out 1).trans rfl;have hcz53_2:w51.cell? ⟨gb235,2,none⟩=some (.int .i64 a0_2):=(blk_cell BK235.out 2).trans rfl;have hcz53_3:w51.cell? ⟨gb235,3,none⟩=some (.int .i64 a0_3):=(blk_cell BK235.out 3).trans rfl;have hcz53_4:w51.cell? ⟨gb235,4,none⟩=some (.int .i64 a0_4):=(blk_cell BK235.out 4).trans rfl;have hcz53_5:w51.cell? ⟨gb235,5,none⟩=some (.int .i64 a0_5):=(blk_cell BK235.out 5).trans rfl;have hcz53_6:w51.cell? ⟨gb235,6,none⟩=some (.string a0_6):=(blk_cell BK235.out 6).trans rfl;have hcz53_7:w51.cell? ⟨gb235,7,none⟩=some (.string a0_7):=(blk_cell BK235.out 7).trans rfl;have hfz53_0:=blk_frozen BK235.out 0;have hfz53_1:=blk_frozen BK235.out 1;have hfz53_2:=blk_frozen BK235.out 2;have hfz53_3:=blk_frozen BK235.out 3;have hfz53_4:=blk_frozen BK235.out 4;have hfz53_5:=blk_frozen BK235.out 5;have hfz53_6:=blk_frozen BK235.out 6;have hfz53_7:=blk_frozen BK235.out 7)|((with_reducible refine gate_callee (f:=22) rfl ?_);refine goesL_ (some 46) rfl rfl Try.func22 (by kernel_rfl) rfl #[.string a0_7] rfl (by (try simp only [List.map_toArray,List.map_cons,List.map_nil]);first|done|rfl|(simp only [List.length_drop,List.length_take];rfl)) ?_;(with_reducible refine (latticeref01_Text.calls a0_7 t279 _ A18.out).mono ?_);rintro e w54 ⟨v280,rfl,ho0,hb⟩;refine ⟨_,rfl,?_⟩;have n0_:=Aside0.mk (Kd.R_elder' (by (with_reducible repeat (first|apply Kd.R_alloc|apply Kd.R_drewN|apply Kd.R_drew));exact HO239.out) (Kd.R_base ho0) hb);have n1_:=Aside0.mk (Kd.R_elder' (by (with_reducible repeat (first|apply Kd.R_alloc|apply Kd.R_drewN|apply Kd.R_drew));exact HO245.out) (Kd.R_base ho0) hb);have n2_:=Aside0.mk (Kd.R_elder' (by (with_reducible repeat (first|apply Kd.R_alloc|apply Kd.R_drewN|apply Kd.R_drew));exact HO251.out) (Kd.R_base ho0) hb);have n3_:=Aside0.mk (Kd.R_elder' (by (with_reducible repeat (first|apply Kd.R_alloc|apply Kd.R_drewN|apply Kd.R_drew));exact HO257.out) (Kd.R_base ho0) hb);have n4_:=Aside0.mk (Kd.R_elder' (by (with_reducible repeat (first|apply Kd.R_alloc|apply Kd.R_drewN|apply Kd.R_drew));exact HO263.out) (Kd.R_base ho0) hb);have n5_:=Aside0.mk (Kd.R_elder' (by (with_reducible repeat (first|apply Kd.R_alloc|apply Kd.R_drewN|apply Kd.R_drew));exact HO269.out) (Kd.R_base ho0) hb);have n6_:=Aside0.mk (Kd.R_elder' (by (with_reducible repeat (first|apply Kd.R_alloc|apply Kd.R_drewN|apply Kd.R_drew));exact HO275.out) (Kd.R_base ho0) hb);have n7_:=Aside0.mk (Kd.R_elder' (by (with_reducible repeat (first|apply Kd.R_alloc|apply Kd.R_drewN|apply Kd.R_drew));exact HO278.out) (Kd.R_base ho0) hb);have n8_:=Aside0.mk (Kd.R_lower (Kd.R_new' (Kd.R_new' (Kd.R_new' (Kd.R_new' (Kd.R_new' (Kd.R_new' (Kd.R_new' (Kd.R_new' ho0 (Kd.R_lt (by (with_reducible repeat (first|apply Kd.R_alloc|apply Kd.R_drewN|apply Kd.R_drew));exact HO239.out))) (Kd.R_lt (by (with_reducible repeat (first|apply Kd.R_alloc|apply Kd.R_drewN|apply Kd.R_drew));exact HO245.out))) (Kd.R_lt (by (with_reducible repeat (first|apply Kd.R_alloc|apply Kd.R_drewN|apply Kd.R_drew));exact HO251.out))) (Kd.R_lt (by (with_reducible repeat (first|apply Kd.R_alloc|apply Kd.R_drewN|apply Kd.R_drew));exact HO257.out))) (Kd.R_lt (by (with_reducible repeat (first|apply Kd.R_alloc|apply Kd.R_drewN|apply Kd.R_drew));exact HO263.out))) (Kd.R_lt (by (with_reducible repeat (first|apply Kd.R_alloc|apply Kd.R_drewN|apply Kd.R_drew));exact HO269.out))) (Kd.R_lt (by (with_reducible repeat (first|apply Kd.R_alloc|apply Kd.R_drewN|apply Kd.R_drew));exact HO275.out))) (Kd.R_lt (by (with_reducible repeat (first|apply Kd.R_alloc|apply Kd.R_drewN|apply Kd.R_drew));exact HO278.out))) (below_size (by repeat (first|(with_reducible first|exact HB.out|apply below_alloc|apply pw_below_drewN|apply below_drew1|refine below_set ?_ GE235.out)|exact HB.out))));have n9_:=Aside0.mk (blk_below (g:=gb235) (o:=.cells #[.int .i64 a0_0,.int .i64 a0_1,.int .i64 a0_2,.int .i64 a0_3,.int .i64 a0_4,.int .i64 a0_5,.string a0_6,.string a0_7] 23 (0,0)) (by (with_reducible repeat (first|refine blk_drewN ?_ _|refine blk_drew ?_|refine blk_alloc ?_ _));exact BK235.out) hb);have n10_:=Aside0.mk (below_step (by repeat (first|(with_reducible first|exact HB.out|apply below_alloc|apply pw_below_drewN|apply below_drew1|refine below_set ?_ GE235.out)|exact HB.out)) hb);clear HO239;clear HO245;clear HO251;clear HO257;clear HO263;clear HO269;clear HO275;clear HO278;clear BK235;clear HB;have HO239:=n0_;have HO245:=n1_;have HO251:=n2_;have HO257:=n3_;have HO263:=n4_;have HO269:=n5_;have HO275:=n6_;have HO278:=n7_;have HO281:=n8_;have BK235:=n9_;have HB:=n10_;clear n0_ n1_ n2_ n3_ n4_ n5_ n6_ n7_ n8_ n9_ n10_;(try clear hb);(try clear hb2);(try clear hk);(try clear hi);(try clear ho0);obtain ⟨Ao56,co56,eo56⟩:=Kd.R_slice HO281.out;subst eo56)|((with_reducible refine gate_builtin (b:=.append) (xs:=#[.tmp 43,.tmp 46]) rfl ?_);at_builtin;refine Kd.R_append_rows (Kd.int .u8) (w0:=w) w.heap.size rfl (.tmp 43) (.tmp 46) 24 5 (.int .u8 0) 1 rfl Try.underlying24 info5 rfl (by decide) (by omega) v277 y276 t279 _ _ _ (fun k_=>some k_≠(.slice Ao28 t237.length co28:Value).ownBlock∧some k_≠(.slice Ao32 t243.length co32:Value).ownBlock∧some k_≠(.slice Ao36 t249.length co36:Value).ownBlock∧some k_≠(.slice Ao40 t255.length co40:Value).ownBlock∧some k_≠(.slice Ao44 t261.length co44:Value).ownBlock∧some k_≠(.slice Ao48 t267.length co48:Value).ownBlock∧some k_≠(.slice Ao52 t273.length co52:Value).ownBlock∧some k_≠(.slice Ao56 t279.length co56:Value).ownBlock) (fun _=>False) rfl rfl ?aO ?aR (fun _ _ h=>h) (fun _ h=>h.elim) ?aF ?aB ?aS ?aL ?_;(case aR=>repeat (first|exact (Kd.R_reads' HO281.out).2.2|(with_reducible refine Kd.C_alloc ?_ _)|(with_reducible refine Kd.C_drewN ?_ _)|(with_reducible refine Kd.C_drew ?_)));(case aB=>exact (by repeat (first|(with_reducible first|exact HB.out|apply below_alloc|apply pw_below_drewN|apply below_drew1|refine below_set ?_ GE235.out)|exact HB.out)));(case aF=>exact (fun k_ hk=>⟨Kd.fresh' (Kd.R_lt (by (with_reducible repeat (first|apply Kd.R_alloc|apply Kd.R_drewN|apply Kd.R_drew));exact HO239.out)) k_ hk,Kd.fresh' (Kd.R_lt (by (with_reducible repeat (first|apply Kd.R_alloc|apply Kd.R_drewN|apply Kd.R_drew));exact HO245.out)) k_ hk,Kd.fresh' (Kd.R_lt (by (with_reducible repeat (first|apply Kd.R_alloc|apply Kd.R_drewN|apply Kd.R_drew));exact HO251.out)) k_ hk,Kd.fresh' (Kd.R_lt (by (with_reducible repeat (first|apply Kd.R_alloc|apply Kd.R_drewN|apply Kd.R_drew));exact HO257.out)) k_ hk,Kd.fresh' (Kd.R_lt (by (with_reducible repeat (first|apply Kd.R_alloc|apply Kd.R_drewN|apply Kd.R_drew));exact HO263.out)) k_ hk,Kd.fresh' (Kd.R_lt (by (with_reducible repeat (first|apply Kd.R_alloc|apply Kd.R_drewN|apply Kd.R_drew));exact HO269.out)) k_ hk,Kd.fresh' (Kd.R_lt (by (with_reducible repeat (first|apply Kd.R_alloc|apply Kd.R_drewN|apply Kd.R_drew));exact HO275.out)) k_ hk,Kd.fresh' (Kd.R_lt (by (with_reducible repeat (first|apply Kd.R_alloc|apply Kd.R_drewN|apply Kd.R_drew));exact HO281.out)) k_ hk⟩));(case aO=>exact (by (with_reducible repeat (first|apply Kd.R_alloc|apply Kd.R_drewN|apply Kd.R_drew));exact Kd.R_mono HO278.out (fun _ hk=>⟨hk.1.1,⟨hk.1.2.1,⟨hk.1.2.2.1,⟨hk.1.2.2.2.1,⟨hk.1.2.2.2.2.1,⟨hk.1.2.2.2.2.2.1,⟨hk.1.2.2.2.2.2.2,hk.2⟩⟩⟩⟩⟩⟩⟩)));(case aS=>exact (below_size (by repeat (first|(with_reducible first|exact HB.out|apply below_alloc|apply pw_below_drewN|apply below_drew1|refine below_set ?_ GE235.out)|exact HB.out))));(case aL=>have:=LMc19.out;omega);intro v283 w55 ho hb hg hat;rw [← Ny282.out] at ho;have n0_:=Aside0.mk (blk_grown (g:=gb235) (o:=.cells #[.int .i64 a0_0,.int .i64 a0_1,.int .i64 a0_2,.int .i64 a0_3,.int .i64 a0_4,.int .i64 a0_5,.string a0_6,.string a0_7] 23 (0,0)) (by (with_reducible repeat (first|refine blk_drewN ?_ _|refine blk_drew ?_|refine blk_alloc ?_ _));exact BK235.out) hg (Kd.R_ne HO278.out BK235.out (by decide)));have n1_:=Aside0.mk (Kd.R_after (ok:=(fun k_=>some k_≠(.slice Ao32 t243.length co32:Value).ownBlock∧some k_≠(.slice Ao36 t249.length co36:Value).ownBlock∧some k_≠(.slice Ao40 t255.length co40:Value).ownBlock∧some k_≠(.slice Ao44 t261.length co44:Value).ownBlock∧some k_≠(.slice Ao48 t267.length co48:Value).ownBlock∧some k_≠(.slice Ao52 t273.length co52:Value).ownBlock∧some k_≠(.slice Ao56 t279.length co56:Value).ownBlock)) (by (with_reducible repeat (first|apply Kd.R_alloc|apply Kd.R_drewN|apply Kd.R_drew));exact Kd.R_mono HO239.out (fun _ hk=>⟨⟨hk.1.1.1,⟨hk.1.1.2.1,⟨hk.1.1.2.2.1,⟨hk.1.1.2.2.2.1,⟨hk.1.1.2.2.2.2.1,⟨hk.1.1.2.2.2.2.2,hk.2⟩⟩⟩⟩⟩⟩,hk.1.2⟩)) hg hat);have n2_:=Aside0.mk (Kd.R_after (ok:=(fun k_=>some k_≠(.slice Ao28 t237.length co28:Value).ownBlock∧some k_≠(.slice Ao36 t249.length co36:Value).ownBlock∧some k_≠(.slice Ao40 t255.length co40:Value).ownBlock∧some k_≠(.slice Ao44 t261.length co44:Value).ownBlock∧some k_≠(.slice Ao48 t267.length co48:Value).ownBlock∧some k_≠(.slice Ao52 t273.length co52:Value).ownBlock∧some k_≠(.slice Ao56 t279.length co56:Value).ownBlock)) (by (with_reducible repeat (first|apply Kd.R_alloc|apply Kd.R_drewN|apply Kd.R_drew));exact Kd.R_mono HO245.out (fun _ hk=>⟨⟨hk.1.1.1,⟨hk.1.1.2.1,⟨hk.1.1.2.2.1,⟨hk.1.1.2.2.2.1,⟨hk.1.1.2.2.2.2.1,⟨hk.1.1.2.2.2.2.2,hk.2⟩⟩⟩⟩⟩⟩,hk.1.2⟩)) hg hat);have n3_:=Aside0.mk (Kd.R_after (ok:=(fun k_=>some k_≠(.slice Ao28 t237.length co28:Value).ownBlock∧some k_≠(.slice Ao32 t243.length co32:Value).ownBlock∧some k_≠(.slice Ao40 t255.length co40:Value).ownBlock∧some k_≠(.slice Ao44 t261.length co44:Value).ownBlock∧some k_≠(.slice Ao48 t267.length co48:Value).ownBlock∧some k_≠(.slice Ao52 t273.length co52:Value).ownBlock∧some k_≠(.slice Ao56 t279.length co56:Value).ownBlock)) (by (with_reducible repeat (first|apply Kd.R_alloc|apply Kd.R_drewN|apply Kd.R_drew));exact Kd.R_mono HO251.out (fun _ hk=>⟨⟨hk.1.1.1,⟨hk.1.1.2.1,⟨hk.1.1.2.2.1,⟨hk.1.1.2.2.2.1,⟨hk.1.1.2.2.2.2.1,⟨hk.1.1.2.2.2.2.2,hk.2⟩⟩⟩⟩⟩⟩,hk.1.2⟩)) hg hat);have n4_:=Aside0.mk (Kd.R_after (ok:=(fun k_=>some k_≠(.slice Ao28 t237.length co28:Value).ownBlock∧some k_≠(.slice Ao32 t243.length co32:Value).ownBlock∧some k_≠(.slice Ao36 t249.length co36:Value).ownBlock∧some k_≠(.slice Ao44 t261.length co44:Value).ownBlock∧some k_≠(.slice Ao48 t267.length co48:Value).ownBlock∧some k_≠(.slice Ao52 t273.length co52:Value).ownBlock∧some k_≠(.slice Ao56 t279.length co56:Value).ownBlock)) (by (with_reducible repeat (first|apply Kd.R_alloc|apply Kd.R_drewN|apply Kd.R_drew));exact Kd.R_mono HO257.out (fun _ hk=>⟨⟨hk.1.1.1,⟨hk.1.1.2.1,⟨hk.1.1.2.2.1,⟨hk.1.1.2.2.2.1,⟨hk.1.1.2.2.2.2.1,⟨hk.1.1.2.2.2.2.2,hk.2⟩⟩⟩⟩⟩⟩,hk.1.2⟩)) hg hat);have n5_:=Aside0.mk (Kd.R_after (ok:=(fun k_=>some k_≠(.slice Ao28 t237.length co28:Value).ownBlock∧some k_≠(.slice Ao32 t243.length co32:Value).ownBlock∧some k_≠(.slice Ao36 t249.length co36:Value).ownBlock∧some k_≠(.slice Ao40 t255.length co40:Value).ownBlock∧some k_≠(.slice Ao48 t267.length co48:Value).ownBlock∧some k_≠(.slice Ao52 t273.length co52:Value).ownBlock∧some k_≠(.slice Ao56 t279.length co56:Value).ownBlock)) (by (with_reducible repeat (first|apply Kd.R_alloc|apply Kd.R_drewN|apply Kd.R_drew));exact Kd.R_mono HO263.out (fun _ hk=>⟨⟨hk.1.1.1,⟨hk.1.1.2.1,⟨hk.1.1.2.2.1,⟨hk.1.1.2.2.2.1,⟨hk.1.1.2.2.2.2.1,⟨hk.1.1.2.2.2.2.2,hk.2⟩⟩⟩⟩⟩⟩,hk.1.2⟩)) hg hat);have n6_:=Aside0.mk (Kd.R_after (ok:=(fun k_=>some k_≠(.slice Ao28 t237.length co28:Value).ownBlock∧some k_≠(.slice Ao32 t243.length co32:Value).ownBlock∧some k_≠(.slice Ao36 t249.length co36:Value).ownBlock∧some k_≠(.slice Ao40 t255.length co40:Value).ownBlock∧some k_≠(.slice Ao44 t261.length co44:Value).ownBlock∧some k_≠(.slice Ao52 t273.length co52:Value).ownBlock∧some k_≠(.slice Ao56 t279.length co56:Value).ownBlock)) (by (with_reducible repeat (first|apply Kd.R_alloc|apply Kd.R_drewN|apply Kd.R_drew));exact Kd.R_mono HO269.out (fun _ hk=>⟨⟨hk.1.1.1,⟨hk.1.1.2.1,⟨hk.1.1.2.2.1,⟨hk.1.1.2.2.2.1,⟨hk.1.1.2.2.2.2.1,⟨hk.1.1.2.2.2.2.2,hk.2⟩⟩⟩⟩⟩⟩,hk.1.2⟩)) hg hat);have n7_:=Aside0.mk (Kd.R_after (ok:=(fun k_=>some k_≠(.slice Ao28 t237.length co28:Value).ownBlock∧some k_≠(.slice Ao32 t243.length co32:Value).ownBlock∧some k_≠(.slice Ao36 t249.length co36:Value).ownBlock∧some k_≠(.slice Ao40 t255.length co40:Value).ownBlock∧some k_≠(.slice Ao44 t261.length co44:Value).ownBlock∧some k_≠(.slice Ao48 t267.length co48:Value).ownBlock∧some k_≠(.slice Ao56 t279.length co56:Value).ownBlock)) (by (with_reducible repeat (first|apply Kd.R_alloc|apply Kd.R_drewN|apply Kd.R_drew));exact Kd.R_mono HO275.out (fun _ hk=>⟨⟨hk.1.1.1,⟨hk.1.1.2.1,⟨hk.1.1.2.2.1,⟨hk.1.1.2.2.2.1,⟨hk.1.1.2.2.2.2.1,⟨hk.1.1.2.2.2.2.2,hk.2⟩⟩⟩⟩⟩⟩,hk.1.2⟩)) hg hat);have n8_:=Aside0.mk (Kd.R_after (ok:=(fun k_=>some k_≠(.slice Ao28 t237.length co28:Value).ownBlock∧some k_≠(.slice Ao32 t243.length co32:Value).ownBlock∧some k_≠(.slice Ao36 t249.length co36:Value).ownBlock∧some k_≠(.slice Ao40 t255.length co40:Value).ownBlock∧some k_≠(.slice Ao44 t261.length co44:Value).ownBlock∧some k_≠(.slice Ao48 t267.length co48:Value).ownBlock∧some k_≠(.slice Ao52 t273.length co52:Value).ownBlock)) (by (with_reducible repeat (first|apply Kd.R_alloc|apply Kd.R_drewN|apply Kd.R_drew));exact Kd.R_mono HO281.out (fun _ hk=>⟨⟨hk.1.1.1.1.1.1.1.2,⟨hk.1.1.1.1.1.1.2,⟨hk.1.1.1.1.1.2,⟨hk.1.1.1.1.2,⟨hk.1.1.1.2,⟨hk.1.1.2,hk.1.2⟩⟩⟩⟩⟩⟩,hk.2⟩)) hg hat);have n9_:=Aside0.mk (hb);have n10_:=Aside0.mk (ho);clear BK235;clear HO239;clear HO245;clear HO251;clear HO257;clear HO263;clear HO269;clear HO275;clear HO281;clear HB;clear HO278;have BK235:=n0_;have HO239:=n1_;have HO245:=n2_;have HO251:=n3_;have HO257:=n4_;have HO263:=n5_;have HO269:=n6_;have HO275:=n7_;have HO281:=n8_;have HB:=n9_;have HO284:=n10_;clear n0_ n1_ n2_ n3_ n4_ n5_ n6_ n7_ n8_ n9_ n10_;clear ho hb hg hat;have hcv57:=own_string (P:=Try.prog) Try.underlying24 Try.underlying5 Try.underlying9 (Kd.own_of_R HO284.out))|((with_reducible refine gate_callee (f:=22) rfl ?_);refine goesL_ (some 50) rfl rfl Try.func22 (by kernel_rfl) rfl #[.string (strOfNums y282)] rfl (by (try simp only [List.map_toArray,List.map_cons,List.map_nil]);first|done|rfl|(simp only [List.length_drop,List.length_take];rfl)) ?_;(with_reducible refine (latticeref01_Text.calls (strOfNums y282) t285 _ A20.out).mono ?_);rintro e w58 ⟨v286,rfl,ho0,hb⟩;refine ⟨_,rfl,?_⟩;have n0_:=Aside0.mk (Kd.R_elder' (by (with_reducible repeat (first|apply Kd.R_alloc|apply Kd.R_drewN|apply Kd.R_drew));exact HO239.out) (Kd.R_base ho0) hb);have n1_:=Aside0.mk (Kd.R_elder' (by (with_reducible repeat (first|apply Kd.R_alloc|apply Kd.R_drewN|apply Kd.R_drew));exact HO245.out) (Kd.R_base ho0) hb);have n2_:=Aside0.mk (Kd.R_elder' (by (with_reducible repeat (first|apply Kd.R_alloc|apply Kd.R_drewN|apply Kd.R_drew));exact HO251.out) (Kd.R_base ho0) hb);have n3_:=Aside0.mk (Kd.R_elder' (by (with_reducible repeat (first|apply Kd.R_alloc|apply Kd.R_drewN|apply Kd.R_drew));exact HO257.out) (Kd.R_base ho0) hb);have n4_:=Aside0.mk (Kd.R_elder' (by (with_reducible repeat (first|apply Kd.R_alloc|apply Kd.R_drewN|apply Kd.R_drew));exact HO263.out) (Kd.R_base ho0) hb);have n5_:=Aside0.mk (Kd.R_elder' (by (with_reducible repeat (first|apply Kd.R_alloc|apply Kd.R_drewN|apply Kd.R_drew));exact HO269.out) (Kd.R_base ho0) hb);have n6_:=Aside0.mk (Kd.R_elder' (by (with_reducible repeat (first|apply Kd.R_alloc|apply Kd.R_drewN|apply Kd.R_drew));exact HO275.out) (Kd.R_base ho0) hb);have n7_:=Aside0.mk (Kd.R_elder' (by (with_reducible repeat (first|apply Kd.R_alloc|apply Kd.R_drewN|apply Kd.R_drew));exact HO281.out) (Kd.R_base ho0) hb);have n8_:=Aside0.mk (Kd.R_elder' (by (with_reducible repeat (first|apply Kd.R_alloc|apply Kd.R_drewN|apply Kd.R_drew));exact HO284.out) (Kd.R_base ho0) hb);have n9_:=Aside0.mk (Kd.R_lower (Kd.R_new' (Kd.R_new' (Kd.R_new' (Kd.R_new' (Kd.R_new' (Kd.R_new' (Kd.R_new' (Kd.R_new' (Kd.R_new' ho0 (Kd.R_lt (by (with_reducible repeat (first|apply Kd.R_alloc|apply Kd.R_drewN|apply Kd.R_drew));exact HO239.out))) (Kd.R_lt (by (with_reducible repeat (first|apply Kd.R_alloc|apply Kd.R_drewN|apply Kd.R_drew));exact HO245.out))) (Kd.R_lt (by (with_reducible repeat (first|apply Kd.R_alloc|apply Kd.R_drewN|apply Kd.R_drew));exact HO251.out))) (Kd.R_lt (by (with_reducible repeat (first|apply Kd.R_alloc|apply Kd.R_drewN|apply Kd.R_drew));exact HO257.out))) (Kd.R_lt (by (with_reducible repeat (first|apply Kd.R_alloc|apply Kd.R_drewN|apply Kd.R_drew));exact HO263.out))) (Kd.R_lt (by (with_reducible repeat (first|apply Kd.R_alloc|apply Kd.R_drewN|apply Kd.R_drew));exact HO269.out))) (Kd.R_lt (by (with_reducible repeat (first|apply Kd.R_alloc|apply Kd.R_drewN|apply Kd.R_drew));exact HO275.out))) (Kd.R_lt (by (with_reducible repeat (first|apply Kd.R_alloc|apply Kd.R_drewN|apply Kd.R_drew));exact HO281.out))) (Kd.R_lt (by (with_reducible repeat (first|apply Kd.R_alloc|apply Kd.R_drewN|apply Kd.R_drew));exact HO284.out))) (below_size (by repeat (first|(with_reducible first|exact HB.out|apply below_alloc|apply pw_below_drewN|apply below_drew1|refine below_set ?_ GE235.out)|exact HB.out))));have n10_:=Aside0.mk (blk_below (g:=gb235) (o:=.cells #[.int .i64 a0_0,.int .i64 a0_1,.int .i64 a0_2,.int .i64 a0_3,.int .i64 a0_4,.int .i64 a0_5,.string a0_6,.string a0_7] 23 (0,0)) (by (with_reducible repeat (first|refine blk_drewN ?_ _|refine blk_drew ?_|refine blk_alloc ?_ _));exact BK235.out) hb);have n11_:=Aside0.mk (below_step (by repeat (first|(with_reducible first|exact HB.out|apply below_alloc|apply pw_below_drewN|apply below_drew1|refine below_set ?_ GE235.out)|exact HB.out)) hb);clear HO239;clear HO245;clear HO251;clear HO257;clear HO263;clear HO269;clear HO275;clear HO281;clear HO284;clear BK235;clear HB;have HO239:=n0_;have HO245:=n1_;have HO251:=n2_;have HO257:=n3_;have HO263:=n4_;have HO269:=n5_;have HO275:=n6_;have HO281:=n7_;have HO284:=n8_;have HO287:=n9_;have BK235:=n10_;have HB:=n11_;clear n0_ n1_ n2_ n3_ n4_ n5_ n6_ n7_ n8_ n9_ n10_ n11_;(try clear hb);(try clear hb2);(try clear hk);(try clear hi);(try clear ho0);obtain ⟨Ao59,co59,eo59⟩:=Kd.R_slice HO287.out;subst eo59)|((with_reducible refine gate_callee (f:=23) rfl ?_);refine goesL_ (some 51) rfl rfl Try.func23 (by kernel_rfl) rfl #[.slice Ao59 t285.length co59] rfl (by (try simp only [List.map_toArray,List.map_cons,List.map_nil]);first|done|rfl|(simp only [List.length_drop,List.length_take];rfl)) ?_;(with_reducible refine (latticeref02_Seal.calls _ _ t285 t288 _ ?side1 ?side2 A21.out).mono ?_);(case side1=>repeat (first|exact (Kd.R_reads' HO287.out).2.2|(with_reducible refine Kd.C_alloc ?_ _)|(with_reducible refine Kd.C_drewN ?_ _)|(with_reducible refine Kd.C_drew ?_)));(case side2=>exact (Kd.R_reads' HO287.out).2.1);rintro e w60 ⟨v289,rfl,ho0,hb⟩;refine ⟨_,rfl,?_⟩;have n0_:=Aside0.mk (Kd.R_elder' (by (with_reducible repeat (first|apply Kd.R_alloc|apply Kd.R_drewN|apply Kd.R_drew));exact HO239.out) (Kd.R_base ho0) hb);have n1_:=Aside0.mk (Kd.R_elder' (by (with_reducible repeat (first|apply Kd.R_alloc|apply Kd.R_drewN|apply Kd.R_drew));exact HO245.out) (Kd.R_base ho0) hb);have n2_:=Aside0.mk (Kd.R_elder' (by (with_reducible repeat (first|apply Kd.R_alloc|apply Kd.R_drewN|apply Kd.R_drew));exact HO251.out) (Kd.R_base ho0) hb);have n3_:=Aside0.mk (Kd.R_elder' (by (with_reducible repeat (first|apply Kd.R_alloc|apply Kd.R_drewN|apply Kd.R_drew));exact HO257.out) (Kd.R_base ho0) hb);have n4_:=Aside0.mk (Kd.R_elder' (by (with_reducible repeat (first|apply Kd.R_alloc|apply Kd.R_drewN|apply Kd.R_drew));exact HO263.out) (Kd.R_base ho0) hb);have n5_:=Aside0.mk (Kd.R_elder' (by (with_reducible repeat (first|apply Kd.R_alloc|apply Kd.R_drewN|apply Kd.R_drew));exact HO269.out) (Kd.R_base ho0) hb);have n6_:=Aside0.mk (Kd.R_elder' (by (with_reducible repeat (first|apply Kd.R_alloc|apply Kd.R_drewN|apply Kd.R_drew));exact HO275.out) (Kd.R_base ho0) hb);have n7_:=Aside0.mk (Kd.R_elder' (by (with_reducible repeat (first|apply Kd.R_alloc|apply Kd.R_drewN|apply Kd.R_drew));exact HO281.out) (Kd.R_base ho0) hb);have n8_:=Aside0.mk (Kd.R_elder' (by (with_reducible repeat (first|apply Kd.R_alloc|apply Kd.R_drewN|apply Kd.R_drew));exact HO284.out) (Kd.R_base ho0) hb);have n9_:=Aside0.mk (Kd.R_elder' (by (with_reducible repeat (first|apply Kd.R_alloc|apply Kd.R_drewN|apply Kd.R_drew));exact HO287.out) (Kd.R_base ho0) hb);have n10_:=Aside0.mk (Kd.R_lower (Kd.R_new' (Kd.R_new' (Kd.R_new' (Kd.R_new' (Kd.R_new' (Kd.R_new' (Kd.R_new' (Kd.R_new' (Kd.R_new' (Kd.R_new' ho0 (Kd.R_lt (by (with_reducible repeat (first|apply Kd.R_alloc|apply Kd.R_drewN|apply Kd.R_drew));exact HO239.out))) (Kd.R_lt (by (with_reducible repeat (first|apply Kd.R_alloc|apply Kd.R_drewN|apply Kd.R_drew));exact HO245.out))) (Kd.R_lt (by (with_reducible repeat (first|apply Kd.R_alloc|apply Kd.R_drewN|apply Kd.R_drew));exact HO251.out))) (Kd.R_lt (by (with_reducible repeat (first|apply Kd.R_alloc|apply Kd.R_drewN|apply Kd.R_drew));exact HO257.out))) (Kd.R_lt (by (with_reducible repeat (first|apply Kd.R_alloc|apply Kd.R_drewN|apply Kd.R_drew));exact HO263.out))) (Kd.R_lt (by (with_reducible repeat (first|apply Kd.R_alloc|apply Kd.R_drewN|apply Kd.R_drew));exact HO269.out))) (Kd.R_lt (by (with_reducible repeat (first|apply Kd.R_alloc|apply Kd.R_drewN|apply Kd.R_drew));exact HO275.out))) (Kd.R_lt (by (with_reducible repeat (first|apply Kd.R_alloc|apply Kd.R_drewN|apply Kd.R_drew));exact HO281.out))) (Kd.R_lt (by (with_reducible repeat (first|apply Kd.R_alloc|apply Kd.R_drewN|apply Kd.R_drew));exact HO284.out))) (Kd.R_lt (by (with_reducible repeat (first|apply Kd.R_alloc|apply Kd.R_drewN|apply Kd.R_drew));exact HO287.out))) (below_size (by repeat (first|(with_reducible first|exact HB.out|apply below_alloc|apply pw_below_drewN|apply below_drew1|refine below_set ?_ GE235.out)|exact HB.out))));have n11_:=Aside0.mk (blk_below (g:=gb235) (o:=.cells #[.int .i64 a0_0,.int .i64 a0_1,.int .i64 a0_2,.int .i64 a0_3,.int .i64 a0_4,.int .i64 a0_5,.string a0_6,.string a0_7] 23 (0,0)) (by (with_reducible repeat (first|refine blk_drewN ?_ _|refine blk_drew ?_|refine blk_alloc ?_ _));exact BK235.out) hb);have n12_:=Aside0.mk (below_step (by repeat (first|(with_reducible first|exact HB.out|apply below_alloc|apply pw_below_drewN|apply below_drew1|refine below_set ?_ GE235.out)|exact HB.out)) hb);clear HO239;clear HO245;clear HO251;clear HO257;clear HO263;clear HO269;clear HO275;clear HO281;clear HO284;clear HO287;clear BK235;clear HB;have HO239:=n0_;have HO245:=n1_;have HO251:=n2_;have HO257:=n3_;have HO263:=n4_;have HO269:=n5_;have HO275:=n6_;have HO281:=n7_;have HO284:=n8_;have HO287:=n9_;have HO290:=n10_;have BK235:=n11_;have HB:=n12_;clear n0_ n1_ n2_ n3_ n4_ n5_ n6_ n7_ n8_ n9_ n10_ n11_ n12_;(try clear hb);(try clear hb2);(try clear hk);(try clear hi);(try clear ho0)))
          go_ret2
          exact ⟨_,by first|rfl|(simp [errW_none,errW_some] <;> rfl)|(simp [*,errW_none,errW_some] <;> rfl),by (with_reducible repeat (first|apply Kd.R_alloc|apply Kd.R_drewN|apply Kd.R_drew));exact Kd.R_mono HO290.out (fun _ hk=>trivial),by repeat (first|(with_reducible first|exact HB.out|apply below_alloc|apply pw_below_drewN|apply below_drew1|refine below_set ?_ GE235.out)|exact HB.out)⟩
         ·rw [if_neg c19] at H
          exact absurd H (by simp)
        ·rw [if_neg c17] at H
         exact absurd H (by simp)
       ·rw [if_neg c15] at H
        exact absurd H (by simp)
      ·rw [if_neg c13] at H
       exact absurd H (by simp)
     ·rw [if_neg c11] at H
      exact absurd H (by simp)
    ·rw [if_neg c9] at H
     exact absurd H (by simp)
   ·rw [if_neg c7] at H
    exact absurd H (by simp)
  ·rw [if_neg c5] at H
   exact absurd H (by simp)
 ·replace c3:=Bool.eq_false_iff.mpr c3
  subst c3
  have H1:(some (([]:List Int),90))=some (r1,r2):=by rw [if_neg (show ¬ (false=true) by decide)] at H;exact H
  clear H
  have H:=H1
  clear H1
  simp only [Option.some.injEq,Prod.mk.injEq] at H
  obtain ⟨rfl,rfl⟩:=H
  go_enter Try.func9,Try.ntmps9
  go_wp2_with (first|((with_reducible refine gate_dst (N:=1) rfl ?_);refine box_event ?hg (N:=1) ?hd (cs:=#[.int .i64 a0_0,.int .i64 a0_1,.int .i64 a0_2,.int .i64 a0_3,.int .i64 a0_4,.int .i64 a0_5,.string a0_6,.string a0_7]) (t:=23) ?hr ?_;(case hd=>rfl);(case hg=>rfl);(case hr=>first|(go_simp;done)|(go_simp;rfl));intro gb235 hg w61 hbox hb;have n0_:=Aside0.mk (below_step (by repeat (first|(with_reducible first|exact HB.out|apply below_alloc|apply pw_below_drewN|apply below_drew1)|exact HB.out)) hb);have n1_:=Aside0.mk (hbox);have n2_:=Aside0.mk ((by rw [hg];exact (below_size (by repeat (first|(with_reducible first|exact HB.out|apply below_alloc|apply pw_below_drewN|apply below_drew1)|exact HB.out))):w.heap.size≤gb235));have n3_:=Aside0.mk ((by rw [hg];exact (below_size (by repeat (first|(with_reducible first|exact HB.out|apply below_alloc|apply pw_below_drewN|apply below_drew1)|exact HB.out))):w.heap.size≤gb235));clear HB;have HB:=n0_;have BK235:=n1_;have GW235:=n2_;have GE235:=n3_;clear n0_ n1_ n2_ n3_;clear hb hbox hg;have hcz62_0:w61.cell? ⟨gb235,0,none⟩=some (.int .i64 a0_0):=(blk_cell BK235.out 0).trans rfl;have hcz62_1:w61.cell? ⟨gb235,1,none⟩=some (.int .i64 a0_1):=(blk_cell BK235.out 1).trans rfl;have hcz62_2:w61.cell? ⟨gb235,2,none⟩=some (.int .i64 a0_2):=(blk_cell BK235.out 2).trans rfl;have hcz62_3:w61.cell? ⟨gb235,3,none⟩=some (.int .i64 a0_3):=(blk_cell BK235.out 3).trans rfl;have hcz62_4:w61.cell? ⟨gb235,4,none⟩=some (.int .i64 a0_4):=(blk_cell BK235.out 4).trans rfl;have hcz62_5:w61.cell? ⟨gb235,5,none⟩=some (.int .i64 a0_5):=(blk_cell BK235.out 5).trans rfl;have hcz62_6:w61.cell? ⟨gb235,6,none⟩=some (.string a0_6):=(blk_cell BK235.out 6).trans rfl;have hcz62_7:w61.cell? ⟨gb235,7,none⟩=some (.string a0_7):=(blk_cell BK235.out 7).trans rfl;have hfz62_0:=blk_frozen BK235.out 0;have hfz62_1:=blk_frozen BK235.out 1;have hfz62_2:=blk_frozen BK235.out 2;have hfz62_3:=blk_frozen BK235.out 3;have hfz62_4:=blk_frozen BK235.out 4;have hfz62_5:=blk_frozen BK235.out 5;have hfz62_6:=blk_frozen BK235.out 6;have hfz62_7:=blk_frozen BK235.out 7)|((with_reducible refine gate_callee (f:=20) rfl ?_);refine goesL_ (some 6) rfl rfl Try.func20 (by kernel_rfl) rfl #[.agg #[.int .i64 a0_0,.int .i64 a0_1,.int .i64 a0_2,.int .i64 a0_3,.int .i64 a0_4,.int .i64 a0_5,.string a0_6,.string a0_7]] rfl (by (try simp only [List.map_toArray,List.map_cons,List.map_nil]);first|done|rfl|(simp only [List.length_drop,List.length_take];rfl)) ?_;(with_reducible refine (latticeref09_Right.calls a0_0 a0_1 a0_2 a0_3 a0_4 a0_5 a0_6 a0_7 false _ A2.out).mono ?_);rintro e w63 ⟨rfl,hb⟩;refine ⟨_,rfl,?_⟩;have n0_:=Aside0.mk (blk_below (g:=gb235) (o:=.cells #[.int .i64 a0_0,.int .i64 a0_1,.int .i64 a0_2,.int .i64 a0_3,.int .i64 a0_4,.int .i64 a0_5,.string a0_6,.string a0_7] 23 (0,0)) (by (with_reducible repeat (first|refine blk_drewN ?_ _|refine blk_drew ?_|refine blk_alloc ?_ _));exact BK235.out) hb);have n1_:=Aside0.mk (below_step (by repeat (first|(with_reducible first|exact HB.out|apply below_alloc|apply pw_below_drewN|apply below_drew1|refine below_set ?_ GE235.out)|exact HB.out)) hb);clear BK235;clear HB;have BK235:=n0_;have HB:=n1_;clear n0_ n1_;(try clear hb);(try clear hb2);(try clear hk);(try clear hi)))
  go_ret2
  exact ⟨_,by first|rfl|(simp [errW_none,errW_some] <;> rfl)|(simp [*,errW_none,errW_some] <;> rfl),by first|exact Kd.R_nil _ _ _ _ _|exact Kd.N_nil _ _ _ _ _|exact Kd.V_nil _ _ _ _ _|exact Kd.Q_nil _ _ _ _ _|exact Kd.S_nil _ _ _ _ _,by repeat (first|(with_reducible first|exact HB.out|apply below_alloc|apply pw_below_drewN|apply below_drew1|refine below_set ?_ GE235.out)|exact HB.out)⟩
def latticeref09_Check.f (a0_0:Int) (a0_1:Int) (a0_2:Int) (a0_3:Int) (a0_4:Int) (a0_5:Int) (a0_6:ByteArray) (a0_7:ByteArray):Option (Int):=(latticeref09_Right.f a0_0 a0_1 a0_2 a0_3 a0_4 a0_5 a0_6 a0_7).bind fun t292=>(if t292=true then (some 0) else (some 90))
set_option maxHeartbeats 8000000 in
set_option maxRecDepth 100000 in
theorem latticeref09_Check.calls (a0_0:Int) (a0_1:Int) (a0_2:Int) (a0_3:Int) (a0_4:Int) (a0_5:Int) (a0_6:ByteArray) (a0_7:ByteArray) (r:Int) (w:World) (h:latticeref09_Check.f a0_0 a0_1 a0_2 a0_3 a0_4 a0_5 a0_6 a0_7=some r) :
  Calls Try.prog 11 #[.agg #[.int .i64 a0_0,.int .i64 a0_1,.int .i64 a0_2,.int .i64 a0_3,.int .i64 a0_4,.int .i64 a0_5,.string a0_6,.string a0_7]] w fun e w'=>e=.returned (.int .i64 r)∧Below w.heap.size w w':=by
 have hu23:=Try.underlying23
 have HB:=Aside0.mk (Below.refl w.heap.size w)
 have H:((latticeref09_Right.f a0_0 a0_1 a0_2 a0_3 a0_4 a0_5 a0_6 a0_7).bind fun t292=>(if t292=true then (some 0) else (some 90)))=some r:=h
 clear h
 replace H:=Option.bind_eq_some_iff.mp H
 obtain ⟨t292,A20,H⟩:=H
 try dsimp only at H
 have A2:=Aside0.mk A20
 clear A20
 by_cases c3:t292=true
 ·subst c3
  have H1:(some 0)=some r:=by rw [if_pos rfl] at H;exact H
  clear H
  have H:=H1
  clear H1
  obtain rfl:=Option.some.inj H
  go_enter Try.func11,Try.ntmps11
  go_wp2_with (first|((with_reducible refine gate_dst (N:=1) rfl ?_);refine box_event ?hg (N:=1) ?hd (cs:=#[.int .i64 a0_0,.int .i64 a0_1,.int .i64 a0_2,.int .i64 a0_3,.int .i64 a0_4,.int .i64 a0_5,.string a0_6,.string a0_7]) (t:=23) ?hr ?_;(case hd=>rfl);(case hg=>rfl);(case hr=>first|(go_simp;done)|(go_simp;rfl));intro gb291 hg w4 hbox hb;have n0_:=Aside0.mk (below_step (by repeat (first|(with_reducible first|exact HB.out|apply below_alloc|apply pw_below_drewN|apply below_drew1)|exact HB.out)) hb);have n1_:=Aside0.mk (hbox);have n2_:=Aside0.mk ((by rw [hg];exact (below_size (by repeat (first|(with_reducible first|exact HB.out|apply below_alloc|apply pw_below_drewN|apply below_drew1)|exact HB.out))):w.heap.size≤gb291));have n3_:=Aside0.mk ((by rw [hg];exact (below_size (by repeat (first|(with_reducible first|exact HB.out|apply below_alloc|apply pw_below_drewN|apply below_drew1)|exact HB.out))):w.heap.size≤gb291));clear HB;have HB:=n0_;have BK291:=n1_;have GW291:=n2_;have GE291:=n3_;clear n0_ n1_ n2_ n3_;clear hb hbox hg;have hcz5_0:w4.cell? ⟨gb291,0,none⟩=some (.int .i64 a0_0):=(blk_cell BK291.out 0).trans rfl;have hcz5_1:w4.cell? ⟨gb291,1,none⟩=some (.int .i64 a0_1):=(blk_cell BK291.out 1).trans rfl;have hcz5_2:w4.cell? ⟨gb291,2,none⟩=some (.int .i64 a0_2):=(blk_cell BK291.out 2).trans rfl;have hcz5_3:w4.cell? ⟨gb291,3,none⟩=some (.int .i64 a0_3):=(blk_cell BK291.out 3).trans rfl;have hcz5_4:w4.cell? ⟨gb291,4,none⟩=some (.int .i64 a0_4):=(blk_cell BK291.out 4).trans rfl;have hcz5_5:w4.cell? ⟨gb291,5,none⟩=some (.int .i64 a0_5):=(blk_cell BK291.out 5).trans rfl;have hcz5_6:w4.cell? ⟨gb291,6,none⟩=some (.string a0_6):=(blk_cell BK291.out 6).trans rfl;have hcz5_7:w4.cell? ⟨gb291,7,none⟩=some (.string a0_7):=(blk_cell BK291.out 7).trans rfl;have hfz5_0:=blk_frozen BK291.out 0;have hfz5_1:=blk_frozen BK291.out 1;have hfz5_2:=blk_frozen BK291.out 2;have hfz5_3:=blk_frozen BK291.out 3;have hfz5_4:=blk_frozen BK291.out 4;have hfz5_5:=blk_frozen BK291.out 5;have hfz5_6:=blk_frozen BK291.out 6;have hfz5_7:=blk_frozen BK291.out 7)|((with_reducible refine gate_callee (f:=20) rfl ?_);refine goesL_ (some 4) rfl rfl Try.func20 (by kernel_rfl) rfl #[.agg #[.int .i64 a0_0,.int .i64 a0_1,.int .i64 a0_2,.int .i64 a0_3,.int .i64 a0_4,.int .i64 a0_5,.string a0_6,.string a0_7]] rfl (by (try simp only [List.map_toArray,List.map_cons,List.map_nil]);first|done|rfl|(simp only [List.length_drop,List.length_take];rfl)) ?_;(with_reducible refine (latticeref09_Right.calls a0_0 a0_1 a0_2 a0_3 a0_4 a0_5 a0_6 a0_7 true _ A2.out).mono ?_);rintro e w6 ⟨rfl,hb⟩;refine ⟨_,rfl,?_⟩;have n0_:=Aside0.mk (blk_below (g:=gb291) (o:=.cells #[.int .i64 a0_0,.int .i64 a0_1,.int .i64 a0_2,.int .i64 a0_3,.int .i64 a0_4,.int .i64 a0_5,.string a0_6,.string a0_7] 23 (0,0)) (by (with_reducible repeat (first|refine blk_drewN ?_ _|refine blk_drew ?_|refine blk_alloc ?_ _));exact BK291.out) hb);have n1_:=Aside0.mk (below_step (by repeat (first|(with_reducible first|exact HB.out|apply below_alloc|apply pw_below_drewN|apply below_drew1|refine below_set ?_ GE291.out)|exact HB.out)) hb);clear BK291;clear HB;have BK291:=n0_;have HB:=n1_;clear n0_ n1_;(try clear hb);(try clear hb2);(try clear hk);(try clear hi)))
  go_ret
  exact ⟨by first|rfl|(simp [errW_none,errW_some] <;> rfl)|(simp [*,errW_none,errW_some] <;> rfl),by repeat (first|(with_reducible first|exact HB.out|apply below_alloc|apply pw_below_drewN|apply below_drew1|refine below_set ?_ GE291.out)|exact HB.out)⟩
 ·replace c3:=Bool.eq_false_iff.mpr c3
  subst c3
  have H1:(some 90)=some r:=by rw [if_neg (show ¬ (false=true) by decide)] at H;exact H
  clear H
  have H:=H1
  clear H1
  obtain rfl:=Option.some.inj H
  go_enter Try.func11,Try.ntmps11
  go_wp2_with (first|((with_reducible refine gate_dst (N:=1) rfl ?_);refine box_event ?hg (N:=1) ?hd (cs:=#[.int .i64 a0_0,.int .i64 a0_1,.int .i64 a0_2,.int .i64 a0_3,.int .i64 a0_4,.int .i64 a0_5,.string a0_6,.string a0_7]) (t:=23) ?hr ?_;(case hd=>rfl);(case hg=>rfl);(case hr=>first|(go_simp;done)|(go_simp;rfl));intro gb291 hg w7 hbox hb;have n0_:=Aside0.mk (below_step (by repeat (first|(with_reducible first|exact HB.out|apply below_alloc|apply pw_below_drewN|apply below_drew1)|exact HB.out)) hb);have n1_:=Aside0.mk (hbox);have n2_:=Aside0.mk ((by rw [hg];exact (below_size (by repeat (first|(with_reducible first|exact HB.out|apply below_alloc|apply pw_below_drewN|apply below_drew1)|exact HB.out))):w.heap.size≤gb291));have n3_:=Aside0.mk ((by rw [hg];exact (below_size (by repeat (first|(with_reducible first|exact HB.out|apply below_alloc|apply pw_below_drewN|apply below_drew1)|exact HB.out))):w.heap.size≤gb291));clear HB;have HB:=n0_;have BK291:=n1_;have GW291:=n2_;have GE291:=n3_;clear n0_ n1_ n2_ n3_;clear hb hbox hg;have hcz8_0:w7.cell? ⟨gb291,0,none⟩=some (.int .i64 a0_0):=(blk_cell BK291.out 0).trans rfl;have hcz8_1:w7.cell? ⟨gb291,1,none⟩=some (.int .i64 a0_1):=(blk_cell BK291.out 1).trans rfl;have hcz8_2:w7.cell? ⟨gb291,2,none⟩=some (.int .i64 a0_2):=(blk_cell BK291.out 2).trans rfl;have hcz8_3:w7.cell? ⟨gb291,3,none⟩=some (.int .i64 a0_3):=(blk_cell BK291.out 3).trans rfl;have hcz8_4:w7.cell? ⟨gb291,4,none⟩=some (.int .i64 a0_4):=(blk_cell BK291.out 4).trans rfl;have hcz8_5:w7.cell? ⟨gb291,5,none⟩=some (.int .i64 a0_5):=(blk_cell BK291.out 5).trans rfl;have hcz8_6:w7.cell? ⟨gb291,6,none⟩=some (.string a0_6):=(blk_cell BK291.out 6).trans rfl;have hcz8_7:w7.cell? ⟨gb291,7,none⟩=some (.string a0_7):=(blk_cell BK291.out 7).trans rfl;have hfz8_0:=blk_frozen BK291.out 0;have hfz8_1:=blk_frozen BK291.out 1;have hfz8_2:=blk_frozen BK291.out 2;have hfz8_3:=blk_frozen BK291.out 3;have hfz8_4:=blk_frozen BK291.out 4;have hfz8_5:=blk_frozen BK291.out 5;have hfz8_6:=blk_frozen BK291.out 6;have hfz8_7:=blk_frozen BK291.out 7)|((with_reducible refine gate_callee (f:=20) rfl ?_);refine goesL_ (some 4) rfl rfl Try.func20 (by kernel_rfl) rfl #[.agg #[.int .i64 a0_0,.int .i64 a0_1,.int .i64 a0_2,.int .i64 a0_3,.int .i64 a0_4,.int .i64 a0_5,.string a0_6,.string a0_7]] rfl (by (try simp only [List.map_toArray,List.map_cons,List.map_nil]);first|done|rfl|(simp only [List.length_drop,List.length_take];rfl)) ?_;(with_reducible refine (latticeref09_Right.calls a0_0 a0_1 a0_2 a0_3 a0_4 a0_5 a0_6 a0_7 false _ A2.out).mono ?_);rintro e w9 ⟨rfl,hb⟩;refine ⟨_,rfl,?_⟩;have n0_:=Aside0.mk (blk_below (g:=gb291) (o:=.cells #[.int .i64 a0_0,.int .i64 a0_1,.int .i64 a0_2,.int .i64 a0_3,.int .i64 a0_4,.int .i64 a0_5,.string a0_6,.string a0_7] 23 (0,0)) (by (with_reducible repeat (first|refine blk_drewN ?_ _|refine blk_drew ?_|refine blk_alloc ?_ _));exact BK291.out) hb);have n1_:=Aside0.mk (below_step (by repeat (first|(with_reducible first|exact HB.out|apply below_alloc|apply pw_below_drewN|apply below_drew1|refine below_set ?_ GE291.out)|exact HB.out)) hb);clear BK291;clear HB;have BK291:=n0_;have HB:=n1_;clear n0_ n1_;(try clear hb);(try clear hb2);(try clear hk);(try clear hi)))
  go_ret
  exact ⟨by first|rfl|(simp [errW_none,errW_some] <;> rfl)|(simp [*,errW_none,errW_some] <;> rfl),by repeat (first|(with_reducible first|exact HB.out|apply below_alloc|apply pw_below_drewN|apply below_drew1|refine below_set ?_ GE291.out)|exact HB.out)⟩
end Go.Proofs.Yteipehiiaggenaa.Pr

namespace Go.Proofs.Yteipehiiaggenaa.Rec
open Go.RowKit Go.Proofs.YteipehiiaggenaaW.PrintWords Go.Proofs.YteipehiiaggenaaW.PrintLast Go.Proofs.YteipehiiaggenaaW.PrintMore Go.Proofs.Yteipehiiaggenaa.Wire Go.Proofs.Yteipehiiaggenaa.Crc Go.Proofs.Yteipehiiaggenaa.Pr Go.Proofs.Yteipehiiaggenaa.Page
open Go.Proofs.Yteipehiiaggenaa.Back (AllB)
open Go.Proofs.Yteipehiiaggenaa.Pure
set_option linter.unusedVariables false
set_option linter.unusedSimpArgs false
theorem num_ok_f {n:Int} {s:Nat} (h:numOk n (s:Int)=true) (hs:s≤8):latticeref01_Num.f n (s:Int)=some (le n s):=by
 obtain ⟨h0,hc⟩:=top_cases h
 have e:=num_f (n:=n) (s:=(s:Int)) (by omega) (by omega) (by omega) (by omega)
 rw [Int.toNat_natCast] at e
 exact e
theorem right_f {a1 a2 a3 a4 a5 a6:Int} {a7 a8:ByteArray} (hv:a8.size≤140737488351232):latticeref09_Right.f a1 a2 a3 a4 a5 a6 a7 a8=some (rightB a1 a2 a3 a4 a5 a6 a7 a8):=by
 unfold latticeref09_Right.f
 rw [if_pos hv]
theorem small_add {a b:Nat} (ha:a≤1000) (hb:b≤1000):a+b < 140737488355328:=by omega
theorem refenc_f (a1 a2 a3 a4 a5 a6:Int) (a7 a8:ByteArray) (hv:a8.size≤140737488351232):latticeref09_Encode.f a1 a2 a3 a4 a5 a6 a7 a8=some (frameF (a1,a2,a3,a4,a5,a6,a7,a8)):=by
 unfold latticeref09_Encode.f
 rw [right_f hv,Option.bind_some]
 by_cases hr:rightB a1 a2 a3 a4 a5 a6 a7 a8=true
 ·rw [if_pos hr]
  have hr':rightV (a1,a2,a3,a4,a5,a6,a7,a8)=true:=hr
  obtain ⟨hf,hl⟩:=fits_of hr'
  have hlb:=body_length (a1,a2,a3,a4,a5,a6,a7,a8)
  have h7:a7.size+a8.size≤272:=by
   have e:(bodyR (a1,a2,a3,a4,a5,a6,a7,a8)).length=37+a7.size+a8.size:=hlb
   omega
  have n1:latticeref01_Num.f a1 8=some (le a1 8):=num_ok_f (s:=8) hf.h1 (by omega)
  have n2:latticeref01_Num.f a2 8=some (le a2 8):=num_ok_f (s:=8) hf.h2 (by omega)
  have n3:latticeref01_Num.f a3 1=some (le a3 1):=num_ok_f (s:=1) hf.h3 (by omega)
  have n4:latticeref01_Num.f a4 4=some (le a4 4):=num_ok_f (s:=4) hf.h4 (by omega)
  have n5:latticeref01_Num.f a5 4=some (le a5 4):=num_ok_f (s:=4) hf.h5 (by omega)
  have n6:latticeref01_Num.f a6 8=some (le a6 8):=num_ok_f (s:=8) hf.h6 (by omega)
  have t7:latticeref01_Text.f a7=some (txB a7):=text_f (by omega)
  have t8:latticeref01_Text.f a8=some (txB a8):=text_f (by omega)
  have hbody:[]++le a1 8++le a2 8++le a3 1++le a4 4++le a5 4++le a6 8++txB a7++txB a8=bodyR (a1,a2,a3,a4,a5,a6,a7,a8):=by
   unfold bodyR
   simp only [List.nil_append,List.append_assoc]
  have hba:=body_allB (a1,a2,a3,a4,a5,a6,a7,a8)
  have ht:latticeref01_Text.f (strOfNums (bodyR (a1,a2,a3,a4,a5,a6,a7,a8)))=some (le ((bodyR (a1,a2,a3,a4,a5,a6,a7,a8)).length:Int) 2++bodyR (a1,a2,a3,a4,a5,a6,a7,a8)):=by
   rw [text_f (by rw [strOfNums_size];omega),tx_str hba]
  have hs:latticeref02_Seal.f (le ((bodyR (a1,a2,a3,a4,a5,a6,a7,a8)).length:Int) 2++bodyR (a1,a2,a3,a4,a5,a6,a7,a8))=some (frameB (a1,a2,a3,a4,a5,a6,a7,a8)) :=
   seal_f (allB_append (le_allB _ _) hba) (by rw [List.length_append,le_length];omega)
  clear hf hl hlb hr' hba
  rw [n1,Option.bind_some,if_pos (small_add (by simp) (by rw [le_length];omega)),Option.bind_some]
  rw [n2,Option.bind_some,if_pos (small_add (by simp only [List.length_append,List.length_nil,le_length];omega) (by rw [le_length];omega)),Option.bind_some]
  rw [n3,Option.bind_some,if_pos (small_add (by simp only [List.length_append,List.length_nil,le_length];omega) (by rw [le_length];omega)),Option.bind_some]
  rw [n4,Option.bind_some,if_pos (small_add (by simp only [List.length_append,List.length_nil,le_length];omega) (by rw [le_length];omega)),Option.bind_some]
  rw [n5,Option.bind_some,if_pos (small_add (by simp only [List.length_append,List.length_nil,le_length];omega) (by rw [le_length];omega)),Option.bind_some]
  rw [n6,Option.bind_some,if_pos (small_add (by simp only [List.length_append,List.length_nil,le_length];omega) (by rw [le_length];omega)),Option.bind_some]
  rw [t7,Option.bind_some,if_pos (small_add (by simp only [List.length_append,List.length_nil,le_length];omega) (by rw [txB_length];omega)),Option.bind_some]
  rw [t8,Option.bind_some,if_pos (small_add (by simp only [List.length_append,List.length_nil,le_length,txB_length];omega) (by rw [txB_length];omega))]
  rw [hbody,ht,Option.bind_some,hs,Option.bind_some]
  unfold frameF
  rw [if_pos (show rightV (a1,a2,a3,a4,a5,a6,a7,a8)=true from hr)]
 ·rw [if_neg hr]
  unfold frameF
  rw [if_neg (show ¬ rightV (a1,a2,a3,a4,a5,a6,a7,a8)=true from hr)]
theorem refchk_f (a1 a2 a3 a4 a5 a6:Int) (a7 a8:ByteArray) (hv:a8.size≤140737488351232):latticeref09_Check.f a1 a2 a3 a4 a5 a6 a7 a8=some (if rightB a1 a2 a3 a4 a5 a6 a7 a8=true then 0 else 90):=by
 unfold latticeref09_Check.f
 rw [right_f hv,Option.bind_some]
 split <;> rfl
theorem C_of_R {w:World} {b:Nat} {Q:Nat→Prop} {A:Option Addr} {c:Nat} {xs:List Int} (h:Kd.R (Kd.int .u8) 5 w b Q (.slice A xs.length c) xs):Kd.C (Kd.int .u8) w A xs.length xs∧xs.length≤c:=by
 obtain ⟨A',c',e,h1,h2⟩:=Kd.R_reads h
 injection e with e1 e2 e3
 subst e1 e3
 exact ⟨h2,h1⟩
theorem keepS {W:World} {g:Nat} {a1 a2 a3 a4 a5 a6:Int} {a7 a8:ByteArray} {A A':Option Addr} {n c c':Nat} {xs:List Int} (h:RcAt W g a1 a2 a3 a4 a5 a6 a7 a8) (hA:Kd.C (Kd.int .u8) W A n xs) (hA2:Kd.C (Kd.int .u8) W A' n xs):(W.cell? ⟨g,0,none⟩=some (.int .i64 a1)∧W.cell? ⟨g,1,none⟩=some (.int .i64 a2)∧W.cell? ⟨g,2,none⟩=some (.int .i64 a3)∧W.cell? ⟨g,3,none⟩=some (.int .i64 a4)∧W.cell? ⟨g,4,none⟩=some (.int .i64 a5)∧W.cell? ⟨g,5,none⟩=some (.int .i64 a6)∧W.cell? ⟨g,6,none⟩=some (.string a7)∧W.cell? ⟨g,7,none⟩=some (.string a8))∧(convert 24 9 (.slice A n c)).run Try.prog W=.ok (.string (strOfNums xs)) W∧(convert 24 9 (.slice A' n c')).run Try.prog W=.ok (.string (strOfNums xs)) W :=
 ⟨h.cells.1,Kd.C_string (c:=c) Try.underlying24 Try.underlying5 Try.underlying9 hA,Kd.C_string (c:=c') Try.underlying24 Try.underlying5 Try.underlying9 hA2⟩
theorem below_pastD {w w1:World} (hB:Below w.drew.heap.size w.drew w1):Below w.heap.size w w1:=below_from2 (below_drew (Below.refl _ _)) (Nat.le_refl _) hB
set_option maxHeartbeats 8000000 in
set_option maxRecDepth 100000 in
theorem rencodes_ok (a1 a2 a3 a4 a5 a6:Int) (a7 a8:ByteArray) (hv:a8.size≤140737488351232) (w:World) :
  Calls Try.prog 3 #[.agg #[.int .i64 a1,.int .i64 a2,.int .i64 a3,.int .i64 a4,.int .i64 a5,.int .i64 a6,.string a7,.string a8]] w fun e w'=>e=.returned (.bool true)∧Below w.heap.size w w':=by
 have hn:=rc_new w a1 a2 a3 a4 a5 a6 a7 a8
 have HB:=Aside0.mk (below_alloc (Below.refl w.heap.size w) (.cells #[.int .i64 a1,.int .i64 a2,.int .i64 a3,.int .i64 a4,.int .i64 a5,.int .i64 a6,.string a7,.string a8] 23))
 have hen:=recenc_ok a1 a2 a3 a4 a5 a6 a7 a8 hv (w.alloc (.cells #[.int .i64 a1,.int .i64 a2,.int .i64 a3,.int .i64 a4,.int .i64 a5,.int .i64 a6,.string a7,.string a8] 23))
 have HREF:=Aside0.mk (fun W=>latticeref09_Encode.calls a1 a2 a3 a4 a5 a6 a7 a8 (frameF (a1,a2,a3,a4,a5,a6,a7,a8)).1 (frameF (a1,a2,a3,a4,a5,a6,a7,a8)).2 W (refenc_f a1 a2 a3 a4 a5 a6 a7 a8 hv))
 have HCK:=Aside0.mk (fun W=>reccheck_ok a1 a2 a3 a4 a5 a6 a7 a8 hv W)
 have HRK:=Aside0.mk (fun W=>latticeref09_Check.calls a1 a2 a3 a4 a5 a6 a7 a8 _ W (refchk_f a1 a2 a3 a4 a5 a6 a7 a8 hv))
 have HN:=Aside0.mk hn
 obtain ⟨⟨b0,b1,b2,b3,b4,b5,b6,b7⟩,_⟩:=hn.cells
 clear hn hv
 generalize frameF (a1,a2,a3,a4,a5,a6,a7,a8)=P at hen HREF
 generalize (if rightB a1 a2 a3 a4 a5 a6 a7 a8=true then (0:Int) else 90)=R at HCK HRK
 have d0:(P.2==P.2)=true:=by simp
 have d1:(R==R)=true:=by simp
 go_enter Try.func3,Try.ntmps3
 go_upto_region 3 with (first
  | (go_at_call 8;(with_reducible refine hen.mono ?_);rintro e w2 ⟨A,c,rfl,hR,hB⟩;clear b0 b1 b2 b3 b4 b5 b6 b7;(replace HN:=Aside0.mk (HN.out.below hB));obtain ⟨⟨b0,b1,b2,b3,b4,b5,b6,b7⟩,_⟩:=HN.out.cells;(replace HB:=Aside0.mk (rbelow_same HB.out hB));(have HA:=Aside0.mk (C_of_R hR).1);(have href:=HREF.out w2);clear hR hB hen)
  | (go_at_call 9;(with_reducible refine href.mono ?_);rintro e w3 ⟨v0,rfl,hR,hB⟩;obtain ⟨A',c',rfl,l7,k7⟩:=Kd.R_reads hR;clear b0 b1 b2 b3 b4 b5 b6 b7;(replace HN:=Aside0.mk (HN.out.below hB));obtain ⟨⟨b0,b1,b2,b3,b4,b5,b6,b7⟩,_⟩:=HN.out.cells;(replace HB:=Aside0.mk (rbelow_same HB.out hB));(replace HA:=Aside0.mk (Kd.C_below HA.out hB));(have HA2:=Aside0.mk k7);clear hR hB href l7 k7))
 clear b0 b1 b2 b3 b4 b5 b6 b7
 go_region_held3 (fun w'=>(w'.cell? ⟨w.heap.size,0,none⟩=some (.int .i64 a1)∧w'.cell? ⟨w.heap.size,1,none⟩=some (.int .i64 a2)∧w'.cell? ⟨w.heap.size,2,none⟩=some (.int .i64 a3)∧w'.cell? ⟨w.heap.size,3,none⟩=some (.int .i64 a4)∧w'.cell? ⟨w.heap.size,4,none⟩=some (.int .i64 a5)∧w'.cell? ⟨w.heap.size,5,none⟩=some (.int .i64 a6)∧w'.cell? ⟨w.heap.size,6,none⟩=some (.string a7)∧w'.cell? ⟨w.heap.size,7,none⟩=some (.string a8))∧(convert 24 9 (.slice A P.1.length c)).run Try.prog w'=.ok (.string (strOfNums P.1)) w'∧(convert 24 9 (.slice A' P.1.length c')).run Try.prog w'=.ok (.string (strOfNums P.1)) w')
  (first|(with_reducible exact keepS HN.out HA.out HA2.out)|(with_reducible exact keepS (HN.out.below (below_drew (Below.refl _ _))) (Kd.C_below HA.out (below_drew (Below.refl _ _))) (Kd.C_below HA2.out (below_drew (Below.refl _ _)))))
  (first
   | (go_at_call 10;(with_reducible refine (HCK.out _).mono ?_);rintro e w4 ⟨rfl,hB⟩;(replace hB:=below_pastD hB);(replace HN:=Aside0.mk (HN.out.below hB));(replace HB:=Aside0.mk (rbelow_same HB.out hB));(replace HA:=Aside0.mk (Kd.C_below HA.out hB));(replace HA2:=Aside0.mk (Kd.C_below HA2.out hB));(have hrk:=HRK.out w4);clear hB)
   | (go_at_call 11;(with_reducible refine hrk.mono ?_);rintro e w5 ⟨rfl,hB⟩;(replace HN:=Aside0.mk (HN.out.below hB));(replace HB:=Aside0.mk (rbelow_same HB.out hB));(replace HA:=Aside0.mk (Kd.C_below HA.out hB));(replace HA2:=Aside0.mk (Kd.C_below HA2.out hB));(have hsp:=speaks9_ok w5);clear hB hrk)
   | (go_at_call 12;(with_reducible refine hsp.mono ?_);rintro e w6 ⟨rfl,hB⟩;(replace HN:=Aside0.mk (HN.out.below hB));(replace HA:=Aside0.mk (Kd.C_below HA.out hB));(replace HA2:=Aside0.mk (Kd.C_below HA2.out hB));(replace HB:=Aside0.mk (rbelow_same HB.out hB));clear hB hsp))
 all_goals
  go_wp2
  go_ret
  exact ⟨rfl,HB.out⟩
end Go.Proofs.Yteipehiiaggenaa.Rec

namespace Go.Proofs.Yteipehiiaggenaa.Pr
open Go.RowKit Go.Proofs.YteipehiiaggenaaW.PrintWords Go.Proofs.YteipehiiaggenaaW.PrintLast Go.Proofs.YteipehiiaggenaaW.PrintMore
attribute [local go_sem] max2_int min2_int max_two min_two max_three min_three max_four min_four
set_option linter.unusedVariables false
set_option linter.unusedSimpArgs false
noncomputable def latticelaw09_RecordEncodes.f (a0_0 a0_1 a0_2 a0_3 a0_4 a0_5:Int) (a0_6 a0_7:ByteArray):Option Bool:=@ite _ (a0_7.size≤140737488351232) (Classical.propDecidable _) (some true) none
theorem latticelaw09_RecordEncodes.calls (a0_0 a0_1 a0_2 a0_3 a0_4 a0_5:Int) (a0_6 a0_7:ByteArray) (r:Bool) (w:World) (h:latticelaw09_RecordEncodes.f a0_0 a0_1 a0_2 a0_3 a0_4 a0_5 a0_6 a0_7=some r) :
  Calls Try.prog 3 #[.agg #[.int .i64 a0_0,.int .i64 a0_1,.int .i64 a0_2,.int .i64 a0_3,.int .i64 a0_4,.int .i64 a0_5,.string a0_6,.string a0_7]] w fun e w'=>e=.returned (.bool r)∧Below w.heap.size w w':=by
 unfold latticelaw09_RecordEncodes.f at h
 split at h
 ·rename_i hn
  injection h with h
  subst h
  exact Rec.rencodes_ok a0_0 a0_1 a0_2 a0_3 a0_4 a0_5 a0_6 a0_7 hn w
 ·cases h
end Go.Proofs.Yteipehiiaggenaa.Pr

namespace Go.Proofs.Yteipehiiaggenaa.Open
open Go.RowKit Go.ChangeShapes Go.WideShapes Go.Proofs.YteipehiiaggenaaW.PrintWords
section
variable {P:Program} {t e:TypeId}
theorem opn_string (ht:P.underlying t=some .string) (hc:P.cellsOf t=1):Opn P t Kd.string (fun y=>y.size≤reachN) (fun y=>y.size+1) where
 sz:=hc
 out:=by
  intro H enc W n cs x h hq
  obtain ⟨y,rfl,rfl,hw⟩:=DataW.trod_string ht h
  have:=hq y.data.toList.length (by simp [DataW.weights])
  exact ⟨y,rfl,by simpa using this,by simp [Rows.uptoBulk]⟩
structure OpnF (P:Program) (fs:List Field) (o:Nat) {α:Type} (d:Kd α) (g:α→Prop) (m:α→Nat):Prop where
 out:∀ (H:Type) (enc:TypeId×Value→H) (W:World) (n:Nat) (cs:List Value) (xs:List (DataW H×List MemPlace)),cs.length=o+d.sz→xs.length=fs.length →
  (∀ (i:Nat) (f:Field),fs[i]?=some f→DataW.trod enc P W 0 (fun _=>true) true n f.type ((cs.drop f.offset).take (P.cellsOf f.type))=xs[i]?) →
  (∀ q ∈ DataW.weightsEach P (fs.map (·.type)) (xs.map (·.1)),q≤reachN)→∃ y:α,d.K W y (cs.drop o)∧g y∧m y≤Rows.uptoBulkAll (xs.map (·.1))
theorem opnF_last {α:Type} {f:Field} {o:Nat} {d:Kd α} {g:α→Prop} {m:α→Nat} (hf:f.offset=o) (h:Opn P f.type d g m):OpnF P [f] o d g m where
 out:=by
  intro H enc W n cs xs hcs hxs hel hq
  match xs,hxs with
  | [x],_ =>
   have h0:=hel 0 f rfl
   rw [hf,h.sz,List.take_of_length_le (by rw [List.length_drop];omega)] at h0
   obtain ⟨y,hy,hg,hb⟩:=h.out H enc W n _ x (by simpa using h0) (fun q hq'=>hq q (by simp [DataW.weightsEach];exact hq'))
   exact ⟨y,hy,hg,by simp [Rows.uptoBulkAll];exact hb⟩
theorem opnF_cons {α β:Type} {f:Field} {fs:List Field} {o:Nat} {a:Kd α} {b:Kd β} {g:α→Prop} {m:α→Nat} {g':β→Prop} {m':β→Nat} (hf:f.offset=o) (h:Opn P f.type a g m) (hr:OpnF P fs (o+a.sz) b g' m') :
  OpnF P (f::fs) o (Kd.pair a b) (fun y=>g y.1∧g' y.2) (fun y=>m y.1+m' y.2) where
 out:=by
  intro H enc W n cs xs hcs hxs hel hq
  match xs,hxs with
  | x::xs,hxs =>
   have hsz:(Kd.pair a b).sz=a.sz+b.sz:=rfl
   have h0:=hel 0 f rfl
   rw [hf,h.sz] at h0
   obtain ⟨y,hy,hg,hb⟩:=h.out H enc W n _ x (by simpa using h0) (fun q hq'=>hq q (by simp only [List.map_cons,DataW.weightsEach];exact List.mem_append_left _ hq'))
   obtain ⟨z,hz,hg',hb'⟩:=hr.out H enc W n cs xs (by omega) (by simpa using hxs) (fun i f' hf'=>by simpa using hel (i+1) f' (by simpa using hf')) (fun q hq'=>hq q (by simp only [List.map_cons,DataW.weightsEach];exact List.mem_append_right _ hq'))
   refine ⟨(y,z),⟨(cs.drop o).take a.sz,cs.drop (o+a.sz),?_,hy,hz⟩,⟨hg,hg'⟩,?_⟩
   ·rw [← List.drop_drop,List.take_append_drop]
   ·simp only [List.map_cons,Rows.uptoBulkAll]
    omega
theorem opn_struct {α β:Type} {fs:Array Field} {d:Kd α} {g:α→Prop} {m:α→Nat} (ht:P.underlying t=some (.struct fs)) (hc:P.cellsOf t=d.sz) (h:OpnF P fs.toList 0 d g m) (f:β→α) (inv:α→β) (hfi:∀ a,f (inv a)=a) :
  Opn P t (Kd.iso d f) (fun y=>g (f y)) (fun y=>m (f y)+1) where
 sz:=hc
 out:=by
  intro H enc W n cs x hx hq
  obtain ⟨xs,n,_,rfl,hl,hxs,hel⟩:=DataW.trod_struct ht hx
  obtain ⟨y,hy,hg,hb⟩:=h.out H enc W n cs xs (by omega) (by simpa using hxs) (fun i f' hf'=>hel i f' (by simpa using hf')) (fun q hq'=>hq q (by simp only [DataW.weights,ht];exact hq'))
  refine ⟨inv y,?_,?_,?_⟩
  ·show d.K W (f (inv y)) cs
   rw [hfi]
   simpa using hy
  ·rw [hfi];exact hg
  ·rw [hfi];simp only [Rows.uptoBulk];omega
end
end Go.Proofs.Yteipehiiaggenaa.Open

namespace Go.Proofs.Yteipehiiaggenaa.Pr
open Go.RowKit
set_option linter.unusedVariables false
def good23 (y:S23):Prop:=(Lit.int .i64 y.f0).wf=true∧(Lit.int .i64 y.f1).wf=true∧(Lit.int .i64 y.f2).wf=true∧(Lit.int .i64 y.f3).wf=true∧(Lit.int .i64 y.f4).wf=true∧(Lit.int .i64 y.f5).wf=true∧y.f6.size≤140737488351232∧y.f7.size≤140737488351232
def bulk23 (y:S23):Nat:=(1+(1+(1+(1+(1+(1+((y.f6.size+1)+(y.f7.size+1))))))))+1
end Go.Proofs.Yteipehiiaggenaa.Pr

namespace Go.Proofs.Yteipehiiaggenaa.Pr
open Go.RowKit Go.Proofs.YteipehiiaggenaaW.PrintWords
theorem opn23:Open.Opn Try.prog 23 k23 good23 bulk23 :=
 Open.opn_struct Try.underlying23 (by kernel_rfl) (Open.opnF_cons rfl (Open.opn_int Try.underlying3 (by kernel_rfl)) (Open.opnF_cons rfl (Open.opn_int Try.underlying3 (by kernel_rfl)) (Open.opnF_cons rfl (Open.opn_int Try.underlying3 (by kernel_rfl)) (Open.opnF_cons rfl (Open.opn_int Try.underlying3 (by kernel_rfl)) (Open.opnF_cons rfl (Open.opn_int Try.underlying3 (by kernel_rfl)) (Open.opnF_cons rfl (Open.opn_int Try.underlying3 (by kernel_rfl)) (Open.opnF_cons rfl (Open.opn_string Try.underlying9 (by kernel_rfl)) (Open.opnF_last rfl (Open.opn_string Try.underlying9 (by kernel_rfl)))))))))) (fun x:S23=>(x.f0,x.f1,x.f2,x.f3,x.f4,x.f5,x.f6,x.f7)) (fun p=>⟨p.1,p.2.1,p.2.2.1,p.2.2.2.1,p.2.2.2.2.1,p.2.2.2.2.2.1,p.2.2.2.2.2.2.1,p.2.2.2.2.2.2.2⟩) (fun _=>rfl)
end Go.Proofs.Yteipehiiaggenaa.Pr

namespace Go.Proofs.Yteipehiiaggenaa.Pr
open Go.RowKit Go.Proofs.YteipehiiaggenaaW.PrintWords Go.Proofs.YteipehiiaggenaaW.PrintLast
set_option linter.unusedVariables false in
def latticelaw09_RecordEncodes.Stated:Prop:=∀ (a0:S23),(good23 a0)→latticelaw09_RecordEncodes.f a0.f0 a0.f1 a0.f2 a0.f3 a0.f4 a0.f5 a0.f6 a0.f7=some true
end Go.Proofs.Yteipehiiaggenaa.Pr

namespace Go.Proofs.Yteipehiiaggenaa.Pure
open Go.RowKit Go.Proofs.Yteipehiiaggenaa.Pr Go.Proofs.YteipehiiaggenaaW.PrintWords Go.Proofs.YteipehiiaggenaaW.PrintLast
theorem RecordEncodes:latticelaw09_RecordEncodes.Stated:=by
 intro a ha
 obtain ⟨_,_,_,_,_,_,_,hv⟩:=ha
 unfold latticelaw09_RecordEncodes.f
 rw [if_pos (by omega)]
end Go.Proofs.Yteipehiiaggenaa.Pure

/- The law RecordEncodes returns true at every input, and each argument reads afterwards as it read before: Which records are right, and the frame of each, byte by byte.
   Conditions: none but those that the row itself prints. Written by a program of this session over the kit's printer. -/
namespace Go.Proofs.Yteipehiiaggenaa.recordEncodes
open Go.ChangeShapes Go.WideShapes Go.ChangeAt Go.RowKit
open Go.ChangeMaps (open_string shut_string)
set_option linter.unusedVariables false
theorem own:ownKnob Try.prog.godebug=none:=by kernel_rfl
theorem laidOut:laidOutB Try.prog=true:=by kernel_rfl
set_option maxRecDepth 100000 in
theorem lifted (os:Os) (started:os.Started) (H:Type) (enc:TypeId×Value→H) :
  ReturnsInHanded {} Try.checked os 3 .any (Rows.recordEncodesSpec.pre6 enc Try.prog Try.f3 Rows.recordEncodesRow.domain false) (Rows.recordEncodesSpec.post enc Try.prog Try.f3 false true false false):=by
 refine returnsInHanded_of_change_sized (C:=Try.checked) own started (by kernel_rfl) Try.func3
  (ChangeSpec.witness6 (enc:=enc) (C:=Try.checked) false ⟨#[],#[.agg #[.int .i64 0,.int .i64 0,.int .i64 0,.int .i64 0,.int .i64 0,.int .i64 0,.string ByteArray.empty,.string ByteArray.empty]],[]⟩ 8 (by kernel_rfl) (by kernel_rfl) (by kernel_rfl) (by kernel_rfl)) ?_
 intro W base args ds gs before hval0 hW hcnd hsz0 _
 have hsz:(DataW.weightsEach Try.prog (Try.f3.params.toList++Rows.recordEncodesSpec.plain.varTypes Try.prog) (ds++gs)).all (·≤reachBytes)=true:=hsz0
 have hval:∀ (j:Nat) t v,Try.f3.params[j]?=some t→args[j]?=some v→Value.okWide Try.prog W .any base t v:=hval0
 have hW':=hW
 obtain ⟨p,q,hA0,hV,rfl,hfz,hnd⟩:=hW
 have hA:DataW.TrodAll enc Try.prog W 0 (fun _=>true) true Try.f3.params.toList args.toList ds p:=hA0
 rw [Try.params3] at hA hval hsz
 obtain ⟨v0,vs0,d0,ds0,p0,q0,hargs,rfl,rfl,h0,r0⟩:=trodAll_cons hA
 obtain ⟨rfl,rfl,rfl⟩:=trodAll_nil r0
 obtain rfl:args=#[v0]:=by cases args;simp_all
 obtain ⟨rfl,rfl⟩:=trodVars_none hV
 have k0:=h0
 have lt0:∀ x ∈ p0,x.block < W.heap.size:=by obtain ⟨m,hm⟩:=k0;exact DataW.trod_lt m _ _ _ hm
 obtain ⟨n0,hf0⟩:=h0
 obtain ⟨y0,K0,g0,m0⟩:=Pr.opn23.out H enc W n0 _ _ hf0 (Open.weights_at hsz (j:=0) (t:=23) rfl rfl)
 obtain ⟨cs0,rfl,_⟩:=okWide_struct Try.underlying23 (hval 0 23 v0 rfl rfl)
 have e0:=Pr.k23_open K0
 obtain rfl:cs0=#[.int .i64 y0.f0,.int .i64 y0.f1,.int .i64 y0.f2,.int .i64 y0.f3,.int .i64 y0.f4,.int .i64 y0.f5,.string y0.f6,.string y0.f7]:=by cases cs0;simp only [Value.cells] at e0;rw [e0]
 clear hA0 hval0 hsz0 hsz
 have hk:=Pure.RecordEncodes y0 g0
 refine (Pr.latticelaw09_RecordEncodes.calls y0.f0 y0.f1 y0.f2 y0.f3 y0.f4 y0.f5 y0.f6 y0.f7 true W hk).mono fun e W' ⟨he,bel0⟩=>?_
 have bel:Below W.heap.size W W':=bel0
 subst he
 exact ⟨_,rfl,_,_,_,[],_,[],hW',trodAll_mk1 (shut_bool Try.underlying4 _),(trodAll_cons_mk (Below.trod laidOut (by kernel_rfl) (of_decide_eq_true (by kernel_rfl)) k0 bel lt0) trodAll_mk0),rfl,bel.frame _,fun h=>by cases h⟩
theorem over:Rows.recordEncodesRow.holds Try.pinned (OpenSpec.ofChange Rows.recordEncodesSpec) :=
 OpenClaim.holds_of_wide 3 Try.f3 rfl rfl rfl rfl rfl rfl rfl ⟨rfl,rfl,rfl,rfl,rfl⟩ rfl rfl rfl rfl rfl (by kernel_rfl) Try.func3 (by kernel_rfl)
  (of_decide_eq_true (by kernel_rfl)) (by unfold Func.isWrapper;first|(rw [if_pos (by decide +kernel)];kernel_rfl)|(rw [if_neg (by decide +kernel)];exact ⟨rfl,rfl⟩))
  (fun os started H enc _=>lifted os started H enc)
theorem proved:Rows.RecordEncodesSaid:=over
#print axioms proved
end Go.Proofs.Yteipehiiaggenaa.recordEncodes
namespace Go.Proofs.Yteipehiiaggenaa
theorem recordEncodes_holds:Rows.RecordEncodesSaid:=recordEncodes.proved
end Go.Proofs.Yteipehiiaggenaa
