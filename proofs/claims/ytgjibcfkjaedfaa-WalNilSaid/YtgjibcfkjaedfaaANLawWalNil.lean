-- Parts melded by a program of this session.
import Derived.Below
import Derived.Deep.Draws
import Derived.Deep.AppendLies
import Derived.Maps.AppendAt
import Derived.OwnWalk
import Derived.Laws.BytesArg
import Derived.Laws.MakeOwn
import Derived.Laws.OwnMore
import Derived.Deep.OwnRows
import Derived.Tactics
import Derived.Lib.ConvBytes
import Derived.Laws.Slices
import Derived.WalkKit
import Derived.KernelRfl
import Derived.RowKit3
import Derived.Deep.LoopGhost
import Derived.Deep.QuietTactic
import Derived.BigQuiet
import Derived.WideLaws
import Derived.Deep.DeepCutAuto
import Derived.Deep.CutBlock
import Derived.Deep.RegionHeld3
import Derived.Laws.Rows
import Derived.Lib.AppendStr
import Derived.ArgAppend
import Derived.Laws.IdiomCopy
import Derived.RowKit
import Derived.Test.YtgjibcfkjaedfaaTHWWords
import Derived.OrdersHeld
import Derived.Laws.BitsLemmas
import Derived.Test.YtgjibcfkjaedfaaTHWRest
import Derived.Laws.StructEq
import Derived.Test.YtgjibcfkjaedfaaProg
import Derived.Shelf.Abstract
import Derived.Test.YtgjibcfkjaedfaaTHPrx0
import Derived.OneCell
import Derived.Lib.SliceRun
import Derived.Test.YtgjibcfkjaedfaaTHWire
import Derived.RangeFuncBox
import Derived.RangeFuncLeaves
import Derived.OwnWalkIn
import Derived.TacticsInMore
import Derived.LoopNIn
import Derived.LoopIn
import Derived.Lib.Hide
import Derived.Test.YtgjibcfkjaedfaaTHBack
import Derived.Outline
import Derived.Test.YtgjibcfkjaedfaaTHRead
import Derived.Test.YtgjibcfkjaedfaaTHNdFrom
import Derived.Laws.BitsAllLaws
import Derived.Test.YtgjibcfkjaedfaaTHCrc
import Derived.Test.YtgjibcfkjaedfaaTHPrx3
import Derived.Test.YtgjibcfkjaedfaaTHPrx4
import Derived.Test.YtgjibcfkjaedfaaTHPrx5
import Derived.Test.YtgjibcfkjaedfaaTHPrx1
import Derived.Test.YtgjibcfkjaedfaaTHRefW
import Derived.Test.YtgjibcfkjaedfaaTHPrxS
import Derived.Test.YtgjibcfkjaedfaaTHPrx15
import Derived.Test.YtgjibcfkjaedfaaTHPrx16
import Derived.Test.YtgjibcfkjaedfaaTHPureNode
import Derived.Deep.RegionLaw
import Derived.Laws.CopyOwn
import Derived.Test.YtgjibcfkjaedfaaTHPageEnc
import Derived.Test.YtgjibcfkjaedfaaTHPageFit
import Derived.Test.YtgjibcfkjaedfaaTHPageRd
import Derived.Test.YtgjibcfkjaedfaaTHPageNode
import Derived.Test.YtgjibcfkjaedfaaTHPageDec
import Derived.Test.YtgjibcfkjaedfaaTHCrcR
import Derived.Test.YtgjibcfkjaedfaaTHPageRt
import Derived.Test.YtgjibcfkjaedfaaTHPrx17
import Derived.Test.YtgjibcfkjaedfaaTHPagePure
import Derived.Test.YtgjibcfkjaedfaaTHRefRd
import Derived.Test.YtgjibcfkjaedfaaTHPageRef
import Derived.Test.YtgjibcfkjaedfaaTHRecIR
import Derived.Lib.SlBytesConst
import Derived.StillTailTactics
import Derived.Test.YtgjibcfkjaedfaaTHRecV
import Derived.Test.YtgjibcfkjaedfaaTHRecChkP
import Derived.Test.YtgjibcfkjaedfaaTHRecChkA
import Derived.Test.YtgjibcfkjaedfaaTHRecChkB
import Derived.Test.YtgjibcfkjaedfaaTHRecChkE
import Derived.Test.YtgjibcfkjaedfaaTHRecChk
import Derived.Test.YtgjibcfkjaedfaaTHRecEnc
import Derived.Test.YtgjibcfkjaedfaaTHRecRead
import Derived.Test.YtgjibcfkjaedfaaTHRecDec
import Derived.Test.YtgjibcfkjaedfaaTHRecRight
import Derived.Test.YtgjibcfkjaedfaaTHRecRefDec
import Derived.Test.YtgjibcfkjaedfaaTHRecLaw
import Derived.Test.YtgjibcfkjaedfaaTHRecK
import Derived.Test.YtgjibcfkjaedfaaTHPrx19
import Derived.Test.YtgjibcfkjaedfaaTHPrx26
import Derived.Test.YtgjibcfkjaedfaaTHRecEncs
import Derived.Test.YtgjibcfkjaedfaaKWA
import Derived.Test.YtgjibcfkjaedfaaKWB
import Derived.WalkMore
import Derived.Test.YtgjibcfkjaedfaaKRA
import Derived.Test.YtgjibcfkjaedfaaKWS
import Derived.OpenShut
import Derived.Test.YtgjibcfkjaedfaaRows
import Derived.SizedLaws
import Derived.ChangeArms
import Derived.ChangeOld
import Derived.DataReads
import Derived.ProofKit
import Derived.ShutString
import Derived.Carry
namespace Go.Proofs.Ytgjibcfkjaedfaa.Wal
open Go.RowKit Go.Proofs.YtgjibcfkjaedfaaW.PrintWords Go.Proofs.YtgjibcfkjaedfaaW.PrintLast Go.Proofs.YtgjibcfkjaedfaaW.PrintMore Go.Proofs.Ytgjibcfkjaedfaa.Wire Go.Proofs.Ytgjibcfkjaedfaa.Pr Go.Proofs.Ytgjibcfkjaedfaa.Rec
set_option linter.unusedVariables false
set_option linter.unusedSimpArgs false
theorem noop_right:(if rightB 1 0 1 0 0 0 ⟨#[]⟩ ⟨#[]⟩=true then (0:Int) else 90)=0:=by rw [if_pos (by decide +kernel)]
theorem zero_right:(if rightB 1 0 0 0 0 0 ⟨#[]⟩ ⟨#[]⟩=true then (0:Int) else 90)=90:=by rw [if_neg (by decide +kernel)]
set_option maxHeartbeats 4000000 in
theorem appnil_noop (w:World):Calls Try.prog 33 #[.pointer none,.agg #[.int .i64 0,.int .i64 0,.int .i64 1,.int .i64 0,.int .i64 0,.int .i64 0,.string ⟨#[]⟩,.string ⟨#[]⟩]] w fun e w'=>e=.returned (.tuple #[.int .i64 0,.int .i64 5])∧Below w.heap.size w w':=by
 have hn:=rc_new w 0 0 1 0 0 0 ⟨#[]⟩ ⟨#[]⟩
 have hlast:=last_nil (w.alloc (.cells #[.int .i64 0,.int .i64 0,.int .i64 1,.int .i64 0,.int .i64 0,.int .i64 0,.string ⟨#[]⟩,.string ⟨#[]⟩] 53))
 have HCK:=Aside0.mk (fun W=>reccheck_ok 1 0 1 0 0 0 ⟨#[]⟩ ⟨#[]⟩ (by decide) W)
 rw [noop_right] at HCK
 obtain ⟨⟨b0,b1,b2,b3,b4,b5,b6,b7⟩,⟨fb0,fb1,fb2,fb3,fb4,fb5,fb6,fb7⟩⟩:=hn.cells
 clear hn
 go_enter Try.func33,Try.ntmps33
 go_wp2_with (first
  | (go_at_call 21;(with_reducible refine hlast.mono ?_);rintro e w2 ⟨rfl,hB⟩;clear b0 b1 b2 b3 b4 b5 b6 b7 fb0 fb1 fb2 fb3 fb4 fb5 fb6 fb7;(have HN:=Aside0.mk ((rc_new w 0 0 1 0 0 0 ⟨#[]⟩ ⟨#[]⟩).below hB));obtain ⟨⟨b0,b1,b2,b3,b4,b5,b6,b7⟩,⟨fb0,fb1,fb2,fb3,fb4,fb5,fb6,fb7⟩⟩:=HN.out.cells;(have ltn:=HN.out.lt);(have HW:=Aside0.mk ((below_from2 (below_alloc (Below.refl w.heap.size w) (.cells #[.int .i64 0,.int .i64 0,.int .i64 1,.int .i64 0,.int .i64 0,.int .i64 0,.string ⟨#[]⟩,.string ⟨#[]⟩] 53)) (Nat.le_refl _) hB).setCell (p:=⟨w.heap.size,0,none⟩) (Nat.le_refl _) (.int .i64 1)));clear hB hlast)
  | (go_at_call 55;(with_reducible refine (HCK.out _).mono ?_);rintro e w3 ⟨rfl,hB⟩;clear b0 b1 b2 b3 b4 b5 b6 b7 fb0 fb1 fb2 fb3 fb4 fb5 fb6 fb7 ltn;(replace HN:=Aside0.mk ((HN.out.set0 1).below hB));obtain ⟨⟨b0,b1,b2,b3,b4,b5,b6,b7⟩,⟨fb0,fb1,fb2,fb3,fb4,fb5,fb6,fb7⟩⟩:=HN.out.cells;(have ltn:=HN.out.lt);(replace HW:=Aside0.mk (below_from2 HW.out (Nat.le_refl _) hB));clear hB))
 go_ret2
 exact ⟨rfl,HW.out⟩
set_option maxHeartbeats 4000000 in
theorem appnil_zero (w:World):Calls Try.prog 33 #[.pointer none,.agg #[.int .i64 0,.int .i64 0,.int .i64 0,.int .i64 0,.int .i64 0,.int .i64 0,.string ⟨#[]⟩,.string ⟨#[]⟩]] w fun e w'=>e=.returned (.tuple #[.int .i64 0,.int .i64 90])∧Below w.heap.size w w':=by
 have hn:=rc_new w 0 0 0 0 0 0 ⟨#[]⟩ ⟨#[]⟩
 have hlast:=last_nil (w.alloc (.cells #[.int .i64 0,.int .i64 0,.int .i64 0,.int .i64 0,.int .i64 0,.int .i64 0,.string ⟨#[]⟩,.string ⟨#[]⟩] 53))
 have HCK:=Aside0.mk (fun W=>reccheck_ok 1 0 0 0 0 0 ⟨#[]⟩ ⟨#[]⟩ (by decide) W)
 rw [zero_right] at HCK
 obtain ⟨⟨b0,b1,b2,b3,b4,b5,b6,b7⟩,⟨fb0,fb1,fb2,fb3,fb4,fb5,fb6,fb7⟩⟩:=hn.cells
 clear hn
 go_enter Try.func33,Try.ntmps33
 go_wp2_with (first
  | (go_at_call 21;(with_reducible refine hlast.mono ?_);rintro e w2 ⟨rfl,hB⟩;clear b0 b1 b2 b3 b4 b5 b6 b7 fb0 fb1 fb2 fb3 fb4 fb5 fb6 fb7;(have HN:=Aside0.mk ((rc_new w 0 0 0 0 0 0 ⟨#[]⟩ ⟨#[]⟩).below hB));obtain ⟨⟨b0,b1,b2,b3,b4,b5,b6,b7⟩,⟨fb0,fb1,fb2,fb3,fb4,fb5,fb6,fb7⟩⟩:=HN.out.cells;(have ltn:=HN.out.lt);(have HW:=Aside0.mk ((below_from2 (below_alloc (Below.refl w.heap.size w) (.cells #[.int .i64 0,.int .i64 0,.int .i64 0,.int .i64 0,.int .i64 0,.int .i64 0,.string ⟨#[]⟩,.string ⟨#[]⟩] 53)) (Nat.le_refl _) hB).setCell (p:=⟨w.heap.size,0,none⟩) (Nat.le_refl _) (.int .i64 1)));clear hB hlast)
  | (go_at_call 55;(with_reducible refine (HCK.out _).mono ?_);rintro e w3 ⟨rfl,hB⟩;clear b0 b1 b2 b3 b4 b5 b6 b7 fb0 fb1 fb2 fb3 fb4 fb5 fb6 fb7 ltn;(replace HN:=Aside0.mk ((HN.out.set0 1).below hB));obtain ⟨⟨b0,b1,b2,b3,b4,b5,b6,b7⟩,⟨fb0,fb1,fb2,fb3,fb4,fb5,fb6,fb7⟩⟩:=HN.out.cells;(have ltn:=HN.out.lt);(replace HW:=Aside0.mk (below_from2 HW.out (Nat.le_refl _) hB));clear hB))
 go_ret2
 exact ⟨rfl,HW.out⟩
theorem from_nil (w:World) (lsn most:Int):Calls Try.prog 18 #[.pointer none,.int .i64 lsn,.int .i64 most] w fun e w'=>e=.returned (.slice none 0 0)∧Below w.heap.size w w':=by
 have hlast:=last_nil w
 have hmx:=fun ats ty=>max_two' ats ty lsn 1
 obtain ⟨a,ha⟩:∃ a,max lsn 1=a:=⟨_,rfl⟩
 have ha1:1≤a:=by omega
 rw [ha] at hmx
 have d1:decide (a > 0)=true:=decide_eq_true (by omega)
 clear ha
 go_enter Try.func18,Try.ntmps18
 go_wp2_with (go_at_call 21;(with_reducible refine hlast.mono ?_);rintro e w2 ⟨rfl,hB⟩;(have HB:=Aside0.mk hB);clear hB hlast)
 go_ret
 exact ⟨rfl,HB.out⟩
theorem cut_nil (w:World) (lsn:Int):Calls Try.prog 40 #[.pointer none,.int .i64 lsn] w fun e w'=>e=.returned (.int .i64 (if withinB 0 lsn=true then 0 else 1))∧Below w.heap.size w w':=by
 have hin:=within_any (n:=0) (x:=0) lsn (last_nil w)
 cases hb:withinB 0 lsn
 ·rw [if_neg (by decide)]
  rw [hb] at hin
  clear hb
  go_enter Try.func40,Try.ntmps40
  go_wp2_with (go_at_call 62;(with_reducible refine hin.mono ?_);rintro e w2 ⟨rfl,hB⟩;(have HB:=Aside0.mk hB);clear hB hin)
  go_ret
  exact ⟨rfl,HB.out⟩
 ·rw [if_pos rfl]
  rw [hb] at hin
  clear hb
  go_enter Try.func40,Try.ntmps40
  go_wp2_with (go_at_call 62;(with_reducible refine hin.mono ?_);rintro e w2 ⟨rfl,hB⟩;(have HB:=Aside0.mk hB);clear hB hin)
  go_ret
  exact ⟨rfl,HB.out⟩
theorem flush_nil (w:World) (lsn:Int):Calls Try.prog 44 #[.pointer none,.int .i64 lsn] w fun e w'=>e=.returned (.int .i64 (if withinB 0 lsn=true then 0 else 1))∧Below w.heap.size w w':=by
 have hin:=within_any (n:=0) (x:=0) lsn (last_nil w)
 cases hb:withinB 0 lsn
 ·rw [if_neg (by decide)]
  rw [hb] at hin
  clear hb
  go_enter Try.func44,Try.ntmps44
  go_wp2_with (go_at_call 62;(with_reducible refine hin.mono ?_);rintro e w2 ⟨rfl,hB⟩;(have HB:=Aside0.mk hB);clear hB hin)
  go_ret
  exact ⟨rfl,HB.out⟩
 ·rw [if_pos rfl]
  rw [hb] at hin
  clear hb
  go_enter Try.func44,Try.ntmps44
  go_wp2_with (go_at_call 62;(with_reducible refine hin.mono ?_);rintro e w2 ⟨rfl,hB⟩;(have HB:=Aside0.mk hB);clear hB hin)
  go_ret
  exact ⟨rfl,HB.out⟩
theorem marks_nil (w:World):Calls Try.prog 48 #[.pointer none] w fun e w'=>e=.returned (.slice none 0 0)∧Below w.heap.size w w':=by
 go_enter Try.func48,Try.ntmps48
 go_wp2
 go_ret
 exact ⟨rfl,Below.refl _ _⟩
theorem bytes_nil (w:World):Calls Try.prog 34 #[.pointer none] w fun e w'=>e=.returned (.slice none 0 0)∧Below w.heap.size w w':=by
 go_enter Try.func34,Try.ntmps34
 go_wp2
 go_ret
 exact ⟨rfl,Below.refl _ _⟩
theorem getF_nil (n:Int):getF [] n=(z53,6):=by
 unfold getF
 rw [if_neg (by simp;omega)]
set_option maxHeartbeats 8000000 in
set_option maxRecDepth 100000 in
theorem walNil_ok (n:Int) (w:World):Calls Try.prog 13 #[.int .i64 n] w fun e w'=>e=.returned (.bool true)∧Below w.heap.size w w':=by
 have h1:=appnil_noop w
 have HG:=Aside0.mk (getF_nil n)
 by_cases hz:n=0
 ·have HWI:Aside0 ((if withinB 0 n=true then (0:Int) else 1)=0):=⟨by rw [if_pos];rw [withinB_iff];omega⟩
  have d1:(n==0)=true:=by simp [hz]
  clear hz
  go_enter Try.func13,Try.ntmps13
  go_wp2_with (first
   | (go_at_call 33;(with_reducible refine h1.mono ?_);rintro e w1 ⟨rfl,hB⟩;(have HB:=Aside0.mk hB);(have h2:=appnil_zero w1);clear hB h1)
   | (go_at_call 33;(with_reducible refine h2.mono ?_);rintro e w2 ⟨rfl,hB⟩;(replace HB:=Aside0.mk (below_from2 HB.out (Nat.le_refl _) hB));(have h3:=get_nil w2 n);rw [HG.out] at h3;dsimp only [z53] at h3;clear hB h2)
   | (go_at_call 47;(with_reducible refine h3.mono ?_);rintro e w3 ⟨rfl,hB⟩;(replace HB:=Aside0.mk (below_alloc (below_from2 HB.out (Nat.le_refl _) hB) (.cells #[.int .i64 0,.int .i64 0,.int .i64 0,.int .i64 0,.int .i64 0,.int .i64 0,.string ⟨#[]⟩,.string ⟨#[]⟩] 53)));(have h4:=last_nil (w3.alloc (.cells #[.int .i64 0,.int .i64 0,.int .i64 0,.int .i64 0,.int .i64 0,.int .i64 0,.string ⟨#[]⟩,.string ⟨#[]⟩] 53)));clear hB h3)
   | (go_at_call 21;(with_reducible refine h4.mono ?_);rintro e w4 ⟨rfl,hB⟩;(replace HB:=Aside0.mk (below_from2 HB.out (Nat.le_refl _) hB));(have h5:=from_nil w4 n 9);clear hB h4)
   | (go_at_call 18;(with_reducible refine h5.mono ?_);rintro e w5 ⟨rfl,hB⟩;(replace HB:=Aside0.mk (below_from2 HB.out (Nat.le_refl _) hB));(have h6:=cut_nil w5 n);rw [HWI.out] at h6;clear hB h5)
   | (go_at_call 40;(with_reducible refine h6.mono ?_);rintro e w6 ⟨rfl,hB⟩;(replace HB:=Aside0.mk (below_from2 HB.out (Nat.le_refl _) hB));(have h7:=flush_nil w6 n);rw [HWI.out] at h7;clear hB h6)
   | (go_at_call 44;(with_reducible refine h7.mono ?_);rintro e w7 ⟨rfl,hB⟩;(replace HB:=Aside0.mk (below_from2 HB.out (Nat.le_refl _) hB));(have h8:=flushed_nil w7);clear hB h7)
   | (go_at_call 36;(with_reducible refine h8.mono ?_);rintro e w8 ⟨rfl,hB⟩;(replace HB:=Aside0.mk (below_from2 HB.out (Nat.le_refl _) hB));(have h9:=marks_nil w8);clear hB h8)
   | (go_at_call 48;(with_reducible refine h9.mono ?_);rintro e w9 ⟨rfl,hB⟩;(replace HB:=Aside0.mk (below_from2 HB.out (Nat.le_refl _) hB));(have h10:=bytes_nil w9);clear hB h9)
   | (go_at_call 34;(with_reducible refine h10.mono ?_);rintro e w10 ⟨rfl,hB⟩;(replace HB:=Aside0.mk (below_from2 HB.out (Nat.le_refl _) hB));(have hsp:=speaks10_ok w10);clear hB h10)
   | (go_at_call 37;(with_reducible refine hsp.mono ?_);rintro e w11 ⟨rfl,hB⟩;(replace HB:=Aside0.mk (below_from2 HB.out (Nat.le_refl _) hB));clear hB hsp))
  go_ret
  exact ⟨rfl,HB.out⟩
 ·have HWI:Aside0 ((if withinB 0 n=true then (0:Int) else 1)=1):=⟨by rw [if_neg];rw [withinB_iff];omega⟩
  have d1:(n==0)=false:=by simp [hz]
  clear hz
  go_enter Try.func13,Try.ntmps13
  go_wp2_with (first
   | (go_at_call 33;(with_reducible refine h1.mono ?_);rintro e w1 ⟨rfl,hB⟩;(have HB:=Aside0.mk hB);(have h2:=appnil_zero w1);clear hB h1)
   | (go_at_call 33;(with_reducible refine h2.mono ?_);rintro e w2 ⟨rfl,hB⟩;(replace HB:=Aside0.mk (below_from2 HB.out (Nat.le_refl _) hB));(have h3:=get_nil w2 n);rw [HG.out] at h3;dsimp only [z53] at h3;clear hB h2)
   | (go_at_call 47;(with_reducible refine h3.mono ?_);rintro e w3 ⟨rfl,hB⟩;(replace HB:=Aside0.mk (below_alloc (below_from2 HB.out (Nat.le_refl _) hB) (.cells #[.int .i64 0,.int .i64 0,.int .i64 0,.int .i64 0,.int .i64 0,.int .i64 0,.string ⟨#[]⟩,.string ⟨#[]⟩] 53)));(have h4:=last_nil (w3.alloc (.cells #[.int .i64 0,.int .i64 0,.int .i64 0,.int .i64 0,.int .i64 0,.int .i64 0,.string ⟨#[]⟩,.string ⟨#[]⟩] 53)));clear hB h3)
   | (go_at_call 21;(with_reducible refine h4.mono ?_);rintro e w4 ⟨rfl,hB⟩;(replace HB:=Aside0.mk (below_from2 HB.out (Nat.le_refl _) hB));(have h5:=from_nil w4 n 9);clear hB h4)
   | (go_at_call 18;(with_reducible refine h5.mono ?_);rintro e w5 ⟨rfl,hB⟩;(replace HB:=Aside0.mk (below_from2 HB.out (Nat.le_refl _) hB));(have h6:=cut_nil w5 n);rw [HWI.out] at h6;clear hB h5)
   | (go_at_call 40;(with_reducible refine h6.mono ?_);rintro e w6 ⟨rfl,hB⟩;(replace HB:=Aside0.mk (below_from2 HB.out (Nat.le_refl _) hB));(have h7:=flush_nil w6 n);rw [HWI.out] at h7;clear hB h6)
   | (go_at_call 44;(with_reducible refine h7.mono ?_);rintro e w7 ⟨rfl,hB⟩;(replace HB:=Aside0.mk (below_from2 HB.out (Nat.le_refl _) hB));(have h8:=flushed_nil w7);clear hB h7)
   | (go_at_call 36;(with_reducible refine h8.mono ?_);rintro e w8 ⟨rfl,hB⟩;(replace HB:=Aside0.mk (below_from2 HB.out (Nat.le_refl _) hB));(have h9:=marks_nil w8);clear hB h8)
   | (go_at_call 48;(with_reducible refine h9.mono ?_);rintro e w9 ⟨rfl,hB⟩;(replace HB:=Aside0.mk (below_from2 HB.out (Nat.le_refl _) hB));(have h10:=bytes_nil w9);clear hB h9)
   | (go_at_call 34;(with_reducible refine h10.mono ?_);rintro e w10 ⟨rfl,hB⟩;(replace HB:=Aside0.mk (below_from2 HB.out (Nat.le_refl _) hB));(have hsp:=speaks10_ok w10);clear hB h10)
   | (go_at_call 37;(with_reducible refine hsp.mono ?_);rintro e w11 ⟨rfl,hB⟩;(replace HB:=Aside0.mk (below_from2 HB.out (Nat.le_refl _) hB));clear hB hsp))
  go_ret
  exact ⟨rfl,HB.out⟩
end Go.Proofs.Ytgjibcfkjaedfaa.Wal

namespace Go.Proofs.Ytgjibcfkjaedfaa.Pr
open Go.RowKit Go.Proofs.YtgjibcfkjaedfaaW.PrintWords Go.Proofs.YtgjibcfkjaedfaaW.PrintLast Go.Proofs.YtgjibcfkjaedfaaW.PrintMore
attribute [local go_sem] max2_int min2_int max_two min_two max_three min_three max_four min_four
set_option linter.unusedVariables false
set_option linter.unusedSimpArgs false
def latticelaw10_WalNil.f (a0:Int):Option Bool:=some true
theorem latticelaw10_WalNil.calls (a0:Int) (r:Bool) (w:World) (h:latticelaw10_WalNil.f a0=some r) :
  Calls Try.prog 13 #[.int .i64 a0] w fun e w'=>e=.returned (.bool r)∧Below w.heap.size w w':=by
 unfold latticelaw10_WalNil.f at h
 injection h with h
 subst h
 exact Wal.walNil_ok a0 w
end Go.Proofs.Ytgjibcfkjaedfaa.Pr

namespace Go.Proofs.Ytgjibcfkjaedfaa.Pr
open Go.RowKit Go.Proofs.YtgjibcfkjaedfaaW.PrintWords Go.Proofs.YtgjibcfkjaedfaaW.PrintLast
set_option linter.unusedVariables false in
def latticelaw10_WalNil.Stated:Prop:=∀ (a0:Int),((Lit.int .i64 a0).wf=true)→latticelaw10_WalNil.f a0=some true
end Go.Proofs.Ytgjibcfkjaedfaa.Pr

namespace Go.Proofs.Ytgjibcfkjaedfaa.Pure
open Go.RowKit Go.Proofs.Ytgjibcfkjaedfaa.Pr Go.Proofs.YtgjibcfkjaedfaaW.PrintWords Go.Proofs.YtgjibcfkjaedfaaW.PrintLast
theorem WalNil:latticelaw10_WalNil.Stated:=by
 intro a0 _
 rfl
end Go.Proofs.Ytgjibcfkjaedfaa.Pure

/- The law WalNil returns true at every input, and each argument reads afterwards as it read before: A nil log has no records and takes none.
   Conditions: none but those that the row itself prints. Written by a program of this session over the kit's printer. -/
namespace Go.Proofs.Ytgjibcfkjaedfaa.walNil
open Go.ChangeShapes Go.WideShapes Go.ChangeAt Go.RowKit
open Go.ChangeMaps (open_string shut_string)
set_option linter.unusedVariables false
theorem own:ownKnob Try.prog.godebug=none:=by kernel_rfl
theorem laidOut:laidOutB Try.prog=true:=by kernel_rfl
set_option maxRecDepth 100000 in
theorem lifted (os:Os) (started:os.Started) (H:Type) (enc:TypeId×Value→H) :
  ReturnsInHanded {} Try.checked os 13 .any (Rows.walNilSpec.pre6 enc Try.prog Try.f13 Rows.walNilRow.domain false) (Rows.walNilSpec.post enc Try.prog Try.f13 false true false false):=by
 refine returnsInHanded_of_change_sized (C:=Try.checked) own started (by kernel_rfl) Try.func13
  (ChangeSpec.witness6 (enc:=enc) (C:=Try.checked) false ⟨#[],#[.int .i64 0],[]⟩ 8 (by kernel_rfl) (by kernel_rfl) (by kernel_rfl) (by kernel_rfl)) ?_
 intro W base args ds gs before hval0 hW hcnd hsz0 _
 have hsz:(DataW.weightsEach Try.prog (Try.f13.params.toList++Rows.walNilSpec.plain.varTypes Try.prog) (ds++gs)).all (·≤reachBytes)=true:=hsz0
 have hval:∀ (j:Nat) t v,Try.f13.params[j]?=some t→args[j]?=some v→Value.okWide Try.prog W .any base t v:=hval0
 have hW':=hW
 obtain ⟨p,q,hA0,hV,rfl,hfz,hnd⟩:=hW
 have hA:DataW.TrodAll enc Try.prog W 0 (fun _=>true) true Try.f13.params.toList args.toList ds p:=hA0
 rw [Try.params13] at hA hval hsz
 obtain ⟨v0,vs0,d0,ds0,p0,q0,hargs,rfl,rfl,h0,r0⟩:=trodAll_cons hA
 obtain ⟨rfl,rfl,rfl⟩:=trodAll_nil r0
 obtain rfl:args=#[v0]:=by cases args;simp_all
 obtain ⟨rfl,rfl⟩:=trodVars_none hV
 have k0:=h0
 obtain ⟨y0,rfl,rfl,rfl,g0⟩:=open_int Try.underlying3 (hval 0 3 v0 rfl rfl) h0
 clear hA0 hval0 hsz0 hsz
 have hk:=Pure.WalNil y0 g0
 refine (Pr.latticelaw10_WalNil.calls y0 true W hk).mono fun e W' ⟨he,bel0⟩=>?_
 have bel:Below W.heap.size W W':=bel0
 subst he
 exact ⟨_,rfl,_,_,_,[],_,[],hW',trodAll_mk1 (shut_bool Try.underlying4 _),(trodAll_cons_mk (shut_int Try.underlying3 g0) trodAll_mk0),rfl,bel.frame _,fun h=>by cases h⟩
theorem over:Rows.walNilRow.holds Try.pinned (OpenSpec.ofChange Rows.walNilSpec) :=
 OpenClaim.holds_of_wide 13 Try.f13 rfl rfl rfl rfl rfl rfl rfl ⟨rfl,rfl,rfl,rfl,rfl⟩ rfl rfl rfl rfl rfl (by kernel_rfl) Try.func13 (by kernel_rfl)
  (of_decide_eq_true (by kernel_rfl)) (by unfold Func.isWrapper;first|(rw [if_pos (by decide +kernel)];kernel_rfl)|(rw [if_neg (by decide +kernel)];exact ⟨rfl,rfl⟩))
  (fun os started H enc _=>lifted os started H enc)
theorem proved:Rows.WalNilSaid:=over
#print axioms proved
end Go.Proofs.Ytgjibcfkjaedfaa.walNil
namespace Go.Proofs.Ytgjibcfkjaedfaa
theorem walNil_holds:Rows.WalNilSaid:=walNil.proved
end Go.Proofs.Ytgjibcfkjaedfaa
