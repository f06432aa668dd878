-- Parts melded by a program of this session.
import Derived.Test.YtgjibcfkjaedfaaTSShA
import Derived.RangeFuncBox
import Derived.RangeFuncLeaves
import Derived.Shelf.Abstract
import Derived.WalkKit
import Derived.OwnWalkIn
import Derived.TacticsInMore
import Derived.LoopNIn
import Derived.LoopIn
namespace Go.Proofs.Ytgjibcfkjaedfaa.Wal
open Go.RowKit Go.Proofs.YtgjibcfkjaedfaaW.PrintWords Go.Proofs.YtgjibcfkjaedfaaW.PrintLast Go.Proofs.YtgjibcfkjaedfaaW.PrintMore Go.Proofs.Ytgjibcfkjaedfaa.Wire Go.Proofs.Ytgjibcfkjaedfaa.Pr Go.Proofs.Ytgjibcfkjaedfaa.Rec
set_option linter.unusedVariables false
set_option linter.unusedSimpArgs false
def fitsF (l:List RecS) (ep p:Int) (rs:List RecS):Bool :=
 if p≠0∧((getF l p).2≠0∨(getF l p).1.f1≠ep) then false else chainF ep p rs
theorem getF_err {l:List RecS} {n:Int} (h:(getF l n).2=0):1≤n∧n≤(l.length:Int):=by
 unfold getF at h
 by_cases hin:1≤n∧n≤(l.length:Int)
 ·exact hin
 ·rw [if_neg hin] at h
  exact absurd h (by decide)
theorem chainF_drop {rs:List RecS} {k:Nat} (hk:k < rs.length) (e a:Int):chainF e a (rs.drop k)=if (rd_T53 rs (k:Int)).f0=a+1∧e≤(rd_T53 rs (k:Int)).f1 then chainF (rd_T53 rs (k:Int)).f1 (rd_T53 rs (k:Int)).f0 (rs.drop (k+1)) else false:=by
 rw [List.drop_eq_getElem_cons hk,rd_get hk]
 rfl
theorem chainF_end {rs:List RecS} (e a:Int):chainF e a (rs.drop rs.length)=true:=by rw [List.drop_length];rfl
def FitIn (w:World) (ep p:Int) (rs:List RecS) (v9 v10 v40:Value) (wr:World):Prop :=
 ∃ (k:Nat) (a e:Int),k≤rs.length∧v40=.int .i64 k∧v9=.int .i64 a∧v10=.int .i64 e∧(0≤a∧a≤1099511627776)∧Aside0 (chainF ep p rs=chainF e a (rs.drop k))∧Aside0 (Below w.heap.size w wr)
set_option maxHeartbeats 16000000 in
set_option maxRecDepth 100000 in
theorem tfits_ok {w:World} {gl:Nat} {fl:Int} {l:List RecS} {ok:Nat→Prop} (hL:LogAt 37 w ok gl l fl) (hl:l.length≤65536) (ep p:Int) (A:Option Addr) (c:Nat) (rs:List RecS) (hr:Kd.C kRec w A rs.length rs) (hri:∀ x ∈ rs,x.f0≤1099511627776) (hp:0≤p) :
  Calls Try.prog 50 #[.pointer (some ⟨gl,0,none⟩),.agg #[.int .i64 ep,.int .i64 p],.slice A rs.length c] w fun r w'=>r=.returned (.bool (fitsF l ep p rs))∧Below w.heap.size w w':=by
 have HB:=Aside0.mk (below_alloc (Below.refl w.heap.size w) (.cells #[.int .i64 ep,.int .i64 p] 24))
 have HN:=Aside0.mk (show SnAt 24 (w.alloc (.cells #[.int .i64 ep,.int .i64 p] 24)) w.heap.size ep p from blk_newN _ _)
 have hg:=rget_ok (hL.below HB.out) (by omega) p
 obtain ⟨h0,h1,f0,f1⟩:=HN.out.cells
 have HX:=Aside0.mk hr
 have HR:=Aside0.mk hri
 have hna:rs.length≤9223372036854775807:=hr.2.1
 have hge:(getF l p).2=0→p≤65536:=fun h=>by have:=getF_err h;omega
 unfold fitsF
 generalize getF l p=G at hg hge ⊢
 obtain ⟨⟨a0,a1,a2,a3,a4,a5,a6,a7⟩,ge⟩:=G
 dsimp only at hg hge ⊢
 clear hr hL hri hl
 by_cases hbad:p≠0∧(ge≠0∨a1≠ep)
 ·rw [if_pos hbad]
  have d1:(p==0)=false:=beq_eq_false_iff_ne.2 hbad.1
  have d1n:(p != 0)=true:=by simp [bne,d1]
  have d1':p≠0:=hbad.1
  have hcs:(ge≠0)∨(ge=0∧a1≠ep):=by by_cases h:ge=0 <;> simp_all
  clear hbad hge
  rcases hcs with e2|⟨e2,e3⟩
  ·have d2:(ge==0)=false:=beq_eq_false_iff_ne.2 e2
   have d2n:(ge != 0)=true:=by simp [bne,d2]
   go_enter Try.func50,Try.ntmps50
   go_wp2_with (first
    | (go_at_call 51;(with_reducible refine hg.mono ?_);rintro e w2 ⟨rfl,hB⟩;clear h0 h1 f0 f1;(have HBR:=Aside0.mk (below_alloc hB (.cells #[.int .i64 a0,.int .i64 a1,.int .i64 a2,.int .i64 a3,.int .i64 a4,.int .i64 a5,.string a6,.string a7] 53)));(have HRC:=Aside0.mk (rc_new w2 a0 a1 a2 a3 a4 a5 a6 a7));obtain ⟨⟨b0,b1,b2,b3,b4,b5,b6,b7⟩,_⟩:=HRC.out.cells;(replace HN:=Aside0.mk (HN.out.below HBR.out));(replace HB:=Aside0.mk (below_from2 HB.out (Nat.le_refl _) HBR.out));obtain ⟨h0,h1,f0,f1⟩:=HN.out.cells;clear hB hg))
   repeat (go_quiet (fail);try go_wp2)
   go_ret
   exact ⟨rfl,below_from2 HB.out (Nat.le_refl _) (Drawn0.below (by repeat (first|exact Drawn0.refl _|apply Drawn0.step)))⟩
  ·have d3:(a1==ep)=false:=beq_eq_false_iff_ne.2 e3
   have d3n:(a1 != ep)=true:=by simp [bne,d3]
   subst e2
   go_enter Try.func50,Try.ntmps50
   go_wp2_with (first
    | (go_at_call 51;(with_reducible refine hg.mono ?_);rintro e w2 ⟨rfl,hB⟩;clear h0 h1 f0 f1;(have HBR:=Aside0.mk (below_alloc hB (.cells #[.int .i64 a0,.int .i64 a1,.int .i64 a2,.int .i64 a3,.int .i64 a4,.int .i64 a5,.string a6,.string a7] 53)));(have HRC:=Aside0.mk (rc_new w2 a0 a1 a2 a3 a4 a5 a6 a7));obtain ⟨⟨b0,b1,b2,b3,b4,b5,b6,b7⟩,_⟩:=HRC.out.cells;(replace HN:=Aside0.mk (HN.out.below HBR.out));(replace HB:=Aside0.mk (below_from2 HB.out (Nat.le_refl _) HBR.out));obtain ⟨h0,h1,f0,f1⟩:=HN.out.cells;clear hB hg))
   repeat (go_quiet (fail);try go_wp2)
   go_ret
   exact ⟨rfl,below_from2 HB.out (Nat.le_refl _) (Drawn0.below (by repeat (first|exact Drawn0.refl _|apply Drawn0.step)))⟩
 ·rw [if_neg hbad]
  have hcs:(p=0)∨(p≠0∧ge=0∧a1=ep):=by by_cases h:p=0 <;> simp_all
  have hp4:p≤1099511627776:=by
   rcases hcs with h|⟨h1,h2,h3⟩
   ·omega
   ·have:=hge h2;omega
  obtain ⟨o,ho⟩:∃ o,chainF ep p rs=o:=⟨_,rfl⟩
  have HO:=Aside0.mk ho
  rw [ho]
  clear hbad hge ho
  have hcs2:Aside0 (p=0∨(p≠0∧ge=0∧a1=ep)):=⟨hcs⟩
  rcases hcs with e1|⟨e1,e2,e3⟩
  ·have d1:(p==0)=true:=by simp [e1]
   have d1n:(p != 0)=false:=by simp [bne,d1]
   clear e1
   clear hcs2
   go_enter Try.func50,Try.ntmps50
   go_wp2_with (first
    | (go_at_call 51;(with_reducible refine hg.mono ?_);rintro e w2 ⟨rfl,hB⟩;clear h0 h1 f0 f1;(have HBR:=Aside0.mk (below_alloc hB (.cells #[.int .i64 a0,.int .i64 a1,.int .i64 a2,.int .i64 a3,.int .i64 a4,.int .i64 a5,.string a6,.string a7] 53)));(have HRC:=Aside0.mk (rc_new w2 a0 a1 a2 a3 a4 a5 a6 a7));obtain ⟨⟨b0,b1,b2,b3,b4,b5,b6,b7⟩,_⟩:=HRC.out.cells;(replace HN:=Aside0.mk (HN.out.below HBR.out));(replace HB:=Aside0.mk (below_from2 HB.out (Nat.le_refl _) HBR.out));obtain ⟨h0,h1,f0,f1⟩:=HN.out.cells;clear hB hg))
   repeat (go_quiet (fail);try go_wp2)
   try go_wp2
   replace HB:=Aside0.mk (below_from2 HB.out (Nat.le_refl _) (Drawn0.below (by repeat (first|exact Drawn0.refl _|apply Drawn0.step))))
   go_loopw [9,10,40] (fun v9 v10 v40 wr=>FitIn w ep p rs v9 v10 v40 wr) (fun _ _ v40 _=>rs.length - (intOf v40).toNat)
   case atStart=>exact ⟨0,p,ep,by omega,rfl,rfl,rfl,⟨hp,hp4⟩,⟨rfl⟩,HB⟩
   case round =>
    clear HB HN b0 b1 b2 b3 b4 b5 b6 b7 h0 h1 f0 f1
    obtain ⟨k,a,e,hk,rfl,rfl,rfl,ha,HE,HB⟩:=hrel
    by_cases hlt:k < rs.length
    ·have hltI:(k:Int) < (rs.length:Int):=by omega
     have hk0:(0:Int)≤(k:Int):=by omega
     obtain ⟨ad,rfl,hx0,hx1,hx2,hx3,hx4,hx5,hx6,hx7⟩:=at_T53 (Kd.C_below HX.out HB.out) (k:Int) hk0 hltI
     rw [Int.toNat_natCast] at hx0 hx1 hx2 hx3 hx4 hx5 hx6 hx7
     have hri:=HR.out _ (rd_rec_mem hlt)
     have hch:=chainF_drop hlt e a
     generalize rd_T53 rs (k:Int)=x at hx0 hx1 hx2 hx3 hx4 hx5 hx6 hx7 hri hch
     obtain ⟨x0,x1,x2,x3,x4,x5,x6,x7⟩:=x
     dsimp only at hx0 hx1 hx2 hx3 hx4 hx5 hx6 hx7 hri hch
     have HBA:=Aside0.mk (below_alloc (Below.refl wr.heap.size wr) (.cells #[.int .i64 x0,.int .i64 x1,.int .i64 x2,.int .i64 x3,.int .i64 x4,.int .i64 x5,.string x6,.string x7] 53))
     replace HB:=Aside0.mk (below_from2 HB.out (Nat.le_refl _) HBA.out)
     have HBX:=Aside0.mk (rc_new wr x0 x1 x2 x3 x4 x5 x6 x7)
     obtain ⟨⟨b0,b1,b2,b3,b4,b5,b6,b7⟩,_⟩:=HBX.out.cells
     have hw:IntKind.i64.wrap (a+1)=a+1:=by rw [IntKind.wrap_i64];omega
     by_cases g1:x0=a+1
     ·have g2:(x0==a+1)=true:=by simp [g1]
      have g2n:(x0 != a+1)=false:=by simp [bne,g2]
      by_cases g3:x1 < e
      ·have g4:decide (x1 < e)=true:=decide_eq_true g3
       rw [if_neg (by omega)] at hch
       have HF:=Aside0.mk (HO.out.symm.trans (HE.out.trans hch))
       clear hch HE HO HBX g1
       go_wp2
       repeat (go_quiet (fail);try go_wp2)
       go_ret
       rw [HF.out]
       exact ⟨rfl,below_from2 HB.out (Nat.le_refl _) (Drawn0.below (by repeat (first|exact Drawn0.refl _|apply Drawn0.step)))⟩
      ·have g4:decide (x1 < e)=false:=decide_eq_false g3
       rw [if_pos ⟨g1,by omega⟩] at hch
       have HF:=Aside0.mk (HE.out.trans hch)
       have HW:=Aside0.mk (show 0≤x0∧x0≤1099511627776 by omega)
       clear hch HE HO HBX g1
       go_wp2
       repeat (go_quiet (fail);try go_wp2)
       go_roundw
       case rel=>exact ⟨k+1,x0,x1,by omega,by go_num,rfl,rfl,HW.out,HF,⟨below_from2 HB.out (Nat.le_refl _) (Drawn0.below (by repeat (first|exact Drawn0.refl _|apply Drawn0.step)))⟩⟩
       case measure=>simp [intOf];omega
     ·have g2:(x0==a+1)=false:=beq_eq_false_iff_ne.2 g1
      have g2n:(x0 != a+1)=true:=by simp [bne,g2]
      rw [if_neg (fun h=>g1 h.1)] at hch
      have HF:=Aside0.mk (HO.out.symm.trans (HE.out.trans hch))
      clear hch HE HO HBX
      go_wp2
      repeat (go_quiet (fail);try go_wp2)
      go_ret
      rw [HF.out]
      exact ⟨rfl,below_from2 HB.out (Nat.le_refl _) (Drawn0.below (by repeat (first|exact Drawn0.refl _|apply Drawn0.step)))⟩
    ·have hge:¬ (k:Int) < (rs.length:Int):=by omega
     have hkl:rs.drop k=[]:=List.drop_eq_nil_of_le (by omega)
     rw [hkl] at HE
     have HF:Aside0 (o=true):=⟨HO.out.symm.trans HE.out⟩
     clear HE hkl HO
     go_wp2
     go_ret
     rw [HF.out]
     exact ⟨rfl,HB.out⟩
  ·have d1:(p==0)=false:=beq_eq_false_iff_ne.2 e1
   have d1n:(p != 0)=true:=by simp [bne,d1]
   have d2:(ge==0)=true:=by simp [e2]
   have d2n:(ge != 0)=false:=by simp [bne,d2]
   have d3:(a1==ep)=true:=by simp [e3]
   have d3n:(a1 != ep)=false:=by simp [bne,d3]
   clear e1 e2 e3
   clear hcs2
   go_enter Try.func50,Try.ntmps50
   go_wp2_with (first
    | (go_at_call 51;(with_reducible refine hg.mono ?_);rintro e w2 ⟨rfl,hB⟩;clear h0 h1 f0 f1;(have HBR:=Aside0.mk (below_alloc hB (.cells #[.int .i64 a0,.int .i64 a1,.int .i64 a2,.int .i64 a3,.int .i64 a4,.int .i64 a5,.string a6,.string a7] 53)));(have HRC:=Aside0.mk (rc_new w2 a0 a1 a2 a3 a4 a5 a6 a7));obtain ⟨⟨b0,b1,b2,b3,b4,b5,b6,b7⟩,_⟩:=HRC.out.cells;(replace HN:=Aside0.mk (HN.out.below HBR.out));(replace HB:=Aside0.mk (below_from2 HB.out (Nat.le_refl _) HBR.out));obtain ⟨h0,h1,f0,f1⟩:=HN.out.cells;clear hB hg))
   repeat (go_quiet (fail);try go_wp2)
   try go_wp2
   replace HB:=Aside0.mk (below_from2 HB.out (Nat.le_refl _) (Drawn0.below (by repeat (first|exact Drawn0.refl _|apply Drawn0.step))))
   go_loopw [9,10,40] (fun v9 v10 v40 wr=>FitIn w ep p rs v9 v10 v40 wr) (fun _ _ v40 _=>rs.length - (intOf v40).toNat)
   case atStart=>exact ⟨0,p,ep,by omega,rfl,rfl,rfl,⟨hp,hp4⟩,⟨rfl⟩,HB⟩
   case round =>
    clear HB HN b0 b1 b2 b3 b4 b5 b6 b7 h0 h1 f0 f1
    obtain ⟨k,a,e,hk,rfl,rfl,rfl,ha,HE,HB⟩:=hrel
    by_cases hlt:k < rs.length
    ·have hltI:(k:Int) < (rs.length:Int):=by omega
     have hk0:(0:Int)≤(k:Int):=by omega
     obtain ⟨ad,rfl,hx0,hx1,hx2,hx3,hx4,hx5,hx6,hx7⟩:=at_T53 (Kd.C_below HX.out HB.out) (k:Int) hk0 hltI
     rw [Int.toNat_natCast] at hx0 hx1 hx2 hx3 hx4 hx5 hx6 hx7
     have hri:=HR.out _ (rd_rec_mem hlt)
     have hch:=chainF_drop hlt e a
     generalize rd_T53 rs (k:Int)=x at hx0 hx1 hx2 hx3 hx4 hx5 hx6 hx7 hri hch
     obtain ⟨x0,x1,x2,x3,x4,x5,x6,x7⟩:=x
     dsimp only at hx0 hx1 hx2 hx3 hx4 hx5 hx6 hx7 hri hch
     have HBA:=Aside0.mk (below_alloc (Below.refl wr.heap.size wr) (.cells #[.int .i64 x0,.int .i64 x1,.int .i64 x2,.int .i64 x3,.int .i64 x4,.int .i64 x5,.string x6,.string x7] 53))
     replace HB:=Aside0.mk (below_from2 HB.out (Nat.le_refl _) HBA.out)
     have HBX:=Aside0.mk (rc_new wr x0 x1 x2 x3 x4 x5 x6 x7)
     obtain ⟨⟨b0,b1,b2,b3,b4,b5,b6,b7⟩,_⟩:=HBX.out.cells
     have hw:IntKind.i64.wrap (a+1)=a+1:=by rw [IntKind.wrap_i64];omega
     by_cases g1:x0=a+1
     ·have g2:(x0==a+1)=true:=by simp [g1]
      have g2n:(x0 != a+1)=false:=by simp [bne,g2]
      by_cases g3:x1 < e
      ·have g4:decide (x1 < e)=true:=decide_eq_true g3
       rw [if_neg (by omega)] at hch
       have HF:=Aside0.mk (HO.out.symm.trans (HE.out.trans hch))
       clear hch HE HO HBX g1
       go_wp2
       repeat (go_quiet (fail);try go_wp2)
       go_ret
       rw [HF.out]
       exact ⟨rfl,below_from2 HB.out (Nat.le_refl _) (Drawn0.below (by repeat (first|exact Drawn0.refl _|apply Drawn0.step)))⟩
      ·have g4:decide (x1 < e)=false:=decide_eq_false g3
       rw [if_pos ⟨g1,by omega⟩] at hch
       have HF:=Aside0.mk (HE.out.trans hch)
       have HW:=Aside0.mk (show 0≤x0∧x0≤1099511627776 by omega)
       clear hch HE HO HBX g1
       go_wp2
       repeat (go_quiet (fail);try go_wp2)
       go_roundw
       case rel=>exact ⟨k+1,x0,x1,by omega,by go_num,rfl,rfl,HW.out,HF,⟨below_from2 HB.out (Nat.le_refl _) (Drawn0.below (by repeat (first|exact Drawn0.refl _|apply Drawn0.step)))⟩⟩
       case measure=>simp [intOf];omega
     ·have g2:(x0==a+1)=false:=beq_eq_false_iff_ne.2 g1
      have g2n:(x0 != a+1)=true:=by simp [bne,g2]
      rw [if_neg (fun h=>g1 h.1)] at hch
      have HF:=Aside0.mk (HO.out.symm.trans (HE.out.trans hch))
      clear hch HE HO HBX
      go_wp2
      repeat (go_quiet (fail);try go_wp2)
      go_ret
      rw [HF.out]
      exact ⟨rfl,below_from2 HB.out (Nat.le_refl _) (Drawn0.below (by repeat (first|exact Drawn0.refl _|apply Drawn0.step)))⟩
    ·have hge:¬ (k:Int) < (rs.length:Int):=by omega
     have hkl:rs.drop k=[]:=List.drop_eq_nil_of_le (by omega)
     rw [hkl] at HE
     have HF:Aside0 (o=true):=⟨HO.out.symm.trans HE.out⟩
     clear HE hkl HO
     go_wp2
     go_ret
     rw [HF.out]
     exact ⟨rfl,HB.out⟩
end Go.Proofs.Ytgjibcfkjaedfaa.Wal


-- A part of the text ShipTakeR, thinned by a program of this session.
namespace Go.Proofs.Ytgjibcfkjaedfaa.Wal
open Go.RowKit Go.Proofs.YtgjibcfkjaedfaaW.PrintWords Go.Proofs.YtgjibcfkjaedfaaW.PrintLast Go.Proofs.YtgjibcfkjaedfaaW.PrintMore Go.Proofs.Ytgjibcfkjaedfaa.Wire Go.Proofs.Ytgjibcfkjaedfaa.Pr Go.Proofs.Ytgjibcfkjaedfaa.Rec
set_option linter.unusedVariables false
set_option linter.unusedSimpArgs false
def TkLog (T:Nat) (w W:World) (ok:Nat→Prop) (g:Nat) (l:List RecS):Prop :=
 ∃ okc:Nat→Prop,LogAt T W okc g l 0∧(∀ k,okc k→k < W.heap.size)∧(∀ k,okc k→ok k∨w.heap.size≤k)∧Chg w W ok
section
variable {T:Nat} {w W W1:World} {ok okc:Nat→Prop} {g:Nat} {l l1:List RecS}
theorem TkLog.first (h:LogAt T w ok g l 0) (hok:∀ k,ok k→k < w.heap.size) (hB:Below w.heap.size w W):TkLog T w W ok g l:=⟨ok,h.below hB,fun k hk=>Nat.lt_of_lt_of_le (hok k hk) hB.size,fun k h=>.inl h,Chg.of_below hB _⟩
theorem TkLog.below (h:TkLog T w W ok g l) (hB:Below W.heap.size W W1):TkLog T w W1 ok g l:=by
 obtain ⟨o,h1,h2,h3,h4⟩:=h
 exact ⟨o,h1.below hB,fun k hk=>Nat.lt_of_lt_of_le (h2 k hk) hB.size,h3,h4.then_below hB⟩
theorem TkLog.chg (h:TkLog T w W ok g l):Chg w W ok:=h.choose_spec.2.2.2
theorem TkLog.step (hc:Chg w W ok) (h3:∀ k,okc k→ok k∨w.heap.size≤k) (hL:LogAt T W1 (fun k=>okc k∨W.heap.size≤k) g l1 0) (hC:Chg W W1 okc):TkLog T w W1 ok g l1:=by
 refine ⟨_,hL.bound,fun k hk=>hk.2,fun k hk=>?_,hc.trans hC h3⟩
 rcases hk.1 with h|h
 ·exact h3 k h
 ·exact .inr (Nat.le_trans hc.size h)
theorem TkLog.last (h:TkLog T w W ok g l):LogAt T W (fun k=>ok k∨w.heap.size≤k) g l 0∧Chg w W ok:=by
 obtain ⟨o,h1,h2,h3,h4⟩:=h
 exact ⟨h1.mono h3,h4⟩
end
theorem takeF_bad {l:List RecS} {ep p:Int} {rs:List RecS} (h:(∃ x ∈ rs,rightV (toV x)=false)∨p < 0):takeF l ep p rs=(l,0,false,90):=by
 have h1:wrongF l ep p rs=90:=by
  unfold wrongF
  rw [if_pos]
  rcases h with ⟨x,hx,hv⟩|h
  ·refine .inl ?_
   rw [List.all_eq_false]
   exact ⟨x,hx,by simp [hv]⟩
  ·exact .inr h
 unfold takeF
 rw [h1]
 rfl
theorem wrongF_fits {l:List RecS} {ep p:Int} {rs:List RecS} (h:allR rs) (hp:0≤p):wrongF l ep p rs=if fitsF l ep p rs=true then 0 else 200:=by
 have h1:rs.all (fun r=>rightV (toV r))=true:=by
  rw [List.all_eq_true]
  exact h
 unfold wrongF fitsF
 rw [if_neg (by rw [h1];simp;omega)]
 split
 ·rfl
 ·rfl
theorem takeF_gap {l:List RecS} {ep p:Int} {rs:List RecS} (h:allR rs) (hp:0≤p) (hf:fitsF l ep p rs=false):takeF l ep p rs=(l,0,false,200):=by
 unfold takeF
 rw [wrongF_fits h hp,hf]
 rfl
theorem takeF_go {l:List RecS} {ep p:Int} {rs:List RecS} (h:allR rs) (hp:0≤p) (hf:fitsF l ep p rs=true):takeF l ep p rs=takeK l false p rs:=by
 unfold takeF
 rw [wrongF_fits h hp,hf]
 rfl
theorem takeK_drop {rs:List RecS} {k:Nat} (hk:k < rs.length) (l:List RecS) (cut:Bool) (last:Int):takeK l cut last (rs.drop k)=if (takeStep l (rd_T53 rs (k:Int))).2.2=0 then takeK (takeStep l (rd_T53 rs (k:Int))).1 (cut || (takeStep l (rd_T53 rs (k:Int))).2.1) (rd_T53 rs (k:Int)).f0 (rs.drop (k+1)) else ((takeStep l (rd_T53 rs (k:Int))).1,0,false,5):=by
 rw [List.drop_eq_getElem_cons hk,rd_get hk]
 rfl
theorem takeStep_a {l:List RecS} {r:RecS} {G:RecS×Int} (h:getF l r.f0=G) (h2:G.2=0) (h3:G.1.f1=r.f1):takeStep l r=(l,false,0):=by
 subst h
 unfold takeStep
 rw [if_pos h2,if_pos h3]
theorem takeStep_b {l:List RecS} {r:RecS} {G:RecS×Int} (h:getF l r.f0=G) (h2:G.2=0) (h3:¬ G.1.f1=r.f1) {q:List RecS×Int×Int} (hq:appF (cutF l 0 (r.f0 - 1)).1 r=q):takeStep l r=(q.1,true,q.2.2):=by
 subst h hq
 unfold takeStep
 rw [if_pos h2,if_neg h3]
theorem takeStep_c {l:List RecS} {r:RecS} {G:RecS×Int} (h:getF l r.f0=G) (h2:¬ G.2=0) {q:List RecS×Int×Int} (hq:appF l r=q):takeStep l r=(q.1,false,q.2.2):=by
 subst h hq
 unfold takeStep
 rw [if_neg h2]
theorem cutF_fl {l:List RecS} {n:Int} (h:0≤n):(cutF l 0 n).2.1=0:=by
 unfold cutF
 split
 ·show min 0 n=0
  omega
 ·rfl
theorem right_lsn {x:RecS} (h:rightV (toV x)=true):1≤x.f0∧x.f0≤1099511627776:=by
 obtain ⟨a0,a1,a2,a3,a4,a5,a6,a7⟩:=x
 have h:rightB a0 a1 a2 a3 a4 a5 a6 a7=true:=h
 unfold rightB at h
 by_cases h1:1≤a0∧a0≤1099511627776
 ·exact h1
 ·simp at h;omega
theorem allR_take {rs:List RecS} {k:Nat} (hk:k < rs.length) (h:allR (rs.take k)) (hx:rightV (toV (rd_T53 rs (k:Int)))=true):allR (rs.take (k+1)):=by
 rw [List.take_succ_eq_append_getElem hk]
 refine allR_snoc h ?_
 rw [rd_get hk] at hx
 exact hx
structure TkS (T:Nat) (w W:World) (ok okc:Nat→Prop) (g r:Nat) (l:List RecS) (x0 x1 x2 x3 x4 x5:Int) (x6 x7:ByteArray):Prop where
 lg:LogAt T W okc g l 0
 ch:Chg w W ok
 rc:RcAt W r x0 x1 x2 x3 x4 x5 x6 x7
 far:∀ k,okc k→k≠r
 own:∀ k,okc k→ok k∨w.heap.size≤k
section
variable {T:Nat} {w W W1:World} {ok okc:Nat→Prop} {g r:Nat} {l l1:List RecS} {x0 x1 x2 x3 x4 x5:Int} {x6 x7:ByteArray}
theorem TkS.below (h:TkS T w W ok okc g r l x0 x1 x2 x3 x4 x5 x6 x7) (hB:Below W.heap.size W W1):TkS T w W1 ok okc g r l x0 x1 x2 x3 x4 x5 x6 x7:=⟨h.lg.below hB,h.ch.then_below hB,h.rc.below hB,h.far,h.own⟩
theorem TkS.cut (h:TkS T w W ok okc g r l x0 x1 x2 x3 x4 x5 x6 x7) (hL:LogAt T W1 (fun k=>okc k∨W.heap.size≤k) g l1 0) (hC:Chg W W1 okc):TkS T w W1 ok (fun k=>okc k∨W.heap.size≤k) g r l1 x0 x1 x2 x3 x4 x5 x6 x7:=by
 refine ⟨hL,h.ch.trans hC h.own,h.rc.chg hC (fun e=>h.far _ e rfl),fun k hk e=>?_,fun k hk=>?_⟩
 ·have hr:=h.rc.lt
  rcases hk with hk|hk
  ·exact h.far k hk e
  ·omega
 ·rcases hk with hk|hk
  ·exact h.own k hk
  ·exact .inr (Nat.le_trans h.ch.size hk)
theorem TkS.app (h:TkS T w W ok okc g r l x0 x1 x2 x3 x4 x5 x6 x7) (hL:LogAt T W1 (fun k=>okc k∨W.heap.size≤k) g l1 0) (hC:Chg W W1 okc):TkLog T w W1 ok g l1:=TkLog.step h.ch h.own hL hC
theorem TkS.log (h:TkS T w W ok okc g r l x0 x1 x2 x3 x4 x5 x6 x7):TkLog T w W ok g l:=⟨_,h.lg.bound,fun k hk=>hk.2,fun k hk=>h.own k hk.1,h.ch⟩
theorem TkS.first (h:TkLog T w W ok g l):∃ okc:Nat→Prop,(∀ k,okc k→k < W.heap.size)∧TkS T w (W.alloc (.cells #[.int .i64 x0,.int .i64 x1,.int .i64 x2,.int .i64 x3,.int .i64 x4,.int .i64 x5,.string x6,.string x7] 53)) ok okc g W.heap.size l x0 x1 x2 x3 x4 x5 x6 x7:=by
 obtain ⟨o,h1,h2,h3,h4⟩:=h
 have hB:=below_alloc (Below.refl W.heap.size W) (.cells #[.int .i64 x0,.int .i64 x1,.int .i64 x2,.int .i64 x3,.int .i64 x4,.int .i64 x5,.string x6,.string x7] 53)
 exact ⟨o,h2,h1.below hB,h4.then_below hB,rc_new _ _ _ _ _ _ _ _ _,fun k hk e=>by have:=h2 k hk;omega,h3⟩
end
def TakIn1 (w:World) (ep p:Int) (rs:List RecS) (v21:Value) (wr:World):Prop :=
 ∃ k:Nat,k≤rs.length∧v21=.int .i64 k∧Aside0 (allR (rs.take k))∧Aside0 (SnAt 24 wr w.heap.size ep p)∧Aside0 (Below w.heap.size w wr)
def TakIn2 (T:Nat) (w:World) (ok:Nat→Prop) (g:Nat) (rs:List RecS) (o:List RecS×Int×Bool×Int) (v11 v12 v41:Value) (wr:World):Prop :=
 ∃ (k:Nat) (l:List RecS) (cut:Bool) (last:Int),k≤rs.length∧v11=.bool cut∧v12=.int .i64 last∧v41=.int .i64 k∧Aside0 (o=takeK l cut last (rs.drop k))∧Aside0 (LogOk l)∧Aside0 (TkLog T w wr ok g l)
set_option maxHeartbeats 16000000 in
set_option maxRecDepth 100000 in
theorem ttake_ok {w:World} {gl:Nat} {l:List RecS} {ok:Nat→Prop} (hL:LogAt 37 w ok gl l 0) (hok:∀ k,ok k→k < w.heap.size) (hlo:LogOk l) (ep p:Int) (A:Option Addr) (c:Nat) (rs:List RecS) (hst:∀ W,Chg w W ok→Kd.C kRec W A rs.length rs) (hv:∀ x ∈ rs,x.f7.size≤140737488351232) :
  Calls Try.prog 16 #[.pointer (some ⟨gl,0,none⟩),.agg #[.int .i64 ep,.int .i64 p],.slice A rs.length c] w fun r w'=>r=.returned (.tuple #[.int .i64 (takeF l ep p rs).2.1,.bool (takeF l ep p rs).2.2.1,.int .i64 (takeF l ep p rs).2.2.2])∧LogAt 37 w' (fun k=>ok k∨w.heap.size≤k) gl (takeF l ep p rs).1 0∧Chg w w' ok:=by
 have HB:=Aside0.mk (below_alloc (Below.refl w.heap.size w) (.cells #[.int .i64 ep,.int .i64 p] 24))
 have HN:=Aside0.mk (show SnAt 24 (w.alloc (.cells #[.int .i64 ep,.int .i64 p] 24)) w.heap.size ep p from blk_newN _ _)
 have HST:=Aside0.mk hst
 have HV:=Aside0.mk hv
 have HL:=Aside0.mk (fun (W:World) (hB:Below w.heap.size w W)=>TkLog.first hL hok hB)
 have HLB:=Aside0.mk (fun (W:World) (hB:Below w.heap.size w W)=>hL.below hB)
 have HLO:=Aside0.mk hlo
 have hna:rs.length≤9223372036854775807:=(hst w (Chg.refl _ _)).2.1
 obtain ⟨o,ho⟩:∃ o,takeF l ep p rs=o:=⟨_,rfl⟩
 have HO:=Aside0.mk ho
 rw [ho]
 clear hL hok hlo hst hv ho
 go_enter Try.func16,Try.ntmps16
 go_wp2
 go_loopw [21] (fun v21 wr=>TakIn1 w ep p rs v21 wr) (fun v21 _=>rs.length - (intOf v21).toNat)
 case atStart=>exact ⟨0,by omega,rfl,⟨fun x hx=>by simp at hx⟩,HN,HB⟩
 case round =>
  clear HN HB
  obtain ⟨k,hk,rfl,HA,HN,HB⟩:=hrel
  by_cases hlt:k < rs.length
  ·have hltI:(k:Int) < (rs.length:Int):=by omega
   have hk0:(0:Int)≤(k:Int):=by omega
   obtain ⟨ad,rfl,hx0,hx1,hx2,hx3,hx4,hx5,hx6,hx7⟩:=at_T53 (HST.out wr (Chg.of_below HB.out _)) (k:Int) hk0 hltI
   rw [Int.toNat_natCast] at hx0 hx1 hx2 hx3 hx4 hx5 hx6 hx7
   have hsz:=HV.out _ (rd_rec_mem hlt)
   have HTK:=Aside0.mk (allR_take hlt HA.out)
   have HMM:=Aside0.mk (rd_rec_mem hlt)
   generalize rd_T53 rs (k:Int)=x at hx0 hx1 hx2 hx3 hx4 hx5 hx6 hx7 hsz HTK HMM
   obtain ⟨x0,x1,x2,x3,x4,x5,x6,x7⟩:=x
   dsimp only at hx0 hx1 hx2 hx3 hx4 hx5 hx6 hx7 hsz
   have hrt:=refright_ok x0 x1 x2 x3 x4 x5 x6 x7 hsz (wr.alloc (.cells #[.int .i64 x0,.int .i64 x1,.int .i64 x2,.int .i64 x3,.int .i64 x4,.int .i64 x5,.string x6,.string x7] 53))
   have HRV:Aside0 (rightB x0 x1 x2 x3 x4 x5 x6 x7=rightV (toV ⟨x0,x1,x2,x3,x4,x5,x6,x7⟩)):=⟨rfl⟩
   generalize rightB x0 x1 x2 x3 x4 x5 x6 x7=v at hrt HRV
   have HBA:=Aside0.mk (below_alloc (Below.refl wr.heap.size wr) (.cells #[.int .i64 x0,.int .i64 x1,.int .i64 x2,.int .i64 x3,.int .i64 x4,.int .i64 x5,.string x6,.string x7] 53))
   have HBX:=Aside0.mk (rc_new wr x0 x1 x2 x3 x4 x5 x6 x7)
   obtain ⟨⟨b0,b1,b2,b3,b4,b5,b6,b7⟩,_⟩:=HBX.out.cells
   clear hsz
   cases v
   ·have HE:Aside0 (o=(l,0,false,90)):=⟨HO.out.symm.trans (takeF_bad (.inl ⟨_,HMM.out,HRV.out.symm⟩))⟩
    clear HRV HTK HMM HA
    go_wp2_with (go_at_call 41;(with_reducible refine hrt.mono ?_);rintro e w2 ⟨rfl,hB⟩;clear b0 b1 b2 b3 b4 b5 b6 b7;(replace HB:=Aside0.mk (below_from2 (below_from2 HB.out (Nat.le_refl _) HBA.out) (Nat.le_refl _) hB));clear hB hrt)
    go_ret3
    rw [HE.out]
    exact ⟨rfl,(HL.out _ HB.out).last⟩
   ·replace HTK:=Aside0.mk (HTK.out HRV.out.symm)
    clear HRV HMM HA
    go_wp2_with (go_at_call 41;(with_reducible refine hrt.mono ?_);rintro e w2 ⟨rfl,hB⟩;clear b0 b1 b2 b3 b4 b5 b6 b7;(replace HN:=Aside0.mk ((HN.out.below HBA.out).below hB));(replace HB:=Aside0.mk (below_from2 (below_from2 HB.out (Nat.le_refl _) HBA.out) (Nat.le_refl _) hB));clear hB hrt)
    go_roundw
    case rel=>exact ⟨k+1,by omega,by go_num,HTK,HN,HB⟩
    case measure=>simp [intOf];omega
  ·have hge:¬ (k:Int) < (rs.length:Int):=by omega
   have hkl:rs.take k=rs:=List.take_of_length_le (by omega)
   rw [hkl] at HA
   obtain ⟨h0,h1,f0,f1⟩:=HN.out.cells
   clear hkl hlt
   by_cases hp:p < 0
   ·have d1:decide (p < 0)=true:=decide_eq_true hp
    have HE:Aside0 (o=(l,0,false,90)):=⟨HO.out.symm.trans (takeF_bad (.inr hp))⟩
    go_wp2
    go_ret3
    rw [HE.out]
    exact ⟨rfl,(HL.out _ HB.out).last⟩
   ·have d1:decide (p < 0)=false:=decide_eq_false hp
    have hp0:0≤p:=by omega
    have hft:=tfits_ok (HLB.out _ HB.out) HLO.out.len ep p A c rs (HST.out wr (Chg.of_below HB.out _)) (fun x hx=>(right_lsn (HA.out x hx)).2) hp0
    have HGO:=Aside0.mk (fun h=>HO.out.symm.trans (takeF_go HA.out hp0 h))
    have HGAP:=Aside0.mk (fun h=>HO.out.symm.trans (takeF_gap HA.out hp0 h))
    generalize fitsF l ep p rs=f at hft HGO HGAP
    cases f
    ·have HE:=Aside0.mk (HGAP.out rfl)
     clear HGO HGAP hp
     go_wp2_with (go_at_call 50;(with_reducible refine hft.mono ?_);rintro e w2 ⟨rfl,hB⟩;(replace HB:=Aside0.mk (below_from2 HB.out (Nat.le_refl _) hB));clear hB hft)
     go_ret3
     rw [HE.out]
     exact ⟨rfl,(HL.out _ HB.out).last⟩
    ·have HE:=Aside0.mk (HGO.out rfl)
     clear HGO HGAP hp
     go_wp2_with (go_at_call 50;(with_reducible refine hft.mono ?_);rintro e w2 ⟨rfl,hB⟩;clear h0 h1 f0 f1;(replace HN:=Aside0.mk (HN.out.below hB));obtain ⟨h0,h1,f0,f1⟩:=HN.out.cells;(replace HB:=Aside0.mk (below_from2 HB.out (Nat.le_refl _) hB));clear hB hft)
     go_loopw [11,12,41] (fun v11 v12 v41 wr=>TakIn2 37 w ok gl rs o v11 v12 v41 wr) (fun _ _ v41 _=>rs.length - (intOf v41).toNat)
     case atStart=>exact ⟨0,l,false,p,by omega,rfl,rfl,rfl,HE,HLO,⟨HL.out _ HB.out⟩⟩
     case round =>
      clear HN HB HL HLO HE h0 h1 f0 f1
      obtain ⟨k,l,cut,last,hk,rfl,rfl,rfl,HE,HLO,HT⟩:=hrel
      by_cases hlt:k < rs.length
      ·have hltI:(k:Int) < (rs.length:Int):=by omega
       have hk0:(0:Int)≤(k:Int):=by omega
       obtain ⟨ad,rfl,hx0,hx1,hx2,hx3,hx4,hx5,hx6,hx7⟩:=at_T53 (HST.out wr HT.out.chg) (k:Int) hk0 hltI
       rw [Int.toNat_natCast] at hx0 hx1 hx2 hx3 hx4 hx5 hx6 hx7
       have hsz:=HV.out _ (rd_rec_mem hlt)
       have hri:=right_lsn (HA.out _ (rd_rec_mem hlt))
       have htk:=takeK_drop hlt l cut last
       generalize rd_T53 rs (k:Int)=x at hx0 hx1 hx2 hx3 hx4 hx5 hx6 hx7 hsz hri htk
       obtain ⟨x0,x1,x2,x3,x4,x5,x6,x7⟩:=x
       dsimp only at hx0 hx1 hx2 hx3 hx4 hx5 hx6 hx7 hsz hri
       obtain ⟨okc,_,hs⟩:=TkS.first (x0:=x0) (x1:=x1) (x2:=x2) (x3:=x3) (x4:=x4) (x5:=x5) (x6:=x6) (x7:=x7) HT.out
       have HS:=Aside0.mk hs
       have hg:=rget_ok HS.out.lg (by have:=HLO.out.len;omega) x0
       obtain ⟨⟨b0,b1,b2,b3,b4,b5,b6,b7⟩,_⟩:=HS.out.rc.cells
       have HRI:=Aside0.mk hri
       obtain ⟨G,hG⟩:∃ G,getF l x0=G:=⟨_,rfl⟩
       rw [hG] at hg
       obtain ⟨⟨y0,y1,y2,y3,y4,y5,y6,y7⟩,ge⟩:=G
       dsimp only at hg
       clear HT hs hri
       by_cases hge:ge=0
       ·have d1:(ge==0)=true:=by simp [hge]
        have d1n:(ge != 0)=false:=by simp [bne,d1]
        by_cases hy:y1=x1
        ·have d2:(y1==x1)=true:=by simp [hy]
         have d2n:(y1 != x1)=false:=by simp [bne,d2]
         have hts:takeStep l ⟨x0,x1,x2,x3,x4,x5,x6,x7⟩=(l,false,0):=takeStep_a hG hge hy
         rw [hts,if_pos rfl,Bool.or_false] at htk
         have HTK:=Aside0.mk (HE.out.trans htk)
         clear HE htk hts hG hge hy hsz
         go_wp2_with (go_at_call 51;(with_reducible refine hg.mono ?_);rintro e w2 ⟨rfl,hB⟩;clear b0 b1 b2 b3 b4 b5 b6 b7;(have HBR:=Aside0.mk (below_alloc hB (.cells #[.int .i64 y0,.int .i64 y1,.int .i64 y2,.int .i64 y3,.int .i64 y4,.int .i64 y5,.string y6,.string y7] 53)));(replace HS:=Aside0.mk (HS.out.below HBR.out));(have HBY:=Aside0.mk (rc_new w2 y0 y1 y2 y3 y4 y5 y6 y7));obtain ⟨⟨b0,b1,b2,b3,b4,b5,b6,b7⟩,_⟩:=HS.out.rc.cells;obtain ⟨⟨c0,c1,c2,c3,c4,c5,c6,c7⟩,_⟩:=HBY.out.cells;clear hB hg)
         repeat (go_quiet (fail);try go_wp2)
         go_roundw
         case rel=>exact ⟨k+1,l,cut,x0,by omega,rfl,rfl,by go_num,HTK,HLO,⟨(HS.out.below (Drawn0.below (by repeat (first|exact Drawn0.refl _|apply Drawn0.step)))).log⟩⟩
         case measure=>simp [intOf];omega
        ·have d2:(y1==x1)=false:=by simp [hy]
         have d2n:(y1 != x1)=true:=by simp [bne,d2]
         obtain ⟨l2,hl2⟩:∃ l2,(cutF l 0 (x0 - 1)).1=l2:=⟨_,rfl⟩
         have HL2:=Aside0.mk hl2
         have HFL:=Aside0.mk (cutF_fl (l:=l) (show 0≤x0 - 1 by have:=HRI.out;omega))
         have HLO2:=HLO.out.cut 0 (x0 - 1)
         rw [hl2] at HLO2
         replace HLO2:=Aside0.mk HLO2
         have hw1:IntKind.i64.wrap (x0 - 1)=x0 - 1:=by have:=HRI.out;rw [IntKind.wrap_i64];omega
         obtain ⟨⟨l3,n3,e3⟩,hq⟩:∃ q,appF l2 ⟨x0,x1,x2,x3,x4,x5,x6,x7⟩=q:=⟨_,rfl⟩
         have HAP:=Aside0.mk (fun (W:World) (o:Nat→Prop) (h:LogAt 37 W o gl l2 0)=>rappend_ok h HLO2.out.len x0 x1 x2 x3 x4 x5 x6 x7 hsz)
         have HLO3:=HLO2.out.app ⟨x0,x1,x2,x3,x4,x5,x6,x7⟩
         rw [hq] at HAP HLO3
         have hts:takeStep l ⟨x0,x1,x2,x3,x4,x5,x6,x7⟩=(l3,true,e3):=takeStep_b (r:=⟨x0,x1,x2,x3,x4,x5,x6,x7⟩) hG hge hy (show appF (cutF l 0 (x0 - 1)).1 ⟨x0,x1,x2,x3,x4,x5,x6,x7⟩=(l3,n3,e3) by rw [hl2];exact hq)
         rw [hts] at htk
         dsimp only at htk HAP HLO3
         replace HLO3:=Aside0.mk HLO3
         have HTK:=Aside0.mk (HE.out.trans htk)
         clear HE htk hts hG hq hsz
         by_cases he3:e3=0
         ·have d3:(e3==0)=true:=by simp [he3]
          have d3n:(e3 != 0)=false:=by simp [bne,d3]
          rw [if_pos he3] at HTK
          clear hge he3 hy
          go_wp2_with (go_at_call 51;(with_reducible refine hg.mono ?_);rintro e w2 ⟨rfl,hB⟩;clear b0 b1 b2 b3 b4 b5 b6 b7;(have HBR:=Aside0.mk (below_alloc hB (.cells #[.int .i64 y0,.int .i64 y1,.int .i64 y2,.int .i64 y3,.int .i64 y4,.int .i64 y5,.string y6,.string y7] 53)));(replace HS:=Aside0.mk (HS.out.below HBR.out));(have HBY:=Aside0.mk (rc_new w2 y0 y1 y2 y3 y4 y5 y6 y7));obtain ⟨⟨b0,b1,b2,b3,b4,b5,b6,b7⟩,_⟩:=HS.out.rc.cells;obtain ⟨⟨c0,c1,c2,c3,c4,c5,c6,c7⟩,_⟩:=HBY.out.cells;clear hB hg)
          try (go_quiet (fail))
          go_wp2_with (first|(go_at_call 43;(with_reducible refine (rcut_ok (HS.out.below (Drawn0.below (by repeat (first|exact Drawn0.refl _|apply Drawn0.step)))).lg HLO.out.len HLO.out.lsn (x0 - 1)).mono ?_);rintro e w3 ⟨rfl,hL,hC⟩;rw [HFL.out,HL2.out] at hL;clear b0 b1 b2 b3 b4 b5 b6 b7;(replace HS:=Aside0.mk ((HS.out.below (Drawn0.below (by repeat (first|exact Drawn0.refl _|apply Drawn0.step)))).cut hL hC));obtain ⟨⟨b0,b1,b2,b3,b4,b5,b6,b7⟩,_⟩:=HS.out.rc.cells;clear hL hC)|(go_at_call 42;(with_reducible refine (HAP.out _ _ (HS.out.below (Drawn0.below (by repeat (first|exact Drawn0.refl _|apply Drawn0.step)))).lg).mono ?_);rintro e w4 ⟨rfl,hL,hC⟩;(have HT:=Aside0.mk ((HS.out.below (Drawn0.below (by repeat (first|exact Drawn0.refl _|apply Drawn0.step)))).app hL hC));clear hL hC))
          go_roundw
          case rel=>exact ⟨k+1,l3,true,x0,by omega,rfl,rfl,by go_num,⟨by rw [HTK.out,Bool.or_true]⟩,HLO3,HT⟩
          case measure=>simp [intOf];omega
         ·have d3:(e3==0)=false:=by simp [he3]
          have d3n:(e3 != 0)=true:=by simp [bne,d3]
          rw [if_neg he3] at HTK
          clear hge he3 hy
          go_wp2_with (go_at_call 51;(with_reducible refine hg.mono ?_);rintro e w2 ⟨rfl,hB⟩;clear b0 b1 b2 b3 b4 b5 b6 b7;(have HBR:=Aside0.mk (below_alloc hB (.cells #[.int .i64 y0,.int .i64 y1,.int .i64 y2,.int .i64 y3,.int .i64 y4,.int .i64 y5,.string y6,.string y7] 53)));(replace HS:=Aside0.mk (HS.out.below HBR.out));(have HBY:=Aside0.mk (rc_new w2 y0 y1 y2 y3 y4 y5 y6 y7));obtain ⟨⟨b0,b1,b2,b3,b4,b5,b6,b7⟩,_⟩:=HS.out.rc.cells;obtain ⟨⟨c0,c1,c2,c3,c4,c5,c6,c7⟩,_⟩:=HBY.out.cells;clear hB hg)
          try (go_quiet (fail))
          go_wp2_with (first|(go_at_call 43;(with_reducible refine (rcut_ok (HS.out.below (Drawn0.below (by repeat (first|exact Drawn0.refl _|apply Drawn0.step)))).lg HLO.out.len HLO.out.lsn (x0 - 1)).mono ?_);rintro e w3 ⟨rfl,hL,hC⟩;rw [HFL.out,HL2.out] at hL;clear b0 b1 b2 b3 b4 b5 b6 b7;(replace HS:=Aside0.mk ((HS.out.below (Drawn0.below (by repeat (first|exact Drawn0.refl _|apply Drawn0.step)))).cut hL hC));obtain ⟨⟨b0,b1,b2,b3,b4,b5,b6,b7⟩,_⟩:=HS.out.rc.cells;clear hL hC)|(go_at_call 42;(with_reducible refine (HAP.out _ _ (HS.out.below (Drawn0.below (by repeat (first|exact Drawn0.refl _|apply Drawn0.step)))).lg).mono ?_);rintro e w4 ⟨rfl,hL,hC⟩;(have HT:=Aside0.mk ((HS.out.below (Drawn0.below (by repeat (first|exact Drawn0.refl _|apply Drawn0.step)))).app hL hC));clear hL hC))
          go_ret3
          rw [HTK.out]
          exact ⟨rfl,HT.out.last⟩
       ·have d1:(ge==0)=false:=by simp [hge]
        have d1n:(ge != 0)=true:=by simp [bne,d1]
        obtain ⟨l2,hl2⟩:∃ l2,l=l2:=⟨_,rfl⟩
        have HLO2:=HLO
        rw [hl2] at HLO2
        have hts0:takeStep l ⟨x0,x1,x2,x3,x4,x5,x6,x7⟩=((appF l2 ⟨x0,x1,x2,x3,x4,x5,x6,x7⟩).1,false,(appF l2 ⟨x0,x1,x2,x3,x4,x5,x6,x7⟩).2.2):=by rw [← hl2];exact takeStep_c hG hge rfl
        rw [hl2] at HS
        obtain ⟨⟨l3,n3,e3⟩,hq⟩:∃ q,appF l2 ⟨x0,x1,x2,x3,x4,x5,x6,x7⟩=q:=⟨_,rfl⟩
        have HAP:=Aside0.mk (fun (W:World) (o:Nat→Prop) (h:LogAt 37 W o gl l2 0)=>rappend_ok h HLO2.out.len x0 x1 x2 x3 x4 x5 x6 x7 hsz)
        have HLO3:=HLO2.out.app ⟨x0,x1,x2,x3,x4,x5,x6,x7⟩
        rw [hq] at HAP HLO3
        have hts:takeStep l ⟨x0,x1,x2,x3,x4,x5,x6,x7⟩=(l3,false,e3):=by rw [hts0,hq]
        rw [hts] at htk
        dsimp only at htk HAP HLO3
        replace HLO3:=Aside0.mk HLO3
        have HTK:=Aside0.mk (HE.out.trans htk)
        clear HE htk hts hG hq hsz
        by_cases he3:e3=0
        ·have d3:(e3==0)=true:=by simp [he3]
         have d3n:(e3 != 0)=false:=by simp [bne,d3]
         rw [if_pos he3] at HTK
         clear hge he3
         go_wp2_with (go_at_call 51;(with_reducible refine hg.mono ?_);rintro e w2 ⟨rfl,hB⟩;clear b0 b1 b2 b3 b4 b5 b6 b7;(have HBR:=Aside0.mk (below_alloc hB (.cells #[.int .i64 y0,.int .i64 y1,.int .i64 y2,.int .i64 y3,.int .i64 y4,.int .i64 y5,.string y6,.string y7] 53)));(replace HS:=Aside0.mk (HS.out.below HBR.out));(have HBY:=Aside0.mk (rc_new w2 y0 y1 y2 y3 y4 y5 y6 y7));obtain ⟨⟨b0,b1,b2,b3,b4,b5,b6,b7⟩,_⟩:=HS.out.rc.cells;obtain ⟨⟨c0,c1,c2,c3,c4,c5,c6,c7⟩,_⟩:=HBY.out.cells;clear hB hg)
         try (go_quiet (fail))
         go_wp2_with (go_at_call 42;(with_reducible refine (HAP.out _ _ (HS.out.below (Drawn0.below (by repeat (first|exact Drawn0.refl _|apply Drawn0.step)))).lg).mono ?_);rintro e w4 ⟨rfl,hL,hC⟩;(have HT:=Aside0.mk ((HS.out.below (Drawn0.below (by repeat (first|exact Drawn0.refl _|apply Drawn0.step)))).app hL hC));clear hL hC)
         go_roundw
         case rel=>exact ⟨k+1,l3,cut,x0,by omega,rfl,rfl,by go_num,⟨by rw [HTK.out,Bool.or_false]⟩,HLO3,HT⟩
         case measure=>simp [intOf];omega
        ·have d3:(e3==0)=false:=by simp [he3]
         have d3n:(e3 != 0)=true:=by simp [bne,d3]
         rw [if_neg he3] at HTK
         clear hge he3
         go_wp2_with (go_at_call 51;(with_reducible refine hg.mono ?_);rintro e w2 ⟨rfl,hB⟩;clear b0 b1 b2 b3 b4 b5 b6 b7;(have HBR:=Aside0.mk (below_alloc hB (.cells #[.int .i64 y0,.int .i64 y1,.int .i64 y2,.int .i64 y3,.int .i64 y4,.int .i64 y5,.string y6,.string y7] 53)));(replace HS:=Aside0.mk (HS.out.below HBR.out));(have HBY:=Aside0.mk (rc_new w2 y0 y1 y2 y3 y4 y5 y6 y7));obtain ⟨⟨b0,b1,b2,b3,b4,b5,b6,b7⟩,_⟩:=HS.out.rc.cells;obtain ⟨⟨c0,c1,c2,c3,c4,c5,c6,c7⟩,_⟩:=HBY.out.cells;clear hB hg)
         try (go_quiet (fail))
         go_wp2_with (go_at_call 42;(with_reducible refine (HAP.out _ _ (HS.out.below (Drawn0.below (by repeat (first|exact Drawn0.refl _|apply Drawn0.step)))).lg).mono ?_);rintro e w4 ⟨rfl,hL,hC⟩;(have HT:=Aside0.mk ((HS.out.below (Drawn0.below (by repeat (first|exact Drawn0.refl _|apply Drawn0.step)))).app hL hC));clear hL hC)
         go_ret3
         rw [HTK.out]
         exact ⟨rfl,HT.out.last⟩
      ·have hge:¬ (k:Int) < (rs.length:Int):=by omega
       have hkl:rs.drop k=[]:=List.drop_eq_nil_of_le (by omega)
       rw [hkl] at HE
       have HE2:Aside0 (o=(l,last,cut,0)):=⟨HE.out⟩
       clear HE hkl
       go_wp2
       go_ret3
       rw [HE2.out]
       exact ⟨rfl,HT.out.last⟩
end Go.Proofs.Ytgjibcfkjaedfaa.Wal


-- A part of the text RngN, thinned by a program of this session.
namespace Go.Proofs.Ytgjibcfkjaedfaa.Wal
open Go.RowKit Go.Shelf
set_option linter.unusedVariables false
def AbN (B:Nat) (J:World→Prop):Prop:=∀ A C row,J A→A.grownBy C row→(∀ r,row=some r→B≤r)→J C
theorem AbN.put {B:Nat} {J:World→Prop} (h:AbN B J) {W:World} {l:Nat} (o:Obj) (hl:B≤l) (hj:J W):J (W.putObj l o) :=
 h W _ (some l) hj (grownBy_putObj' W l o) (fun r e=>by cases e;exact hl)
theorem AbN.new {B:Nat} {J:World→Prop} (h:AbN B J) {W:World} (o:Obj) (hj:J W):J (W.alloc o) :=
 h W _ none hj (World.grownBy_alloc W o none) (fun r e=>by cases e)
def SeqN (F:Fence) (n:Nat) (P:Program) (g:Nat) (lb:Array Value) (encs:Nat→Array Value) (Kp:World→World→Prop) (N:Nat) (w:World):Prop :=
 ∀ (l:Nat) (J Jx:Nat→World→Prop) (W:World),Below w.heap.size w W→(∀ k,AbN W.heap.size (J k))→(∀ k,AbN W.heap.size (Jx k)) →
  (∀ k W1,J k W1→k < N→YieldAt F (n - 1) P l (encs k) W1 fun e W'=>(e=.returned (.bool true)∧J (k+1) W'∧Kp W1 W')∨(e=.returned (.bool false)∧Jx (k+1) W')) →
  J 0 W→CallsIn F n P g (#[.func (.yield l) #[] #[]]++lb) W fun e W'=>(∃ v,e=.returned v)∧(J N W'∨∃ k,k≤N∧Jx k W')
def postN (B:Nat) (Kp:World→World→Prop) (I Ix:World→Prop) (W:World):Exit→Act→World→Prop
 | .normal,_,W'=>KeepsFrom B W W'∧Kp W W'∧I W'
 | .ret,_,W'=>KeepsFrom B W W'∧Ix W'
 | _,_,_=>False
variable {F:Fence} {n:Nat} {P:Program}
def recN (fn:FuncId) (a:Act) (ps:Array Tmp) (assign body:Code) (D:Nat) (st:LoopState) (pe:Option Code):Loop:={ state:=st,pending:=pe,fn,tmps:=a.tmps,params:=ps,assign,body,defers:=D }
theorem wpIn_rangeN {g:Operand} {ps:Array Tmp} {assign body:Code} {Q:Exit→Act→World→Prop} {a:Act} {w:World}
  (hro:F.round=none) (h1:1≤n) {gf:Nat} {lb:Array Value} (hg:a.eval g=.func (.func gf) #[] lb) (hFg:F.fn gf) (eg:∀ args w,(callFunc gf args).run P w=.ok (.enter gf args) w)
  {encs:Nat→Array Value} {Kp:World→World→Prop} {N:Nat} {w0:World} (hseq:SeqN F (n - 1) P gf lb encs Kp N w0)
  (hKt:∀ A B C:World,Kp A B→Kp B C→Kp A C) (hKb:∀ (W:World) (l:Nat) (o o':Obj),w.heap.size≤l→W.heap[l]?=some o→o.isCells=false→Kp W (W.putObj l o')) (hb0:Below w0.heap.size w0 w) (hps:∀ k,(encs k).size=ps.size)
  (I Ix:Nat→World→Prop) (hI:∀ k,AbN w.heap.size (I k)) (hIx:∀ k,AbN w.heap.size (Ix k)) (h0:I 0 w) (a₁:Nat→Act)
  (hassign:∀ (l k:Nat) (W:World) (K:Act→World→Prop),K (a₁ k) W →
   assign.wpIn (F.inRound l) (n - 1 - 1) P (Exit.then K (fun _ _ _=>False)) { tmps:=(ps.zip (encs k)).foldl (fun t (p,v)=>t.setIfInBounds p v) a.tmps,defers:=[] } W)
  (hbody:∀ (l k:Nat) (W:World),I k W→k < N→body.wpIn (F.inRound l) (n - 1 - 1) P (postN w.heap.size Kp (I (k+1)) (Ix (k+1)) W) (a₁ k) W)
  (hdone:∀ (D:Nat) (W:World),w.heap.size≤D→I N W→W.heap[D]?=some (.deferred (some []))→Q .normal { a with defers:={ target:=.collected D,args:=#[] }::a.defers } W)
  (hstop:∀ (D k:Nat) (W:World),w.heap.size≤D→k≤N→Ix k W→W.heap[D]?=some (.deferred (some []))→Code.ret.wpIn F n P Q { a with defers:={ target:=.collected D,args:=#[] }::a.defers } W) :
  (Code.rangeFunc g ps assign body).wpIn F n P Q a w:=by
 refine wpIn_rangeFunc fun fn hfn=>?_
 rw [hro]
 have hD:(w.alloc (.deferred (some []))).heap.size=w.heap.size+1:=World.size_alloc ..
 have hrec:((w.alloc (.deferred (some []))).alloc (.loop (recN fn a ps assign body w.heap.size .ready none))).heap[w.heap.size+1]?=some (.loop (recN fn a ps assign body w.heap.size .ready none)):=by
  have h:=World.alloc_heap_new (w.alloc (.deferred (some []))) (.loop (recN fn a ps assign body w.heap.size .ready none))
  rwa [hD] at h
 have hdef:((w.alloc (.deferred (some []))).alloc (.loop (recN fn a ps assign body w.heap.size .ready none))).heap[w.heap.size]?=some (.deferred (some [])) :=
  (Below.heap_alloc _ _ _ (by rw [hD];omega)).trans (World.alloc_heap_new w _)
 have hsz:((w.alloc (.deferred (some []))).alloc (.loop (recN fn a ps assign body w.heap.size .ready none))).heap.size=w.heap.size+2:=by rw [World.size_alloc,hD]
 have hbel:Below w0.heap.size w0 ((w.alloc (.deferred (some []))).alloc (.loop (recN fn a ps assign body w.heap.size .ready none))) :=
  hb0.trans ((((Below.refl _ w).alloc (Nat.le_refl _) _).alloc (by rw [hD];omega) _).mono hb0.size)
 have hI1:I 0 ((w.alloc (.deferred (some []))).alloc (.loop (recN fn a ps assign body w.heap.size .ready none))):=(hI 0).new _ ((hI 0).new _ h0)
 have henter:(Instr.enterLoop fn a.tmps ps assign body none).run P w=.ok (w.heap.size+1,[{ target:=.collected w.heap.size,args:=#[] }]) ((w.alloc (.deferred (some []))).alloc (.loop (recN fn a ps assign body w.heap.size .ready none))):=run_enterLoop_outer _ _ _ _ _
 generalize (w.alloc (.deferred (some []))).alloc (.loop (recN fn a ps assign body w.heap.size .ready none))=W1 at hrec hdef hsz hbel hI1 henter
 refine ⟨w.heap.size+1,[{ target:=.collected w.heap.size,args:=#[] }],W1,{ target:=.fn (.func gf) lb,args:=#[.func (.yield (w.heap.size+1)) #[] #[]] },W1,gf,
  #[.func (.yield (w.heap.size+1)) #[] #[]]++lb,W1,henter,?_,?_,?_,fun _=>h1,?_⟩
 ·simp only [resolve,hg]
  simp [go_sem]
 ·intro f' hf'
  simp [Target.leads] at hf'
  subst hf'
  exact hFg
 ·simp [invoke,go_sem,eg]
 ·have keep:∀ (J:World→Prop) (o o2:Obj),AbN w.heap.size J→AbN W1.heap.size (fun W=>J W∧W.heap[w.heap.size+1]?=some o∧W.heap[w.heap.size]?=some o2):=by
   rintro J o o2 hJ A C row ⟨hj,hl,hk⟩ hg' hr
   have far:∀ i,i < w.heap.size+2→some i≠row:=fun i hi e=>by have:=hr i e.symm;omega
   exact ⟨hJ A C row hj hg' (fun r e=>by have:=hr r e;omega),(hg'.block _ (Array.getElem?_eq_some_iff.1 hl).1 (far _ (by omega))).trans hl,(hg'.block _ (Array.getElem?_eq_some_iff.1 hk).1 (far _ (by omega))).trans hk⟩
  refine (hseq (w.heap.size+1)
   (fun k W=>I k W∧W.heap[w.heap.size+1]?=some (.loop (recN fn a ps assign body w.heap.size .ready none))∧W.heap[w.heap.size]?=some (.deferred (some [])))
   (fun k W=>Ix k W∧W.heap[w.heap.size+1]?=some (.loop (recN fn a ps assign body w.heap.size .done (some .ret)))∧W.heap[w.heap.size]?=some (.deferred (some [])))
   W1 hbel (fun k=>keep _ _ _ (hI k)) (fun k=>keep _ _ _ (hIx k)) ?_ ⟨hI1,hrec,hdef⟩).mono ?_
  ·rintro k W ⟨hi,hl,hk⟩ hlt
   have hll:w.heap.size+1 < W.heap.size:=(Array.getElem?_eq_some_iff.1 hl).1
   refine ⟨fn,_,assign,body,run_yield (P:=P) (args:=encs k) hl (hps k),roundIn_of_wpIn hfn (hassign _ k W _ ⟨_,run_beginRound hl rfl,?_⟩)⟩
   have hl2:(W.putObj (w.heap.size+1) (.loop (recN fn a ps assign body w.heap.size .busy none))).heap[w.heap.size+1]?=some (.loop (recN fn a ps assign body w.heap.size .busy none)):=World.putObj_heap_same hll
   have hk2:(W.putObj (w.heap.size+1) (.loop (recN fn a ps assign body w.heap.size .busy none))).heap[w.heap.size]?=some (.deferred (some [])):=(World.putObj_heap_other (by omega)).trans hk
   have hw2:Kp W (W.putObj (w.heap.size+1) (.loop (recN fn a ps assign body w.heap.size .busy none))):=hKb _ _ _ _ (by omega) hl rfl
   refine wpIn_mono (hbody _ k (W.putObj (w.heap.size+1) (.loop (recN fn a ps assign body w.heap.size .busy none))) ((hI k).put _ (by omega) hi) hlt) ?_
   rintro e a3 W3 hp
   cases e with
   | normal =>
    obtain ⟨hkf,hkp,hi3⟩:=hp
    have hl3:=hkf.same _ _ (by omega) hl2 rfl
    have hk3:=hkf.same _ _ (by omega) hk2 rfl
    exact ⟨_,_,run_endRound (P:=P) none hl3,.inl ⟨rfl,⟨(hI _).put _ (by omega) hi3,World.putObj_heap_same (Array.getElem?_eq_some_iff.1 hl3).1,(World.putObj_heap_other (by omega)).trans hk3⟩,hKt _ _ _ (hKt _ _ _ hw2 hkp) (hKb _ _ _ _ (by omega) hl3 rfl)⟩⟩
   | ret =>
    obtain ⟨hkf,hi3⟩:=hp
    have hl3:=hkf.same _ _ (by omega) hl2 rfl
    have hk3:=hkf.same _ _ (by omega) hk2 rfl
    exact ⟨_,_,run_endRound (P:=P) (some .ret) hl3,.inr ⟨rfl,(hIx _).put _ (by omega) hi3,World.putObj_heap_same (Array.getElem?_eq_some_iff.1 hl3).1,(World.putObj_heap_other (by omega)).trans hk3⟩⟩
   | exit id=>exact hp.elim
   | goto t=>exact hp.elim
   | panic ch=>exact hp.elim
   | outgrown=>exact hp.elim
  ·rintro e W2 ⟨⟨v,rfl⟩,(⟨hi,hl,hk⟩|⟨k,hkN,hi,hl,hk⟩)⟩
   ·exact ⟨none,_,run_endLoop (P:=P) hl (by simp [recN]),hdone _ _ (Nat.le_refl _) ((hI N).put _ (by omega) hi) ((World.putObj_heap_other (by omega)).trans hk)⟩
   ·exact ⟨some .ret,_,run_endLoop (P:=P) hl (by simp [recN]),hstop _ k _ (Nat.le_refl _) hkN ((hIx k).put _ (by omega) hi) ((World.putObj_heap_other (by omega)).trans hk)⟩
end Go.Proofs.Ytgjibcfkjaedfaa.Wal


-- A part of the text ShipIter, thinned by a program of this session.
namespace Go.Proofs.Ytgjibcfkjaedfaa.Wal
open Go.RowKit Go.Shelf Go.Proofs.YtgjibcfkjaedfaaW.PrintWords Go.Proofs.YtgjibcfkjaedfaaW.PrintLast Go.Proofs.YtgjibcfkjaedfaaW.PrintMore Go.Proofs.Ytgjibcfkjaedfaa.Wire Go.Proofs.Ytgjibcfkjaedfaa.Pr Go.Proofs.Ytgjibcfkjaedfaa.Rec
attribute [local go_sem] Oper.semAt_some
set_option linter.unusedVariables false
set_option linter.unusedSimpArgs false
def atF (ep p:Int) (rs:List RecS):Nat→Int×Int
 | 0=>(ep,p)
 | k+1=>((rd_T53 rs (k:Int)).f1,(rd_T53 rs (k:Int)).f0)
def okF (ep p:Int) (rs:List RecS) (k:Nat):Bool:=decide ((rd_T53 rs (k:Int)).f0=(atF ep p rs k).2+1)&&decide ((atF ep p rs k).1≤(rd_T53 rs (k:Int)).f1)
theorem chain_at (ep p:Int) (rs:List RecS):∀ k,k≤rs.length→(∀ j,j < k→okF ep p rs j=true)→chainF ep p rs=chainF (atF ep p rs k).1 (atF ep p rs k).2 (rs.drop k)
 | 0,_,_=>rfl
 | k+1,hk,h=>by
  rw [chain_at ep p rs k (by omega) (fun j hj=>h j (by omega)),chainF_drop (show k < rs.length by omega)]
  have h1:=h k (by omega)
  unfold okF at h1
  rw [Bool.and_eq_true,decide_eq_true_eq,decide_eq_true_eq] at h1
  rw [if_pos h1]
  rfl
theorem chain_bad {ep p:Int} {rs:List RecS} {k:Nat} (hk:k < rs.length) (h:∀ j,j < k→okF ep p rs j=true) (hb:okF ep p rs k=false):chainF ep p rs=false:=by
 rw [chain_at ep p rs k (by omega) h,chainF_drop hk,if_neg]
 intro h1
 have h2:okF ep p rs k=true:=by unfold okF;rw [Bool.and_eq_true,decide_eq_true_eq,decide_eq_true_eq];exact h1
 rw [h2] at hb
 exact absurd hb (by decide)
theorem chain_all {ep p:Int} {rs:List RecS} (h:∀ j,j < rs.length→okF ep p rs j=true):chainF ep p rs=true:=by
 rw [chain_at ep p rs rs.length (Nat.le_refl _) h]
 exact chainF_end _ _
def KC (n₀ R:Nat) (A B:World):Prop:=Below n₀ A B∧∀ (k:Nat) (o:Obj),A.heap[k]?=some o→o.isCells=true→k≠R→B.heap[k]?=some o
theorem KC.trans {n₀ R:Nat} {A B C:World} (h:KC n₀ R A B) (k:KC n₀ R B C):KC n₀ R A C:=⟨h.1.trans k.1,fun i o hi hc hn=>k.2 i o (h.2 i o hi hc hn) hc hn⟩
theorem AbN.set {B:Nat} {J:World→Prop} (h:AbN B J) {W:World} {b i:Nat} (v:Value) (hb:B≤b) (hj:J W):J (W.setCell ⟨b,i,none⟩ v) :=
 h W _ (some b) hj ⟨rfl,rfl,rfl,(KeepsWalks.setCell W _ v).size,fun k _ hk=>Below.heap_setCell _ _ _ k (fun e=>hk (by rw [e]))⟩ (fun r e=>by cases e;exact hb)
theorem sn_kc {n₀ R g:Nat} {T:Nat} {nx mt:Int} {A B:World} (h:SnAt T A g nx mt) (hk:KC n₀ R A B) (hg:g≠R):SnAt T B g nx mt:=hk.2 g _ h rfl hg
def encF (ep p:Int) (rs:List RecS) (k:Nat):Array Value:=#[.agg #[.int .i64 (rd_T53 rs (k:Int)).f0,.int .i64 (rd_T53 rs (k:Int)).f1,.int .i64 (rd_T53 rs (k:Int)).f2,.int .i64 (rd_T53 rs (k:Int)).f3,.int .i64 (rd_T53 rs (k:Int)).f4,.int .i64 (rd_T53 rs (k:Int)).f5,.string (rd_T53 rs (k:Int)).f6,.string (rd_T53 rs (k:Int)).f7],.bool (okF ep p rs k)]
set_option maxHeartbeats 8000000 in
set_option maxRecDepth 100000 in
theorem fits1_in (F:Fence) (n:Nat) (h8:F.fn 91) (hro:F.round=none) (hn:1≤n) (l Mb Rb n₀ R cap:Nat) (A:Option Addr) (ep p:Int) (rs:List RecS) (J Jx:Nat→World→Prop) (W:World)
  (hJ:∀ k,AbN W.heap.size (J k)) (hJx:∀ k,AbN W.heap.size (Jx k))
  (hY:∀ k W1,J k W1→k < rs.length→YieldAt F (n - 1) Try.prog l (encF ep p rs k) W1 fun e W'=>(e=.returned (.bool true)∧J (k+1) W'∧KC n₀ R W1 W')∨(e=.returned (.bool false)∧Jx (k+1) W'))
  (hM:SnAt 24 W Mb ep p) (hR:W.cell? ⟨Rb,0,none⟩=some (.slice A rs.length cap)) (hC:∀ W',Below n₀ W W'→Kd.C kRec W' A rs.length rs) (hRW:R < W.heap.size) (hn0:n₀≤W.heap.size)
  (hri:∀ x ∈ rs,1≤x.f0∧x.f0≤1099511627776) (hp:0≤p∧p≤1099511627776) (h0:J 0 W) :
  CallsIn F n Try.prog 91 #[.func (.yield l) #[] #[],.pointer (some ⟨Mb,0,none⟩),.pointer (some ⟨Rb,0,none⟩)] W fun e W'=>(∃ v,e=.returned v)∧(J rs.length W'∨∃ k,k≤rs.length∧Jx k W'):=by
 have HC:=Aside0.mk hC
 have HN:=Aside0.mk (show SnAt 24 (W.alloc (.cells #[.int .i64 ep,.int .i64 p] 24)) W.heap.size ep p from blk_newN _ _)
 have HB:=Aside0.mk ((Below.refl n₀ W).alloc hn0 (.cells #[.int .i64 ep,.int .i64 p] 24))
 have hbA:=below_alloc (Below.refl W.heap.size W) (.cells #[.int .i64 ep,.int .i64 p] 24)
 have hR2:=(hbA.cell (p:=⟨Rb,0,none⟩) (World.block_lt_of_cell? W _ hR)).trans hR
 have H0:=Aside0.mk ((hJ 0).new (.cells #[.int .i64 ep,.int .i64 p] 24) h0)
 obtain ⟨m0,m1,_,_⟩:=hM.cells
 have hna:rs.length≤9223372036854775807:=(hC W (Below.refl _ _)).2.1
 have HRI:=Aside0.mk hri
 have HP:=Aside0.mk hp
 have HJ:=Aside0.mk hJ
 have HJX:=Aside0.mk hJx
 have HY:=Aside0.mk hY
 have HRW:=Aside0.mk hRW
 have HN0:=Aside0.mk hn0
 clear hC hM h0 hri hp hJ hJx hY hRW hn0 hbA
 refine callsIn_of_wp Try.func91 rfl h8 ?_ hro
 simp only [Try.ntmps91,List.size_toArray,List.length_cons,List.length_nil,Nat.reduceAdd,Nat.reduceSub,Array.replicate_succ,Array.replicate_zero,List.push_toArray,List.append_toArray,List.nil_append,List.cons_append]
 gi_wp2
 gi_loopw [10] (fun i wr=>∃ k:Nat,k≤rs.length∧i=.int .i64 k∧Aside0 (J k wr)∧Aside0 (SnAt 24 wr W.heap.size (atF ep p rs k).1 (atF ep p rs k).2)∧Aside0 (Below n₀ W wr)∧Aside0 (W.heap.size < wr.heap.size)) (fun i _=>rs.length - (intOf i).toNat)
 case atStart=>exact ⟨0,Nat.zero_le _,rfl,H0,HN,HB,⟨by rw [alloc_size];omega⟩⟩
 case round =>
  clear H0 HN HB m0 m1 hR2
  obtain ⟨k,hk,rfl,HJK,HN,HB,HS⟩:=hrel
  by_cases hlt:k < rs.length
  ·have hltI:(k:Int) < (rs.length:Int):=by omega
   have hk0:(0:Int)≤(k:Int):=by omega
   obtain ⟨ad,rfl,hx0,hx1,hx2,hx3,hx4,hx5,hx6,hx7⟩:=at_T53 (HC.out wr HB.out) (k:Int) hk0 hltI
   rw [Int.toNat_natCast] at hx0 hx1 hx2 hx3 hx4 hx5 hx6 hx7
   have hri:=HRI.out _ (rd_rec_mem hlt)
   have hae:0≤(atF ep p rs k).2∧(atF ep p rs k).2≤1099511627776:=by
    cases k with
    | zero=>exact HP.out
    | succ j =>
     have h:=HRI.out _ (rd_rec_mem (show j < rs.length by omega))
     show 0≤(rd_T53 rs (j:Int)).f0∧(rd_T53 rs (j:Int)).f0≤1099511627776
     omega
   have hnx:atF ep p rs (k+1)=((rd_T53 rs (k:Int)).f1,(rd_T53 rs (k:Int)).f0):=rfl
   have HYK:=Aside0.mk (fun W1 h=>HY.out k W1 h hlt)
   unfold encF okF at HYK
   generalize rd_T53 rs (k:Int)=x at hx0 hx1 hx2 hx3 hx4 hx5 hx6 hx7 hri hnx HYK
   obtain ⟨x0,x1,x2,x3,x4,x5,x6,x7⟩:=x
   obtain ⟨q,hq⟩:∃ q,atF ep p rs k=q:=⟨_,rfl⟩
   rw [hq] at HN hae HYK
   obtain ⟨e,a⟩:=q
   dsimp only at hx0 hx1 hx2 hx3 hx4 hx5 hx6 hx7 hri hnx HYK HN hae
   have HNX:=Aside0.mk hnx
   have HBA:=Aside0.mk (below_alloc (Below.refl wr.heap.size wr) (.cells #[.int .i64 x0,.int .i64 x1,.int .i64 x2,.int .i64 x3,.int .i64 x4,.int .i64 x5,.string x6,.string x7] 53))
   have HBX:=Aside0.mk (rc_new wr x0 x1 x2 x3 x4 x5 x6 x7)
   obtain ⟨⟨b0,b1,b2,b3,b4,b5,b6,b7⟩,_⟩:=HBX.out.cells
   replace HN:=Aside0.mk (HN.out.below HBA.out)
   obtain ⟨m0,m1,mf0,mf1⟩:=HN.out.cells
   replace HB:=Aside0.mk (HB.out.alloc (Nat.le_trans HN0.out HB.out.size) (.cells #[.int .i64 x0,.int .i64 x1,.int .i64 x2,.int .i64 x3,.int .i64 x4,.int .i64 x5,.string x6,.string x7] 53))
   have hw:IntKind.i64.wrap (a+1)=a+1:=by rw [IntKind.wrap_i64];omega
   have HJ1:=Aside0.mk ((HJ.out k).new (.cells #[.int .i64 x0,.int .i64 x1,.int .i64 x2,.int .i64 x3,.int .i64 x4,.int .i64 x5,.string x6,.string x7] 53) HJK.out)
   have HS1:=Aside0.mk (show W.heap.size < (wr.alloc (.cells #[.int .i64 x0,.int .i64 x1,.int .i64 x2,.int .i64 x3,.int .i64 x4,.int .i64 x5,.string x6,.string x7] 53)).heap.size by have:=HS.out;rw [alloc_size];omega)
   clear hnx hq HJK hri hae
   by_cases g1:x0=a+1
   ·have g2:(x0==a+1)=true:=by simp [g1]
    have g1d:decide (x0=a+1)=true:=decide_eq_true g1
    rw [g1d,Bool.true_and] at HYK
    by_cases g3:e≤x1
    ·have g4:decide (x1≥e)=true:=decide_eq_true g3
     have g4d:decide (e≤x1)=true:=decide_eq_true g3
     rw [g4d] at HYK
     clear g1 g1d
     obtain ⟨fn,tmps,assign,body,hy,hR⟩:=HYK.out _ HJ1.out
     gi_wp2
     refine hR.mono ?_
     rintro e' W3 (⟨rfl,hJ3,hk3⟩|⟨rfl,hJx3⟩)
     ·clear b0 b1 b2 b3 b4 b5 b6 b7 m0 m1 mf0 mf1
      have HJ3:=Aside0.mk hJ3
      have hne:W.heap.size≠R:=by have:=HRW.out;omega
      have hne2:wr.heap.size≠R:=by have:=HRW.out;have:=HS.out;omega
      replace HN:=Aside0.mk (sn_kc HN.out hk3 hne)
      have HBX3:Aside0 (RcAt W3 wr.heap.size x0 x1 x2 x3 x4 x5 x6 x7):=⟨hk3.2 _ _ HBX.out rfl hne2⟩
      replace HB:=Aside0.mk (HB.out.trans hk3.1)
      have HSZ:=Aside0.mk (show W.heap.size < W3.heap.size from Nat.lt_of_lt_of_le HS1.out hk3.1.size)
      obtain ⟨⟨b0,b1,b2,b3,b4,b5,b6,b7⟩,_⟩:=HBX3.out.cells
      obtain ⟨m0,m1,mf0,mf1⟩:=HN.out.cells
      clear hJ3 hk3 hne hne2 hR hy
      gi_wp2
      go_roundw
      case rel=>exact ⟨k+1,by omega,by go_num,⟨(HJ.out (k+1)).set _ (Nat.le_refl _) ((HJ.out (k+1)).set _ (Nat.le_refl _) HJ3.out)⟩,⟨by rw [HNX.out];exact (HN.out.put0 x1).put1 x0⟩,⟨(HB.out.setCell (p:=⟨W.heap.size,0,none⟩) HN0.out _).setCell (p:=⟨W.heap.size,1,none⟩) HN0.out _⟩,⟨by rw [World.size_setCell,World.size_setCell];exact HSZ.out⟩⟩
      case measure=>simp [intOf];omega
     ·clear b0 b1 b2 b3 b4 b5 b6 b7 m0 m1 mf0 mf1
      gi_wp2
      refine bodyPost_ret (results_none rfl _ _ _) rfl ?_
      exact ⟨⟨_,rfl⟩,.inr ⟨k+1,by omega,hJx3⟩⟩
    ·have g4:decide (x1≥e)=false:=decide_eq_false g3
     have g4d:decide (e≤x1)=false:=decide_eq_false g3
     rw [g4d] at HYK
     clear g1 g1d
     obtain ⟨fn,tmps,assign,body,hy,hR⟩:=HYK.out _ HJ1.out
     gi_wp2
     refine hR.mono ?_
     rintro e' W3 (⟨rfl,hJ3,hk3⟩|⟨rfl,hJx3⟩)
     ·clear b0 b1 b2 b3 b4 b5 b6 b7 m0 m1 mf0 mf1
      have HJ3:=Aside0.mk hJ3
      have hne:W.heap.size≠R:=by have:=HRW.out;omega
      have hne2:wr.heap.size≠R:=by have:=HRW.out;have:=HS.out;omega
      replace HN:=Aside0.mk (sn_kc HN.out hk3 hne)
      have HBX3:Aside0 (RcAt W3 wr.heap.size x0 x1 x2 x3 x4 x5 x6 x7):=⟨hk3.2 _ _ HBX.out rfl hne2⟩
      replace HB:=Aside0.mk (HB.out.trans hk3.1)
      have HSZ:=Aside0.mk (show W.heap.size < W3.heap.size from Nat.lt_of_lt_of_le HS1.out hk3.1.size)
      obtain ⟨⟨b0,b1,b2,b3,b4,b5,b6,b7⟩,_⟩:=HBX3.out.cells
      obtain ⟨m0,m1,mf0,mf1⟩:=HN.out.cells
      clear hJ3 hk3 hne hne2 hR hy
      gi_wp2
      go_roundw
      case rel=>exact ⟨k+1,by omega,by go_num,⟨(HJ.out (k+1)).set _ (Nat.le_refl _) ((HJ.out (k+1)).set _ (Nat.le_refl _) HJ3.out)⟩,⟨by rw [HNX.out];exact (HN.out.put0 x1).put1 x0⟩,⟨(HB.out.setCell (p:=⟨W.heap.size,0,none⟩) HN0.out _).setCell (p:=⟨W.heap.size,1,none⟩) HN0.out _⟩,⟨by rw [World.size_setCell,World.size_setCell];exact HSZ.out⟩⟩
      case measure=>simp [intOf];omega
     ·clear b0 b1 b2 b3 b4 b5 b6 b7 m0 m1 mf0 mf1
      gi_wp2
      refine bodyPost_ret (results_none rfl _ _ _) rfl ?_
      exact ⟨⟨_,rfl⟩,.inr ⟨k+1,by omega,hJx3⟩⟩
   ·have g2:(x0==a+1)=false:=beq_eq_false_iff_ne.2 g1
    have g1d:decide (x0=a+1)=false:=decide_eq_false g1
    rw [g1d,Bool.false_and] at HYK
    clear g1 g1d
    obtain ⟨fn,tmps,assign,body,hy,hR⟩:=HYK.out _ HJ1.out
    gi_wp2
    refine hR.mono ?_
    rintro e' W3 (⟨rfl,hJ3,hk3⟩|⟨rfl,hJx3⟩)
    ·clear b0 b1 b2 b3 b4 b5 b6 b7 m0 m1 mf0 mf1
     have HJ3:=Aside0.mk hJ3
     have hne:W.heap.size≠R:=by have:=HRW.out;omega
     have hne2:wr.heap.size≠R:=by have:=HRW.out;have:=HS.out;omega
     replace HN:=Aside0.mk (sn_kc HN.out hk3 hne)
     have HBX3:Aside0 (RcAt W3 wr.heap.size x0 x1 x2 x3 x4 x5 x6 x7):=⟨hk3.2 _ _ HBX.out rfl hne2⟩
     replace HB:=Aside0.mk (HB.out.trans hk3.1)
     have HSZ:=Aside0.mk (show W.heap.size < W3.heap.size from Nat.lt_of_lt_of_le HS1.out hk3.1.size)
     obtain ⟨⟨b0,b1,b2,b3,b4,b5,b6,b7⟩,_⟩:=HBX3.out.cells
     obtain ⟨m0,m1,mf0,mf1⟩:=HN.out.cells
     clear hJ3 hk3 hne hne2 hR hy
     gi_wp2
     go_roundw
     case rel=>exact ⟨k+1,by omega,by go_num,⟨(HJ.out (k+1)).set _ (Nat.le_refl _) ((HJ.out (k+1)).set _ (Nat.le_refl _) HJ3.out)⟩,⟨by rw [HNX.out];exact (HN.out.put0 x1).put1 x0⟩,⟨(HB.out.setCell (p:=⟨W.heap.size,0,none⟩) HN0.out _).setCell (p:=⟨W.heap.size,1,none⟩) HN0.out _⟩,⟨by rw [World.size_setCell,World.size_setCell];exact HSZ.out⟩⟩
     case measure=>simp [intOf];omega
    ·clear b0 b1 b2 b3 b4 b5 b6 b7 m0 m1 mf0 mf1
     gi_wp2
     refine bodyPost_ret (results_none rfl _ _ _) rfl ?_
     exact ⟨⟨_,rfl⟩,.inr ⟨k+1,by omega,hJx3⟩⟩
  ·have hge:¬ (k:Int) < (rs.length:Int):=by omega
   obtain rfl:k=rs.length:=by omega
   gi_wp2
   go_end0
   exact ⟨⟨_,rfl⟩,.inl HJK.out⟩
end Go.Proofs.Ytgjibcfkjaedfaa.Wal
