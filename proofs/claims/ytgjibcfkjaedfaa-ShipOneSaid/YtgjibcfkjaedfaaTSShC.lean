-- Parts melded by a program of this session.
import Derived.Test.YtgjibcfkjaedfaaTSShB
namespace Go.Proofs.Ytgjibcfkjaedfaa.Wal
open Go.RowKit Go.Shelf Go.Proofs.YtgjibcfkjaedfaaW.PrintWords Go.Proofs.YtgjibcfkjaedfaaW.PrintLast Go.Proofs.YtgjibcfkjaedfaaW.PrintMore Go.Proofs.Ytgjibcfkjaedfaa.Wire Go.Proofs.Ytgjibcfkjaedfaa.Pr Go.Proofs.Ytgjibcfkjaedfaa.Rec
attribute [local go_sem] Oper.semAt_some
set_option linter.unusedVariables false
set_option linter.unusedSimpArgs false
theorem results_c1 {P:Program} {fn:Func} {p:Tmp} {ty:TypeId} (h:fn.results=#[.cell p ty]) (tmps:Array Value) (w:World) (g:Nat) (v:Value) (d:TypeDesc)
    (hp:tmps.getD p undef=.pointer (some ⟨g,0,none⟩)) (hc:w.cell? ⟨g,0,none⟩=some v)
    (hu:P.underlying ty=some d) (hd:(match d with|.struct _|.array _ _=>true|_=>false)=false) :
    (results fn tmps).run P w=.ok v w:=by
  have hp':tmps[p]?.getD undef=.pointer (some ⟨g,0,none⟩):=by simpa using hp
  have hagg:(isAgg ty).run P w=.ok false w:=by
    unfold isAgg
    rw [Sem.run_bind,run_underlying hu w]
    cases d <;> simp_all
  simp [results,h,hp',asAddr,loadVar,Sem.run_bind,hagg,hc]
def ErAt (w:World) (g:Nat) (v:Int):Prop:=w.heap[g]?=some (.cells #[.int .i64 v] 29 (0,0))
section
variable {w w1:World} {g:Nat} {v:Int} {S:Nat→Prop}
theorem ErAt.cell (h:ErAt w g v):w.cell? ⟨g,0,none⟩=some (.int .i64 v):=by
  unfold ErAt at h
  simp [World.cell?,h]
theorem ErAt.frozen (h:ErAt w g v):w.frozen? ⟨g,0,none⟩=false:=by
  unfold ErAt at h
  simp [World.frozen?,h]
theorem ErAt.chg (h:ErAt w g v) (hc:Chg w w1 S) (hn:¬ S g):ErAt w1 g v:=hc.blk h hn
theorem ErAt.below (h:ErAt w g v) (hB:Below w.heap.size w w1):ErAt w1 g v:=h.chg (Chg.of_below hB (fun _=>False)) (fun h=>h)
theorem ErAt.put (h:ErAt w g v) (x:Int):ErAt (w.setCell ⟨g,0,none⟩ (.int .i64 x)) g x:=blk_set h 0 _
theorem ErAt.lt (h:ErAt w g v):g < w.heap.size:=blk_lt h
end
theorem fits_ok' (A:Option Addr) (len c:Nat) (ep p:Int) (w:World) :
    Calls Try.prog 68 #[.agg #[.int .i64 ep,.int .i64 p],.slice A len c] w fun e w'=>e=.returned (.func (.func 91) #[] #[.pointer (some ⟨w.heap.size,0,none⟩),.pointer (some ⟨w.heap.size+1,0,none⟩)])∧w'=(w.alloc (.cells #[.int .i64 ep,.int .i64 p] 24)).alloc (.cells #[.slice A len c] 22):=by
  go_enter Try.func68,Try.ntmps68
  go_wp2
  go_ret
  exact ⟨by simp,rfl⟩
theorem fits_call (A:Option Addr) (len c:Nat) (ep p:Int) (w:World) :
    Calls Try.prog 68 #[.agg #[.int .i64 ep,.int .i64 p],.slice A len c] w fun e w'=>∃ m,e=.returned (.func (.func 91) #[] #[.pointer (some ⟨m,0,none⟩),.pointer (some ⟨m+1,0,none⟩)])∧SnAt 24 w' m ep p∧w'.cell? ⟨m+1,0,none⟩=some (.slice A len c)∧Below w.heap.size w w':=by
  refine (fits_ok' A len c ep p w).mono ?_
  rintro e w' ⟨rfl,rfl⟩
  have hB:=below_alloc (Below.refl w.heap.size w) (.cells #[.int .i64 ep,.int .i64 p] 24)
  have hB2:=below_alloc (Below.refl (w.alloc (.cells #[.int .i64 ep,.int .i64 p] 24)).heap.size (w.alloc (.cells #[.int .i64 ep,.int .i64 p] 24))) (.cells #[.slice A len c] 22)
  have h:=World.alloc_heap_new (w.alloc (.cells #[.int .i64 ep,.int .i64 p] 24)) (.cells #[.slice A len c] 22)
  rw [alloc_size] at h
  exact ⟨_,rfl,(show SnAt 24 (w.alloc (.cells #[.int .i64 ep,.int .i64 p] 24)) w.heap.size ep p from blk_newN _ _).below hB2,(cell_of_row _ _ 0 _ _ _ h).trans rfl,below_from2 hB (Nat.le_refl _) hB2⟩
theorem seq_fits (n₀ R Mb Rb cap:Nat) (A:Option Addr) (ep p:Int) (rs:List RecS) (W0:World) (hM:SnAt 24 W0 Mb ep p) (hR:W0.cell? ⟨Rb,0,none⟩=some (.slice A rs.length cap)) (hn:n₀≤W0.heap.size) (hRW:R < W0.heap.size)
    (hC:∀ W,Below n₀ W0 W→Kd.C kRec W A rs.length rs) (hri:∀ x ∈ rs,1≤x.f0∧x.f0≤1099511627776) (hp:0≤p∧p≤1099511627776) :
    SeqN Fence.wide 2 Try.prog 91 #[.pointer (some ⟨Mb,0,none⟩),.pointer (some ⟨Rb,0,none⟩)] (encF ep p rs) (KC n₀ R) rs.length W0:=fun l J Jx W hW hJ hJx hY h0 =>
  fits1_in Fence.wide 2 trivial rfl (by omega) l Mb Rb n₀ R cap A ep p rs J Jx W hJ hJx hY (hM.below hW) ((hW.cell (p:=⟨Rb,0,none⟩) (World.block_lt_of_cell? W0 _ hR)).trans hR) (fun W' hB=>hC W' ((hW.mono hn).trans hB)) (Nat.lt_of_lt_of_le hRW hW.size) (Nat.le_trans hn hW.size) hri hp h0
theorem kc_put (n₀ R:Nat) {w:World} (hn:n₀≤w.heap.size) (W:World) (l:Nat) (o o':Obj) (hl:w.heap.size≤l) (h:W.heap[l]?=some o) (hc:o.isCells=false):KC n₀ R W (W.putObj l o'):=by
  refine ⟨(Below.refl n₀ W).grown (grownBy_putObj' W l o') (by have:=(Array.getElem?_eq_some_iff.1 h).1;omega) (fun k e=>by cases e;omega),fun k ob hk hoc hn=>?_⟩
  refine (World.putObj_heap_other (fun e=>?_)).trans hk
  subst e
  rw [hk] at h
  cases h
  rw [hoc] at hc
  exact absurd hc (by decide)
theorem ErAt.abn {g:Nat} {v:Int} {B:Nat} (h:g < B):AbN B (fun W=>ErAt W g v):=fun X C row hs hg hr=>(hg.block g hs.lt (fun e=>by have:=hr g e.symm;omega)).trans hs
theorem below_abn {n₀ B:Nat} {w:World} (h:n₀≤B) (hw:n₀≤w.heap.size):AbN B (fun W=>Below n₀ w W):=fun X C row hs hg hr=>hs.grown hg (Nat.le_trans hw hs.size) (fun k e=>Nat.le_trans h (hr k e))
def WrIn (w:World) (ep p:Int) (rs:List RecS) (v15:Value) (wr:World):Prop :=
  ∃ k:Nat,k≤rs.length∧v15=.int .i64 k∧Aside0 (allR (rs.take k))∧Aside0 (SnAt 24 wr w.heap.size ep p)∧Aside0 (ErAt wr (w.heap.size+1) 0)∧Aside0 (Below w.heap.size w wr)
theorem wrongF_bad {l:List RecS} {ep p:Int} {rs:List RecS} (h:(∃ x ∈ rs,rightV (toV x)=false)∨p < 0):wrongF l ep p rs=90:=by
  unfold wrongF
  rw [if_pos]
  rcases h with ⟨x,hx,hv⟩|h
  · refine .inl ?_
    rw [List.all_eq_false]
    exact ⟨x,hx,by simp [hv]⟩
  · exact .inr h
set_option maxHeartbeats 16000000 in
set_option maxRecDepth 100000 in
theorem wrong_ok {w:World} {gl:Nat} {fl:Int} {l:List RecS} {ok:Nat→Prop} (hL:LogAt 98 w ok gl l fl) (hl:l.length≤65536) (ep p:Int) (A:Option Addr) (c:Nat) (rs:List RecS) (hr:Kd.C kRec w A rs.length rs) (hv:∀ x ∈ rs,x.f7.size≤140737488351232) :
    Calls Try.prog 49 #[.pointer (some ⟨gl,0,none⟩),.agg #[.int .i64 ep,.int .i64 p],.slice A rs.length c] w fun e w'=>e=.returned (.int .i64 (wrongF l ep p rs))∧Below w.heap.size w w':=by
  have hB:=below_alloc (Below.refl w.heap.size w) (.cells #[.int .i64 ep,.int .i64 p] 24)
  have hB2:=below_alloc (Below.refl (w.alloc (.cells #[.int .i64 ep,.int .i64 p] 24)).heap.size (w.alloc (.cells #[.int .i64 ep,.int .i64 p] 24))) (.cells #[.int .i64 0] 29)
  have HN:=Aside0.mk ((show SnAt 24 (w.alloc (.cells #[.int .i64 ep,.int .i64 p] 24)) w.heap.size ep p from blk_newN _ _).below hB2)
  have HE:Aside0 (ErAt ((w.alloc (.cells #[.int .i64 ep,.int .i64 p] 24)).alloc (.cells #[.int .i64 0] 29)) (w.heap.size+1) 0):=⟨by
    have h:=blk_newN (w.alloc (.cells #[.int .i64 ep,.int .i64 p] 24)) (.cells #[.int .i64 0] 29)
    rw [alloc_size] at h
    exact h⟩
  have HB:=Aside0.mk (below_from2 hB (Nat.le_refl _) hB2)
  have HX:=Aside0.mk hr
  have HV:=Aside0.mk hv
  have HL:=Aside0.mk (fun (W:World) (hB:Below w.heap.size w W)=>hL.below hB)
  have HLL:=Aside0.mk hl
  have hna:rs.length≤9223372036854775807:=hr.2.1
  have HLT:=Aside0.mk hL.lt
  obtain ⟨o,ho⟩:∃ o,wrongF l ep p rs=o:=⟨_,rfl⟩
  have HO:=Aside0.mk ho
  rw [ho]
  clear hL hl hr hv ho hB hB2
  refine callsIn_wide.1 (callsIn_of_wp_marks (n:=3) Try.func49 rfl trivial (wpIn_wide.2 ?_) rfl)
  simp only [Try.ntmps49,List.size_toArray,List.length_cons,List.length_nil,Nat.reduceAdd,Nat.reduceSub,Array.replicate_succ,Array.replicate_zero,List.push_toArray,List.append_toArray,List.nil_append,List.cons_append]
  go_wp2
  go_loopw [15] (fun v15 wr=>WrIn w ep p rs v15 wr) (fun v15 _=>rs.length - (intOf v15).toNat)
  case atStart=>exact ⟨0,by omega,rfl,⟨fun x hx=>by simp at hx⟩,HN,HE,HB⟩
  case round =>
    clear HN HE HB
    obtain ⟨k,hk,rfl,HA,HN,HE,HB⟩:=hrel
    obtain ⟨n0,n1,nf0,nf1⟩:=HN.out.cells
    have e0:=HE.out.cell
    have ef:=HE.out.frozen
    by_cases hlt:k < rs.length
    · have hltI:(k:Int) < (rs.length:Int):=by omega
      have hk0:(0:Int)≤(k:Int):=by omega
      obtain ⟨ad,rfl,hx0,hx1,hx2,hx3,hx4,hx5,hx6,hx7⟩:=at_T53 (Kd.C_below HX.out HB.out) (k:Int) hk0 hltI
      rw [Int.toNat_natCast] at hx0 hx1 hx2 hx3 hx4 hx5 hx6 hx7
      have hsz:=HV.out _ (rd_rec_mem hlt)
      have HTK:=Aside0.mk (allR_take hlt HA.out)
      have HMM:=Aside0.mk (rd_rec_mem hlt)
      generalize rd_T53 rs (k:Int)=x at hx0 hx1 hx2 hx3 hx4 hx5 hx6 hx7 hsz HTK HMM
      obtain ⟨x0,x1,x2,x3,x4,x5,x6,x7⟩:=x
      dsimp only at hx0 hx1 hx2 hx3 hx4 hx5 hx6 hx7 hsz
      have hck:=reccheck_ok x0 x1 x2 x3 x4 x5 x6 x7 hsz (wr.alloc (.cells #[.int .i64 x0,.int .i64 x1,.int .i64 x2,.int .i64 x3,.int .i64 x4,.int .i64 x5,.string x6,.string x7] 53))
      have HRV:Aside0 (rightB x0 x1 x2 x3 x4 x5 x6 x7=rightV (toV ⟨x0,x1,x2,x3,x4,x5,x6,x7⟩)):=⟨rfl⟩
      generalize rightB x0 x1 x2 x3 x4 x5 x6 x7=v at hck HRV
      have HBA:=Aside0.mk (below_alloc (Below.refl wr.heap.size wr) (.cells #[.int .i64 x0,.int .i64 x1,.int .i64 x2,.int .i64 x3,.int .i64 x4,.int .i64 x5,.string x6,.string x7] 53))
      have HBX:=Aside0.mk (rc_new wr x0 x1 x2 x3 x4 x5 x6 x7)
      obtain ⟨⟨b0,b1,b2,b3,b4,b5,b6,b7⟩,_⟩:=HBX.out.cells
      clear hsz n0 n1 nf0 nf1 e0 ef
      cases v
      · have HO2:Aside0 (o=90):=⟨HO.out.symm.trans (wrongF_bad (.inl ⟨_,HMM.out,HRV.out.symm⟩))⟩
        rw [if_neg (by decide)] at hck
        clear HRV HTK HMM HA
        go_wp2_with (go_at_call 55;(with_reducible refine hck.mono ?_);rintro e w2 ⟨rfl,hB⟩;clear b0 b1 b2 b3 b4 b5 b6 b7;(replace HE:=Aside0.mk ((HE.out.below HBA.out).below hB));(replace HB:=Aside0.mk (below_from2 (below_from2 HB.out (Nat.le_refl _) HBA.out) (Nat.le_refl _) hB));(have e0:=HE.out.cell);(have ef:=HE.out.frozen);clear hB hck)
        refine ⟨_,results_c1 rfl _ _ (w.heap.size+1) (.int .i64 90) _ rfl (HE.out.put 90).cell Try.underlying29 rfl,by rw [HO2.out],HB.out.setCell (Nat.le_succ _) _⟩
      · replace HTK:=Aside0.mk (HTK.out HRV.out.symm)
        rw [if_pos rfl] at hck
        clear HRV HMM HA
        go_wp2_with (go_at_call 55;(with_reducible refine hck.mono ?_);rintro e w2 ⟨rfl,hB⟩;clear b0 b1 b2 b3 b4 b5 b6 b7;(replace HE:=Aside0.mk ((HE.out.below HBA.out).below hB));(replace HN:=Aside0.mk ((HN.out.below HBA.out).below hB));(replace HB:=Aside0.mk (below_from2 (below_from2 HB.out (Nat.le_refl _) HBA.out) (Nat.le_refl _) hB));clear hB hck)
        go_roundw
        case rel=>exact ⟨k+1,by omega,by go_num,HTK,HN,HE,HB⟩
        case measure=>simp [intOf];omega
    · have hge:¬ (k:Int) < (rs.length:Int):=by omega
      have hkl:rs.take k=rs:=List.take_of_length_le (by omega)
      rw [hkl] at HA
      clear hkl hlt
      by_cases hp:p < 0
      · have d1:decide (p < 0)=true:=decide_eq_true hp
        have HO2:Aside0 (o=90):=⟨HO.out.symm.trans (wrongF_bad (.inr hp))⟩
        go_wp2
        refine ⟨_,results_c1 rfl _ _ (w.heap.size+1) (.int .i64 90) _ rfl (HE.out.put 90).cell Try.underlying29 rfl,by rw [HO2.out],HB.out.setCell (Nat.le_succ _) _⟩
      · have d1:decide (p < 0)=false:=decide_eq_false hp
        have hp0:0≤p:=by omega
        have hg:=get_ok (HL.out _ HB.out) (by have:=HLL.out;omega) p
        have hwf:=wrongF_fits (l:=l) (ep:=ep) (p:=p) HA.out hp0
        have hge2:(getF l p).2=0→p≤65536:=fun h=>by have:=getF_err h;have:=HLL.out;omega
        obtain ⟨G,hG⟩:∃ G,getF l p=G:=⟨_,rfl⟩
        have hfd:fitsF l ep p rs=if p≠0∧(G.2≠0∨G.1.f1≠ep) then false else chainF ep p rs:=by rw [← hG];rfl
        rw [hG] at hg hge2
        obtain ⟨⟨a0,a1,a2,a3,a4,a5,a6,a7⟩,ge⟩:=G
        dsimp only at hg hge2 hfd
        clear hG
        by_cases hbad:p≠0∧(ge≠0∨a1≠ep)
        · rw [if_pos hbad] at hfd
          have HFF:=Aside0.mk hfd
          have d2:decide (p > 0)=true:=decide_eq_true (by omega)
          have d2':p > 0:=by omega
          have hcs:(ge≠0)∨(ge=0∧a1≠ep):=by by_cases h:ge=0 <;> simp_all
          clear hbad hge2 hfd hp
          rcases hcs with g1|⟨g1,g3⟩
          · have d3:(ge==0)=false:=beq_eq_false_iff_ne.2 g1
            have d3n:(ge != 0)=true:=by simp [bne,d3]
            have HO2:Aside0 (o=200):=⟨HO.out.symm.trans (hwf.trans (if_neg (by rw [HFF.out];decide)))⟩
            clear HFF hwf
            go_wp2_with (first
               | (go_at_call 47;(with_reducible refine hg.mono ?_);rintro e w2 ⟨rfl,hB⟩;clear n0 n1 nf0 nf1 e0 ef;(have HBR:=Aside0.mk (below_alloc hB (.cells #[.int .i64 a0,.int .i64 a1,.int .i64 a2,.int .i64 a3,.int .i64 a4,.int .i64 a5,.string a6,.string a7] 53)));(have HRC:=Aside0.mk (rc_new w2 a0 a1 a2 a3 a4 a5 a6 a7));obtain ⟨⟨b0,b1,b2,b3,b4,b5,b6,b7⟩,_⟩:=HRC.out.cells;(replace HN:=Aside0.mk (HN.out.below HBR.out));(replace HE:=Aside0.mk (HE.out.below HBR.out));(replace HB:=Aside0.mk (below_from2 HB.out (Nat.le_refl _) HBR.out));obtain ⟨n0,n1,nf0,nf1⟩:=HN.out.cells;(have e0:=HE.out.cell);(have ef:=HE.out.frozen);clear hB hg))
            repeat (go_quiet (fail);try go_wp2)
            replace HE:=Aside0.mk (HE.out.below (Drawn0.below (by repeat (first|exact Drawn0.refl _|apply Drawn0.step))))
            replace HB:=Aside0.mk (below_from2 HB.out (Nat.le_refl _) (Drawn0.below (by repeat (first|exact Drawn0.refl _|apply Drawn0.step))))
            refine ⟨_,results_c1 rfl _ _ (w.heap.size+1) (.int .i64 200) _ rfl (HE.out.put 200).cell Try.underlying29 rfl,by rw [HO2.out],HB.out.setCell (Nat.le_succ _) _⟩
          · have d3:(ge==0)=true:=by simp [g1]
            have d3n:(ge != 0)=false:=by simp [bne,d3]
            have d4:(a1==ep)=false:=beq_eq_false_iff_ne.2 g3
            have d4n:(a1 != ep)=true:=by simp [bne,d4]
            clear g1 g3
            have HO2:Aside0 (o=200):=⟨HO.out.symm.trans (hwf.trans (if_neg (by rw [HFF.out];decide)))⟩
            clear HFF hwf
            go_wp2_with (first
               | (go_at_call 47;(with_reducible refine hg.mono ?_);rintro e w2 ⟨rfl,hB⟩;clear n0 n1 nf0 nf1 e0 ef;(have HBR:=Aside0.mk (below_alloc hB (.cells #[.int .i64 a0,.int .i64 a1,.int .i64 a2,.int .i64 a3,.int .i64 a4,.int .i64 a5,.string a6,.string a7] 53)));(have HRC:=Aside0.mk (rc_new w2 a0 a1 a2 a3 a4 a5 a6 a7));obtain ⟨⟨b0,b1,b2,b3,b4,b5,b6,b7⟩,_⟩:=HRC.out.cells;(replace HN:=Aside0.mk (HN.out.below HBR.out));(replace HE:=Aside0.mk (HE.out.below HBR.out));(replace HB:=Aside0.mk (below_from2 HB.out (Nat.le_refl _) HBR.out));obtain ⟨n0,n1,nf0,nf1⟩:=HN.out.cells;(have e0:=HE.out.cell);(have ef:=HE.out.frozen);clear hB hg))
            repeat (go_quiet (fail);try go_wp2)
            replace HE:=Aside0.mk (HE.out.below (Drawn0.below (by repeat (first|exact Drawn0.refl _|apply Drawn0.step))))
            replace HB:=Aside0.mk (below_from2 HB.out (Nat.le_refl _) (Drawn0.below (by repeat (first|exact Drawn0.refl _|apply Drawn0.step))))
            refine ⟨_,results_c1 rfl _ _ (w.heap.size+1) (.int .i64 200) _ rfl (HE.out.put 200).cell Try.underlying29 rfl,by rw [HO2.out],HB.out.setCell (Nat.le_succ _) _⟩
        · rw [if_neg hbad] at hfd
          have hcs:(p=0)∨(p≠0∧ge=0∧a1=ep):=by by_cases h:p=0 <;> simp_all
          have hp4:p≤1099511627776:=by
            rcases hcs with h|⟨h1,h2,h3⟩
            · omega
            · have:=hge2 h2;omega
          have HP4:=Aside0.mk (show 0≤p∧p≤1099511627776 from ⟨hp0,hp4⟩)
          rw [hfd] at hwf
          have HWF:=Aside0.mk (HO.out.symm.trans hwf)
          clear hbad hge2 hfd hwf hp hp4
          rcases hcs with g1|⟨g1,g2,g3⟩
          · have d2:decide (p > 0)=false:=decide_eq_false (by omega)
            have d2':¬ p > 0:=by omega
            clear g1
            go_wp2_with (first
               | (go_at_call 47;(with_reducible refine hg.mono ?_);rintro e w2 ⟨rfl,hB⟩;clear n0 n1 nf0 nf1 e0 ef;(have HBR:=Aside0.mk (below_alloc hB (.cells #[.int .i64 a0,.int .i64 a1,.int .i64 a2,.int .i64 a3,.int .i64 a4,.int .i64 a5,.string a6,.string a7] 53)));(have HRC:=Aside0.mk (rc_new w2 a0 a1 a2 a3 a4 a5 a6 a7));obtain ⟨⟨b0,b1,b2,b3,b4,b5,b6,b7⟩,_⟩:=HRC.out.cells;(replace HN:=Aside0.mk (HN.out.below HBR.out));(replace HE:=Aside0.mk (HE.out.below HBR.out));(replace HB:=Aside0.mk (below_from2 HB.out (Nat.le_refl _) HBR.out));obtain ⟨n0,n1,nf0,nf1⟩:=HN.out.cells;(have e0:=HE.out.cell);(have ef:=HE.out.frozen);clear hB hg))
            repeat (go_quiet (fail);try go_wp2)
            refine (fits_call A rs.length c ep p _).mono ?_
            rintro e w3 ⟨m,rfl,hM,hR,hB⟩
            have HM:=Aside0.mk hM
            have HR:=Aside0.mk hR
            replace HE:=Aside0.mk ((HE.out.below (Drawn0.below (by repeat (first|exact Drawn0.refl _|apply Drawn0.step)))).below hB)
            replace HB:=Aside0.mk (below_from2 (below_from2 HB.out (Nat.le_refl _) (Drawn0.below (by repeat (first|exact Drawn0.refl _|apply Drawn0.step)))) (Nat.le_refl _) hB)
            clear hM hR hB n0 n1 nf0 nf1 e0 ef b0 b1 b2 b3 b4 b5 b6 b7
            go_wp2
            have hri:∀ x ∈ rs,1≤x.f0∧x.f0≤1099511627776:=fun x hx=>right_lsn (HA.out x hx)
            have hel:=HE.out.lt
            refine' wpIn_wide.1 (wpIn_rangeN (F:=Fence.wide) (n:=3) rfl (by omega) (gf:=91) (lb:=#[.pointer (some ⟨m,0,none⟩),.pointer (some ⟨m+1,0,none⟩)]) rfl trivial (enters_of Try.func91 (by kernel_rfl) rfl)
              (seq_fits w.heap.size (w.heap.size+1) m (m+1) c A ep p rs w3 HM.out HR.out HB.out.size hel (fun W hB=>Kd.C_below HX.out (HB.out.trans hB)) hri HP4.out)
              (fun _ _ _ h k=>h.trans k) (fun W l o o' hl ho hc=>kc_put w.heap.size (w.heap.size+1) HB.out.size W l o o' hl ho hc) (Below.refl _ _) (fun _=>rfl)
              (fun k W=>ErAt W (w.heap.size+1) 0∧Below w.heap.size w W∧∀ j,j < k→okF ep p rs j=true)
              (fun k W=>ErAt W (w.heap.size+1) 200∧Below w.heap.size w W∧chainF ep p rs=false)
              (fun k X C row hs hg hr=>⟨ErAt.abn hel X C row hs.1 hg hr,below_abn HB.out.size (Nat.le_refl _) X C row hs.2.1 hg hr,hs.2.2⟩)
              (fun k X C row hs hg hr=>⟨ErAt.abn hel X C row hs.1 hg hr,below_abn HB.out.size (Nat.le_refl _) X C row hs.2.1 hg hr,hs.2.2⟩)
              ⟨HE.out,HB.out,fun j hj=>by omega⟩ _ ?assign ?body ?done ?stop)
            case assign =>
              intro l k W K hK
              simp only [encF]
              gi_wp2
              exact hK
            case body =>
              rintro l j W ⟨hE2,hB2,hA2⟩ hj
              generalize hb:okF ep p rs j=b
              have e0:=hE2.cell
              have ef:=hE2.frozen
              have HA2:=Aside0.mk hA2
              have HB2:=Aside0.mk hB2
              have HE2:=Aside0.mk hE2
              have HBB:=Aside0.mk hb
              clear hA2 hB2 hE2 hb
              cases b
              · gi_wp2
                exact ⟨(KeepsOthers.setCell _ _ _).from _,HE2.out.put 200,HB2.out.setCell (Nat.le_succ _) _,chain_bad hj HA2.out HBB.out⟩
              · gi_wp2
                refine ⟨KeepsFrom.refl _ _,⟨Below.refl _ _,fun k o h _ _=>h⟩,HE2.out,HB2.out,fun i hi=>?_⟩
                rcases Nat.lt_or_ge i j with h|h
                · exact HA2.out i h
                · have:i=j:=by omega
                  subst this
                  exact HBB.out
            case done =>
              rintro D W hD ⟨hE2,hB2,hA2⟩ hK
              have e0:=hE2.cell
              have ef:=hE2.frozen
              have HO2:Aside0 (o=0):=⟨HWF.out.trans (if_pos (chain_all hA2))⟩
              have HB2:=Aside0.mk hB2
              have HE2:=Aside0.mk hE2
              have HK:=Aside0.mk hK
              have HDR:=Aside0.mk (show w.heap.size+1 < D by omega)
              clear hA2 hB2 hE2 hK
              go_wp2
              refine ⟨by simp,.inl ⟨_,_,rfl,run_takeDeferred ((Below.heap_setCell _ _ _ D (fun e=>by have:=HDR.out;have e:D=w.heap.size+1:=e;omega)).trans HK.out),?_⟩⟩
              have HE3:ErAt ((W.setCell ⟨w.heap.size+1,0,none⟩ (.int .i64 0)).putObj D (.deferred none)) (w.heap.size+1) 0:=AbN.put (ErAt.abn HDR.out) _ (Nat.le_refl _) (HE2.out.put 0)
              refine ⟨_,results_c1 rfl _ _ (w.heap.size+1) (.int .i64 0) _ rfl HE3.cell Try.underlying29 rfl,by rw [HO2.out],?_⟩
              exact AbN.put (below_abn (B:=D) (by have:=HDR.out;omega) (Nat.le_refl _)) _ (Nat.le_refl _) (HB2.out.setCell (Nat.le_succ _) _)
            case stop =>
              rintro D j W hD hj ⟨hE2,hB2,hc⟩ hK
              have HO2:Aside0 (o=200):=⟨HWF.out.trans (if_neg (by rw [hc];decide))⟩
              have HB2:=Aside0.mk hB2
              have HE2:=Aside0.mk hE2
              have HK:=Aside0.mk hK
              have HDR:=Aside0.mk (show w.heap.size+1 < D by omega)
              clear hc hB2 hE2 hK
              refine wpIn_wide.2 ?_
              go_wp2
              refine ⟨by simp,.inl ⟨_,_,rfl,run_takeDeferred HK.out,?_⟩⟩
              have HE3:ErAt (W.putObj D (.deferred none)) (w.heap.size+1) 200:=AbN.put (ErAt.abn HDR.out) _ (Nat.le_refl _) HE2.out
              refine ⟨_,results_c1 rfl _ _ (w.heap.size+1) (.int .i64 200) _ rfl HE3.cell Try.underlying29 rfl,by rw [HO2.out],?_⟩
              exact AbN.put (below_abn (B:=D) (by have:=HDR.out;omega) (Nat.le_refl _)) _ (Nat.le_refl _) HB2.out
          · have d2:decide (p > 0)=true:=decide_eq_true (by omega)
            have d2':p > 0:=by omega
            have d3:(ge==0)=true:=by simp [g2]
            have d3n:(ge != 0)=false:=by simp [bne,d3]
            have d4:(a1==ep)=true:=by simp [g3]
            have d4n:(a1 != ep)=false:=by simp [bne,d4]
            clear g1 g2 g3
            go_wp2_with (first
               | (go_at_call 47;(with_reducible refine hg.mono ?_);rintro e w2 ⟨rfl,hB⟩;clear n0 n1 nf0 nf1 e0 ef;(have HBR:=Aside0.mk (below_alloc hB (.cells #[.int .i64 a0,.int .i64 a1,.int .i64 a2,.int .i64 a3,.int .i64 a4,.int .i64 a5,.string a6,.string a7] 53)));(have HRC:=Aside0.mk (rc_new w2 a0 a1 a2 a3 a4 a5 a6 a7));obtain ⟨⟨b0,b1,b2,b3,b4,b5,b6,b7⟩,_⟩:=HRC.out.cells;(replace HN:=Aside0.mk (HN.out.below HBR.out));(replace HE:=Aside0.mk (HE.out.below HBR.out));(replace HB:=Aside0.mk (below_from2 HB.out (Nat.le_refl _) HBR.out));obtain ⟨n0,n1,nf0,nf1⟩:=HN.out.cells;(have e0:=HE.out.cell);(have ef:=HE.out.frozen);clear hB hg))
            repeat (go_quiet (fail);try go_wp2)
            refine (fits_call A rs.length c ep p _).mono ?_
            rintro e w3 ⟨m,rfl,hM,hR,hB⟩
            have HM:=Aside0.mk hM
            have HR:=Aside0.mk hR
            replace HE:=Aside0.mk ((HE.out.below (Drawn0.below (by repeat (first|exact Drawn0.refl _|apply Drawn0.step)))).below hB)
            replace HB:=Aside0.mk (below_from2 (below_from2 HB.out (Nat.le_refl _) (Drawn0.below (by repeat (first|exact Drawn0.refl _|apply Drawn0.step)))) (Nat.le_refl _) hB)
            clear hM hR hB n0 n1 nf0 nf1 e0 ef b0 b1 b2 b3 b4 b5 b6 b7
            go_wp2
            have hri:∀ x ∈ rs,1≤x.f0∧x.f0≤1099511627776:=fun x hx=>right_lsn (HA.out x hx)
            have hel:=HE.out.lt
            refine' wpIn_wide.1 (wpIn_rangeN (F:=Fence.wide) (n:=3) rfl (by omega) (gf:=91) (lb:=#[.pointer (some ⟨m,0,none⟩),.pointer (some ⟨m+1,0,none⟩)]) rfl trivial (enters_of Try.func91 (by kernel_rfl) rfl)
              (seq_fits w.heap.size (w.heap.size+1) m (m+1) c A ep p rs w3 HM.out HR.out HB.out.size hel (fun W hB=>Kd.C_below HX.out (HB.out.trans hB)) hri HP4.out)
              (fun _ _ _ h k=>h.trans k) (fun W l o o' hl ho hc=>kc_put w.heap.size (w.heap.size+1) HB.out.size W l o o' hl ho hc) (Below.refl _ _) (fun _=>rfl)
              (fun k W=>ErAt W (w.heap.size+1) 0∧Below w.heap.size w W∧∀ j,j < k→okF ep p rs j=true)
              (fun k W=>ErAt W (w.heap.size+1) 200∧Below w.heap.size w W∧chainF ep p rs=false)
              (fun k X C row hs hg hr=>⟨ErAt.abn hel X C row hs.1 hg hr,below_abn HB.out.size (Nat.le_refl _) X C row hs.2.1 hg hr,hs.2.2⟩)
              (fun k X C row hs hg hr=>⟨ErAt.abn hel X C row hs.1 hg hr,below_abn HB.out.size (Nat.le_refl _) X C row hs.2.1 hg hr,hs.2.2⟩)
              ⟨HE.out,HB.out,fun j hj=>by omega⟩ _ ?assign ?body ?done ?stop)
            case assign =>
              intro l k W K hK
              simp only [encF]
              gi_wp2
              exact hK
            case body =>
              rintro l j W ⟨hE2,hB2,hA2⟩ hj
              generalize hb:okF ep p rs j=b
              have e0:=hE2.cell
              have ef:=hE2.frozen
              have HA2:=Aside0.mk hA2
              have HB2:=Aside0.mk hB2
              have HE2:=Aside0.mk hE2
              have HBB:=Aside0.mk hb
              clear hA2 hB2 hE2 hb
              cases b
              · gi_wp2
                exact ⟨(KeepsOthers.setCell _ _ _).from _,HE2.out.put 200,HB2.out.setCell (Nat.le_succ _) _,chain_bad hj HA2.out HBB.out⟩
              · gi_wp2
                refine ⟨KeepsFrom.refl _ _,⟨Below.refl _ _,fun k o h _ _=>h⟩,HE2.out,HB2.out,fun i hi=>?_⟩
                rcases Nat.lt_or_ge i j with h|h
                · exact HA2.out i h
                · have:i=j:=by omega
                  subst this
                  exact HBB.out
            case done =>
              rintro D W hD ⟨hE2,hB2,hA2⟩ hK
              have e0:=hE2.cell
              have ef:=hE2.frozen
              have HO2:Aside0 (o=0):=⟨HWF.out.trans (if_pos (chain_all hA2))⟩
              have HB2:=Aside0.mk hB2
              have HE2:=Aside0.mk hE2
              have HK:=Aside0.mk hK
              have HDR:=Aside0.mk (show w.heap.size+1 < D by omega)
              clear hA2 hB2 hE2 hK
              go_wp2
              refine ⟨by simp,.inl ⟨_,_,rfl,run_takeDeferred ((Below.heap_setCell _ _ _ D (fun e=>by have:=HDR.out;have e:D=w.heap.size+1:=e;omega)).trans HK.out),?_⟩⟩
              have HE3:ErAt ((W.setCell ⟨w.heap.size+1,0,none⟩ (.int .i64 0)).putObj D (.deferred none)) (w.heap.size+1) 0:=AbN.put (ErAt.abn HDR.out) _ (Nat.le_refl _) (HE2.out.put 0)
              refine ⟨_,results_c1 rfl _ _ (w.heap.size+1) (.int .i64 0) _ rfl HE3.cell Try.underlying29 rfl,by rw [HO2.out],?_⟩
              exact AbN.put (below_abn (B:=D) (by have:=HDR.out;omega) (Nat.le_refl _)) _ (Nat.le_refl _) (HB2.out.setCell (Nat.le_succ _) _)
            case stop =>
              rintro D j W hD hj ⟨hE2,hB2,hc⟩ hK
              have HO2:Aside0 (o=200):=⟨HWF.out.trans (if_neg (by rw [hc];decide))⟩
              have HB2:=Aside0.mk hB2
              have HE2:=Aside0.mk hE2
              have HK:=Aside0.mk hK
              have HDR:=Aside0.mk (show w.heap.size+1 < D by omega)
              clear hc hB2 hE2 hK
              refine wpIn_wide.2 ?_
              go_wp2
              refine ⟨by simp,.inl ⟨_,_,rfl,run_takeDeferred HK.out,?_⟩⟩
              have HE3:ErAt (W.putObj D (.deferred none)) (w.heap.size+1) 200:=AbN.put (ErAt.abn HDR.out) _ (Nat.le_refl _) HE2.out
              refine ⟨_,results_c1 rfl _ _ (w.heap.size+1) (.int .i64 200) _ rfl HE3.cell Try.underlying29 rfl,by rw [HO2.out],?_⟩
              exact AbN.put (below_abn (B:=D) (by have:=HDR.out;omega) (Nat.le_refl _)) _ (Nat.le_refl _) HB2.out
end Go.Proofs.Ytgjibcfkjaedfaa.Wal


-- A part of the text ShipTake, thinned by a program of this session.
namespace Go.Proofs.Ytgjibcfkjaedfaa.Wal
open Go.RowKit Go.Proofs.YtgjibcfkjaedfaaW.PrintWords Go.Proofs.YtgjibcfkjaedfaaW.PrintLast Go.Proofs.YtgjibcfkjaedfaaW.PrintMore Go.Proofs.Ytgjibcfkjaedfaa.Wire Go.Proofs.Ytgjibcfkjaedfaa.Pr Go.Proofs.Ytgjibcfkjaedfaa.Rec
set_option linter.unusedVariables false
set_option linter.unusedSimpArgs false
theorem wrongF_zero {l:List RecS} {ep p:Int} {rs:List RecS} (h:wrongF l ep p rs=0):allR rs:=by
 by_cases h1:rs.all (fun r=>rightV (toV r))=true
 ·rw [List.all_eq_true] at h1
  exact h1
 ·unfold wrongF at h
  rw [if_pos (.inl (by simpa using h1))] at h
  exact absurd h (by decide)
set_option maxHeartbeats 16000000 in
set_option maxRecDepth 100000 in
theorem stake_ok {w:World} {gl:Nat} {l:List RecS} {ok:Nat→Prop} (hL:LogAt 98 w ok gl l 0) (hok:∀ k,ok k→k < w.heap.size) (hlo:LogOk l) (ep p:Int) (A:Option Addr) (c:Nat) (rs:List RecS) (hst:∀ W,Chg w W ok→Kd.C kRec W A rs.length rs) (hv:∀ x ∈ rs,x.f7.size≤140737488351232) :
  Calls Try.prog 15 #[.pointer (some ⟨gl,0,none⟩),.agg #[.int .i64 ep,.int .i64 p],.slice A rs.length c] w fun r w'=>r=.returned (.tuple #[.int .i64 (takeF l ep p rs).2.1,.bool (takeF l ep p rs).2.2.1,.int .i64 (takeF l ep p rs).2.2.2])∧LogAt 98 w' (fun k=>ok k∨w.heap.size≤k) gl (takeF l ep p rs).1 0∧Chg w w' ok:=by
 have HB:=Aside0.mk (below_alloc (Below.refl w.heap.size w) (.cells #[.int .i64 ep,.int .i64 p] 24))
 have HN:=Aside0.mk (show SnAt 24 (w.alloc (.cells #[.int .i64 ep,.int .i64 p] 24)) w.heap.size ep p from blk_newN _ _)
 have hwr:=wrong_ok (hL.below HB.out) hlo.len ep p A c rs (Kd.C_below (hst w (Chg.refl _ _)) HB.out) hv
 have HST:=Aside0.mk hst
 have HV:=Aside0.mk hv
 have HL:=Aside0.mk (fun (W:World) (hB:Below w.heap.size w W)=>TkLog.first hL hok hB)
 have HLO:=Aside0.mk hlo
 have hna:rs.length≤9223372036854775807:=(hst w (Chg.refl _ _)).2.1
 obtain ⟨o,ho⟩:∃ o,takeF l ep p rs=o:=⟨_,rfl⟩
 have HO:=Aside0.mk ho
 have hz:wrongF l ep p rs=0→allR rs:=wrongF_zero
 rw [ho]
 unfold takeF at ho
 obtain ⟨h0,h1,f0,f1⟩:=HN.out.cells
 generalize wrongF l ep p rs=we at hwr ho hz
 clear hL hok hlo hst hv
 by_cases hwe:we=0
 ·have d1:(we==0)=true:=by simp [hwe]
  have d1n:(we != 0)=false:=by simp [bne,d1]
  rw [if_pos hwe] at ho
  have HE:=Aside0.mk ho.symm
  have HA:=Aside0.mk (hz hwe)
  clear hwe ho hz
  go_enter Try.func15,Try.ntmps15
  go_wp2_with (go_at_call 49;(with_reducible refine hwr.mono ?_);rintro e w2 ⟨rfl,hB⟩;clear h0 h1 f0 f1;(replace HN:=Aside0.mk (HN.out.below hB));obtain ⟨h0,h1,f0,f1⟩:=HN.out.cells;(replace HB:=Aside0.mk (below_from2 HB.out (Nat.le_refl _) hB));clear hB hwr)
  go_loopw [10,11,29] (fun v11 v12 v41 wr=>TakIn2 98 w ok gl rs o v11 v12 v41 wr) (fun _ _ v41 _=>rs.length - (intOf v41).toNat)
  case atStart=>exact ⟨0,l,false,p,by omega,rfl,rfl,rfl,HE,HLO,⟨HL.out _ HB.out⟩⟩
  case round =>
   clear HN HB HL HLO HE h0 h1 f0 f1
   obtain ⟨k,l,cut,last,hk,rfl,rfl,rfl,HE,HLO,HT⟩:=hrel
   by_cases hlt:k < rs.length
   ·have hltI:(k:Int) < (rs.length:Int):=by omega
    have hk0:(0:Int)≤(k:Int):=by omega
    obtain ⟨ad,rfl,hx0,hx1,hx2,hx3,hx4,hx5,hx6,hx7⟩:=at_T53 (HST.out wr HT.out.chg) (k:Int) hk0 hltI
    rw [Int.toNat_natCast] at hx0 hx1 hx2 hx3 hx4 hx5 hx6 hx7
    have hsz:=HV.out _ (rd_rec_mem hlt)
    have hri:=right_lsn (HA.out _ (rd_rec_mem hlt))
    have htk:=takeK_drop hlt l cut last
    generalize rd_T53 rs (k:Int)=x at hx0 hx1 hx2 hx3 hx4 hx5 hx6 hx7 hsz hri htk
    obtain ⟨x0,x1,x2,x3,x4,x5,x6,x7⟩:=x
    dsimp only at hx0 hx1 hx2 hx3 hx4 hx5 hx6 hx7 hsz hri
    obtain ⟨okc,hob,hs⟩:=TkS.first (x0:=x0) (x1:=x1) (x2:=x2) (x3:=x3) (x4:=x4) (x5:=x5) (x6:=x6) (x7:=x7) HT.out
    have HS:=Aside0.mk hs
    have hg:=get_ok HS.out.lg (by have:=HLO.out.len;omega) x0
    obtain ⟨⟨b0,b1,b2,b3,b4,b5,b6,b7⟩,_⟩:=HS.out.rc.cells
    have HRI:=Aside0.mk hri
    have HOB:=Aside0.mk hob
    obtain ⟨G,hG⟩:∃ G,getF l x0=G:=⟨_,rfl⟩
    rw [hG] at hg
    obtain ⟨⟨y0,y1,y2,y3,y4,y5,y6,y7⟩,ge⟩:=G
    dsimp only at hg
    clear HT hs hri hob
    by_cases hge:ge=0
    ·have d1:(ge==0)=true:=by simp [hge]
     have d1n:(ge != 0)=false:=by simp [bne,d1]
     by_cases hy:y1=x1
     ·have d2:(y1==x1)=true:=by simp [hy]
      have d2n:(y1 != x1)=false:=by simp [bne,d2]
      have hts:takeStep l ⟨x0,x1,x2,x3,x4,x5,x6,x7⟩=(l,false,0):=takeStep_a hG hge hy
      rw [hts,if_pos rfl,Bool.or_false] at htk
      have HTK:=Aside0.mk (HE.out.trans htk)
      clear HE htk hts hG hge hy hsz
      go_wp2_with (go_at_call 47;(with_reducible refine hg.mono ?_);rintro e w2 ⟨rfl,hB⟩;clear b0 b1 b2 b3 b4 b5 b6 b7;(have HYN:=Aside0.mk (Nat.lt_of_lt_of_le (blk_lt HS.out.rc) hB.size));(have HBR:=Aside0.mk (below_alloc hB (.cells #[.int .i64 y0,.int .i64 y1,.int .i64 y2,.int .i64 y3,.int .i64 y4,.int .i64 y5,.string y6,.string y7] 53)));(replace HS:=Aside0.mk (HS.out.below HBR.out));(have HBY:=Aside0.mk (rc_new w2 y0 y1 y2 y3 y4 y5 y6 y7));obtain ⟨⟨b0,b1,b2,b3,b4,b5,b6,b7⟩,_⟩:=HS.out.rc.cells;obtain ⟨⟨c0,c1,c2,c3,c4,c5,c6,c7⟩,_⟩:=HBY.out.cells;clear hB hg)
      repeat (go_quiet (fail);try go_wp2)
      go_roundw
      case rel=>exact ⟨k+1,l,cut,x0,by omega,rfl,rfl,by go_num,HTK,HLO,⟨(HS.out.below (Drawn0.below (by repeat (first|exact Drawn0.refl _|apply Drawn0.step)))).log⟩⟩
      case measure=>simp [intOf];omega
     ·have d2:(y1==x1)=false:=by simp [hy]
      have d2n:(y1 != x1)=true:=by simp [bne,d2]
      obtain ⟨l2,hl2⟩:∃ l2,(cutF l 0 (x0 - 1)).1=l2:=⟨_,rfl⟩
      have HL2:=Aside0.mk hl2
      have HFL:=Aside0.mk (cutF_fl (l:=l) (show 0≤x0 - 1 by have:=HRI.out;omega))
      have HLO2:=HLO.out.cut 0 (x0 - 1)
      rw [hl2] at HLO2
      replace HLO2:=Aside0.mk HLO2
      have hw1:IntKind.i64.wrap (x0 - 1)=x0 - 1:=by have:=HRI.out;rw [IntKind.wrap_i64];omega
      obtain ⟨⟨l3,n3,e3⟩,hq⟩:∃ q,appF l2 ⟨x0,x1,x2,x3,x4,x5,x6,x7⟩=q:=⟨_,rfl⟩
      have HAP:=Aside0.mk (fun (W:World) (o:Nat→Prop) (h:LogAt 98 W o gl l2 0)=>append_ok h HLO2.out.len x0 x1 x2 x3 x4 x5 x6 x7 hsz)
      have HLO3:=HLO2.out.app ⟨x0,x1,x2,x3,x4,x5,x6,x7⟩
      rw [hq] at HAP HLO3
      have hts:takeStep l ⟨x0,x1,x2,x3,x4,x5,x6,x7⟩=(l3,true,e3):=takeStep_b (r:=⟨x0,x1,x2,x3,x4,x5,x6,x7⟩) hG hge hy (show appF (cutF l 0 (x0 - 1)).1 ⟨x0,x1,x2,x3,x4,x5,x6,x7⟩=(l3,n3,e3) by rw [hl2];exact hq)
      rw [hts] at htk
      dsimp only at htk HAP HLO3
      replace HLO3:=Aside0.mk HLO3
      have HTK:=Aside0.mk (HE.out.trans htk)
      clear HE htk hts hG hq hsz
      by_cases he3:e3=0
      ·have d3:(e3==0)=true:=by simp [he3]
       have d3n:(e3 != 0)=false:=by simp [bne,d3]
       rw [if_pos he3] at HTK
       clear hge he3 hy
       go_wp2_with (go_at_call 47;(with_reducible refine hg.mono ?_);rintro e w2 ⟨rfl,hB⟩;clear b0 b1 b2 b3 b4 b5 b6 b7;(have HYN:=Aside0.mk (Nat.lt_of_lt_of_le (blk_lt HS.out.rc) hB.size));(have HBR:=Aside0.mk (below_alloc hB (.cells #[.int .i64 y0,.int .i64 y1,.int .i64 y2,.int .i64 y3,.int .i64 y4,.int .i64 y5,.string y6,.string y7] 53)));(replace HS:=Aside0.mk (HS.out.below HBR.out));(have HBY:=Aside0.mk (rc_new w2 y0 y1 y2 y3 y4 y5 y6 y7));obtain ⟨⟨b0,b1,b2,b3,b4,b5,b6,b7⟩,_⟩:=HS.out.rc.cells;obtain ⟨⟨c0,c1,c2,c3,c4,c5,c6,c7⟩,_⟩:=HBY.out.cells;clear hB hg)
       try (go_quiet (fail))
       go_wp2_with (first|(go_at_call 40;(with_reducible refine (cut_ok (HS.out.below (Drawn0.below (by repeat (first|exact Drawn0.refl _|apply Drawn0.step)))).lg (by have:=HLO.out.len;omega) (x0 - 1)).mono ?_);rintro e w3 ⟨rfl,hL,hC⟩;rw [HFL.out,HL2.out] at hL;clear b0 b1 b2 b3 b4 b5 b6 b7 c0 c1 c2 c3 c4 c5 c6 c7;(replace HBY:=Aside0.mk ((HBY.out.below (Drawn0.below (by repeat (first|exact Drawn0.refl _|apply Drawn0.step)))).chg hC (fun e=>by have:=HOB.out _ e;have:=HYN.out;omega)));obtain ⟨⟨c0,c1,c2,c3,c4,c5,c6,c7⟩,_⟩:=HBY.out.cells;(replace HS:=Aside0.mk ((HS.out.below (Drawn0.below (by repeat (first|exact Drawn0.refl _|apply Drawn0.step)))).cut hL hC));obtain ⟨⟨b0,b1,b2,b3,b4,b5,b6,b7⟩,_⟩:=HS.out.rc.cells;clear hL hC)|(go_at_call 33;(with_reducible refine (HAP.out _ _ (HS.out.below (Drawn0.below (by repeat (first|exact Drawn0.refl _|apply Drawn0.step)))).lg).mono ?_);rintro e w4 ⟨rfl,hL,hC⟩;clear b0 b1 b2 b3 b4 b5 b6 b7 c0 c1 c2 c3 c4 c5 c6 c7;(replace HS:=Aside0.mk ((HS.out.below (Drawn0.below (by repeat (first|exact Drawn0.refl _|apply Drawn0.step)))).cut hL hC));obtain ⟨⟨b0,b1,b2,b3,b4,b5,b6,b7⟩,_⟩:=HS.out.rc.cells;clear hL hC))
       try (go_quiet (fail))
       try go_wp2_with (first|(go_at_call 40;(with_reducible refine (cut_ok (HS.out.below (Drawn0.below (by repeat (first|exact Drawn0.refl _|apply Drawn0.step)))).lg (by have:=HLO.out.len;omega) (x0 - 1)).mono ?_);rintro e w3 ⟨rfl,hL,hC⟩;rw [HFL.out,HL2.out] at hL;clear b0 b1 b2 b3 b4 b5 b6 b7 c0 c1 c2 c3 c4 c5 c6 c7;(replace HBY:=Aside0.mk ((HBY.out.below (Drawn0.below (by repeat (first|exact Drawn0.refl _|apply Drawn0.step)))).chg hC (fun e=>by have:=HOB.out _ e;have:=HYN.out;omega)));obtain ⟨⟨c0,c1,c2,c3,c4,c5,c6,c7⟩,_⟩:=HBY.out.cells;(replace HS:=Aside0.mk ((HS.out.below (Drawn0.below (by repeat (first|exact Drawn0.refl _|apply Drawn0.step)))).cut hL hC));obtain ⟨⟨b0,b1,b2,b3,b4,b5,b6,b7⟩,_⟩:=HS.out.rc.cells;clear hL hC)|(go_at_call 33;(with_reducible refine (HAP.out _ _ (HS.out.below (Drawn0.below (by repeat (first|exact Drawn0.refl _|apply Drawn0.step)))).lg).mono ?_);rintro e w4 ⟨rfl,hL,hC⟩;clear b0 b1 b2 b3 b4 b5 b6 b7 c0 c1 c2 c3 c4 c5 c6 c7;(replace HS:=Aside0.mk ((HS.out.below (Drawn0.below (by repeat (first|exact Drawn0.refl _|apply Drawn0.step)))).cut hL hC));obtain ⟨⟨b0,b1,b2,b3,b4,b5,b6,b7⟩,_⟩:=HS.out.rc.cells;clear hL hC))
       try (go_quiet (fail);try go_wp2)
       go_roundw
       case rel=>exact ⟨k+1,l3,true,x0,by omega,rfl,rfl,by go_num,⟨by rw [HTK.out,Bool.or_true]⟩,HLO3,⟨(HS.out.below (Drawn0.below (by repeat (first|exact Drawn0.refl _|apply Drawn0.step)))).log⟩⟩
       case measure=>simp [intOf];omega
      ·have d3:(e3==0)=false:=by simp [he3]
       have d3n:(e3 != 0)=true:=by simp [bne,d3]
       rw [if_neg he3] at HTK
       clear hge he3 hy
       go_wp2_with (go_at_call 47;(with_reducible refine hg.mono ?_);rintro e w2 ⟨rfl,hB⟩;clear b0 b1 b2 b3 b4 b5 b6 b7;(have HYN:=Aside0.mk (Nat.lt_of_lt_of_le (blk_lt HS.out.rc) hB.size));(have HBR:=Aside0.mk (below_alloc hB (.cells #[.int .i64 y0,.int .i64 y1,.int .i64 y2,.int .i64 y3,.int .i64 y4,.int .i64 y5,.string y6,.string y7] 53)));(replace HS:=Aside0.mk (HS.out.below HBR.out));(have HBY:=Aside0.mk (rc_new w2 y0 y1 y2 y3 y4 y5 y6 y7));obtain ⟨⟨b0,b1,b2,b3,b4,b5,b6,b7⟩,_⟩:=HS.out.rc.cells;obtain ⟨⟨c0,c1,c2,c3,c4,c5,c6,c7⟩,_⟩:=HBY.out.cells;clear hB hg)
       try (go_quiet (fail))
       go_wp2_with (first|(go_at_call 40;(with_reducible refine (cut_ok (HS.out.below (Drawn0.below (by repeat (first|exact Drawn0.refl _|apply Drawn0.step)))).lg (by have:=HLO.out.len;omega) (x0 - 1)).mono ?_);rintro e w3 ⟨rfl,hL,hC⟩;rw [HFL.out,HL2.out] at hL;clear b0 b1 b2 b3 b4 b5 b6 b7 c0 c1 c2 c3 c4 c5 c6 c7;(replace HBY:=Aside0.mk ((HBY.out.below (Drawn0.below (by repeat (first|exact Drawn0.refl _|apply Drawn0.step)))).chg hC (fun e=>by have:=HOB.out _ e;have:=HYN.out;omega)));obtain ⟨⟨c0,c1,c2,c3,c4,c5,c6,c7⟩,_⟩:=HBY.out.cells;(replace HS:=Aside0.mk ((HS.out.below (Drawn0.below (by repeat (first|exact Drawn0.refl _|apply Drawn0.step)))).cut hL hC));obtain ⟨⟨b0,b1,b2,b3,b4,b5,b6,b7⟩,_⟩:=HS.out.rc.cells;clear hL hC)|(go_at_call 33;(with_reducible refine (HAP.out _ _ (HS.out.below (Drawn0.below (by repeat (first|exact Drawn0.refl _|apply Drawn0.step)))).lg).mono ?_);rintro e w4 ⟨rfl,hL,hC⟩;clear b0 b1 b2 b3 b4 b5 b6 b7 c0 c1 c2 c3 c4 c5 c6 c7;(replace HS:=Aside0.mk ((HS.out.below (Drawn0.below (by repeat (first|exact Drawn0.refl _|apply Drawn0.step)))).cut hL hC));obtain ⟨⟨b0,b1,b2,b3,b4,b5,b6,b7⟩,_⟩:=HS.out.rc.cells;clear hL hC))
       try (go_quiet (fail))
       try go_wp2_with (first|(go_at_call 40;(with_reducible refine (cut_ok (HS.out.below (Drawn0.below (by repeat (first|exact Drawn0.refl _|apply Drawn0.step)))).lg (by have:=HLO.out.len;omega) (x0 - 1)).mono ?_);rintro e w3 ⟨rfl,hL,hC⟩;rw [HFL.out,HL2.out] at hL;clear b0 b1 b2 b3 b4 b5 b6 b7 c0 c1 c2 c3 c4 c5 c6 c7;(replace HBY:=Aside0.mk ((HBY.out.below (Drawn0.below (by repeat (first|exact Drawn0.refl _|apply Drawn0.step)))).chg hC (fun e=>by have:=HOB.out _ e;have:=HYN.out;omega)));obtain ⟨⟨c0,c1,c2,c3,c4,c5,c6,c7⟩,_⟩:=HBY.out.cells;(replace HS:=Aside0.mk ((HS.out.below (Drawn0.below (by repeat (first|exact Drawn0.refl _|apply Drawn0.step)))).cut hL hC));obtain ⟨⟨b0,b1,b2,b3,b4,b5,b6,b7⟩,_⟩:=HS.out.rc.cells;clear hL hC)|(go_at_call 33;(with_reducible refine (HAP.out _ _ (HS.out.below (Drawn0.below (by repeat (first|exact Drawn0.refl _|apply Drawn0.step)))).lg).mono ?_);rintro e w4 ⟨rfl,hL,hC⟩;clear b0 b1 b2 b3 b4 b5 b6 b7 c0 c1 c2 c3 c4 c5 c6 c7;(replace HS:=Aside0.mk ((HS.out.below (Drawn0.below (by repeat (first|exact Drawn0.refl _|apply Drawn0.step)))).cut hL hC));obtain ⟨⟨b0,b1,b2,b3,b4,b5,b6,b7⟩,_⟩:=HS.out.rc.cells;clear hL hC))
       try (go_quiet (fail);try go_wp2)
       go_ret3
       rw [HTK.out]
       exact ⟨rfl,(HS.out.below (Drawn0.below (by repeat (first|exact Drawn0.refl _|apply Drawn0.step)))).log.last⟩
    ·have d1:(ge==0)=false:=by simp [hge]
     have d1n:(ge != 0)=true:=by simp [bne,d1]
     obtain ⟨l2,hl2⟩:∃ l2,l=l2:=⟨_,rfl⟩
     have HLO2:=HLO
     rw [hl2] at HLO2
     have hts0:takeStep l ⟨x0,x1,x2,x3,x4,x5,x6,x7⟩=((appF l2 ⟨x0,x1,x2,x3,x4,x5,x6,x7⟩).1,false,(appF l2 ⟨x0,x1,x2,x3,x4,x5,x6,x7⟩).2.2):=by rw [← hl2];exact takeStep_c hG hge rfl
     rw [hl2] at HS
     obtain ⟨⟨l3,n3,e3⟩,hq⟩:∃ q,appF l2 ⟨x0,x1,x2,x3,x4,x5,x6,x7⟩=q:=⟨_,rfl⟩
     have HAP:=Aside0.mk (fun (W:World) (o:Nat→Prop) (h:LogAt 98 W o gl l2 0)=>append_ok h HLO2.out.len x0 x1 x2 x3 x4 x5 x6 x7 hsz)
     have HLO3:=HLO2.out.app ⟨x0,x1,x2,x3,x4,x5,x6,x7⟩
     rw [hq] at HAP HLO3
     have hts:takeStep l ⟨x0,x1,x2,x3,x4,x5,x6,x7⟩=(l3,false,e3):=by rw [hts0,hq]
     rw [hts] at htk
     dsimp only at htk HAP HLO3
     replace HLO3:=Aside0.mk HLO3
     have HTK:=Aside0.mk (HE.out.trans htk)
     clear HE htk hts hG hq hsz
     by_cases he3:e3=0
     ·have d3:(e3==0)=true:=by simp [he3]
      have d3n:(e3 != 0)=false:=by simp [bne,d3]
      rw [if_pos he3] at HTK
      clear hge he3
      go_wp2_with (go_at_call 47;(with_reducible refine hg.mono ?_);rintro e w2 ⟨rfl,hB⟩;clear b0 b1 b2 b3 b4 b5 b6 b7;(have HYN:=Aside0.mk (Nat.lt_of_lt_of_le (blk_lt HS.out.rc) hB.size));(have HBR:=Aside0.mk (below_alloc hB (.cells #[.int .i64 y0,.int .i64 y1,.int .i64 y2,.int .i64 y3,.int .i64 y4,.int .i64 y5,.string y6,.string y7] 53)));(replace HS:=Aside0.mk (HS.out.below HBR.out));(have HBY:=Aside0.mk (rc_new w2 y0 y1 y2 y3 y4 y5 y6 y7));obtain ⟨⟨b0,b1,b2,b3,b4,b5,b6,b7⟩,_⟩:=HS.out.rc.cells;obtain ⟨⟨c0,c1,c2,c3,c4,c5,c6,c7⟩,_⟩:=HBY.out.cells;clear hB hg)
      try (go_quiet (fail))
      go_wp2_with (go_at_call 33;(with_reducible refine (HAP.out _ _ (HS.out.below (Drawn0.below (by repeat (first|exact Drawn0.refl _|apply Drawn0.step)))).lg).mono ?_);rintro e w4 ⟨rfl,hL,hC⟩;clear b0 b1 b2 b3 b4 b5 b6 b7 c0 c1 c2 c3 c4 c5 c6 c7;(replace HS:=Aside0.mk ((HS.out.below (Drawn0.below (by repeat (first|exact Drawn0.refl _|apply Drawn0.step)))).cut hL hC));obtain ⟨⟨b0,b1,b2,b3,b4,b5,b6,b7⟩,_⟩:=HS.out.rc.cells;clear hL hC)
      try (go_quiet (fail))
      try go_wp2_with (go_at_call 33;(with_reducible refine (HAP.out _ _ (HS.out.below (Drawn0.below (by repeat (first|exact Drawn0.refl _|apply Drawn0.step)))).lg).mono ?_);rintro e w4 ⟨rfl,hL,hC⟩;clear b0 b1 b2 b3 b4 b5 b6 b7 c0 c1 c2 c3 c4 c5 c6 c7;(replace HS:=Aside0.mk ((HS.out.below (Drawn0.below (by repeat (first|exact Drawn0.refl _|apply Drawn0.step)))).cut hL hC));obtain ⟨⟨b0,b1,b2,b3,b4,b5,b6,b7⟩,_⟩:=HS.out.rc.cells;clear hL hC)
      try (go_quiet (fail);try go_wp2)
      go_roundw
      case rel=>exact ⟨k+1,l3,cut,x0,by omega,rfl,rfl,by go_num,⟨by rw [HTK.out,Bool.or_false]⟩,HLO3,⟨(HS.out.below (Drawn0.below (by repeat (first|exact Drawn0.refl _|apply Drawn0.step)))).log⟩⟩
      case measure=>simp [intOf];omega
     ·have d3:(e3==0)=false:=by simp [he3]
      have d3n:(e3 != 0)=true:=by simp [bne,d3]
      rw [if_neg he3] at HTK
      clear hge he3
      go_wp2_with (go_at_call 47;(with_reducible refine hg.mono ?_);rintro e w2 ⟨rfl,hB⟩;clear b0 b1 b2 b3 b4 b5 b6 b7;(have HYN:=Aside0.mk (Nat.lt_of_lt_of_le (blk_lt HS.out.rc) hB.size));(have HBR:=Aside0.mk (below_alloc hB (.cells #[.int .i64 y0,.int .i64 y1,.int .i64 y2,.int .i64 y3,.int .i64 y4,.int .i64 y5,.string y6,.string y7] 53)));(replace HS:=Aside0.mk (HS.out.below HBR.out));(have HBY:=Aside0.mk (rc_new w2 y0 y1 y2 y3 y4 y5 y6 y7));obtain ⟨⟨b0,b1,b2,b3,b4,b5,b6,b7⟩,_⟩:=HS.out.rc.cells;obtain ⟨⟨c0,c1,c2,c3,c4,c5,c6,c7⟩,_⟩:=HBY.out.cells;clear hB hg)
      try (go_quiet (fail))
      go_wp2_with (go_at_call 33;(with_reducible refine (HAP.out _ _ (HS.out.below (Drawn0.below (by repeat (first|exact Drawn0.refl _|apply Drawn0.step)))).lg).mono ?_);rintro e w4 ⟨rfl,hL,hC⟩;clear b0 b1 b2 b3 b4 b5 b6 b7 c0 c1 c2 c3 c4 c5 c6 c7;(replace HS:=Aside0.mk ((HS.out.below (Drawn0.below (by repeat (first|exact Drawn0.refl _|apply Drawn0.step)))).cut hL hC));obtain ⟨⟨b0,b1,b2,b3,b4,b5,b6,b7⟩,_⟩:=HS.out.rc.cells;clear hL hC)
      try (go_quiet (fail))
      try go_wp2_with (go_at_call 33;(with_reducible refine (HAP.out _ _ (HS.out.below (Drawn0.below (by repeat (first|exact Drawn0.refl _|apply Drawn0.step)))).lg).mono ?_);rintro e w4 ⟨rfl,hL,hC⟩;clear b0 b1 b2 b3 b4 b5 b6 b7 c0 c1 c2 c3 c4 c5 c6 c7;(replace HS:=Aside0.mk ((HS.out.below (Drawn0.below (by repeat (first|exact Drawn0.refl _|apply Drawn0.step)))).cut hL hC));obtain ⟨⟨b0,b1,b2,b3,b4,b5,b6,b7⟩,_⟩:=HS.out.rc.cells;clear hL hC)
      try (go_quiet (fail);try go_wp2)
      go_ret3
      rw [HTK.out]
      exact ⟨rfl,(HS.out.below (Drawn0.below (by repeat (first|exact Drawn0.refl _|apply Drawn0.step)))).log.last⟩
   ·have hge:¬ (k:Int) < (rs.length:Int):=by omega
    have hkl:rs.drop k=[]:=List.drop_eq_nil_of_le (by omega)
    rw [hkl] at HE
    have HE2:Aside0 (o=(l,last,cut,0)):=⟨HE.out⟩
    clear HE hkl
    go_wp2
    go_ret3
    rw [HE2.out]
    exact ⟨rfl,HT.out.last⟩
 ·have d1:(we==0)=false:=by simp [hwe]
  have d1n:(we != 0)=true:=by simp [bne,d1]
  rw [if_neg hwe] at ho
  have HE:=Aside0.mk ho.symm
  clear hwe ho hz
  go_enter Try.func15,Try.ntmps15
  go_wp2_with (go_at_call 49;(with_reducible refine hwr.mono ?_);rintro e w2 ⟨rfl,hB⟩;clear h0 h1 f0 f1;(replace HB:=Aside0.mk (below_from2 HB.out (Nat.le_refl _) hB));clear hB hwr)
  go_ret3
  rw [HE.out]
  exact ⟨rfl,(HL.out _ HB.out).last⟩
end Go.Proofs.Ytgjibcfkjaedfaa.Wal


-- A part of the text ShipSpk, thinned by a program of this session.
namespace Go.Proofs.Ytgjibcfkjaedfaa.Wal
open Go.RowKit Go.Proofs.YtgjibcfkjaedfaaW.PrintWords Go.Proofs.YtgjibcfkjaedfaaW.PrintLast Go.Proofs.YtgjibcfkjaedfaaW.PrintMore Go.Proofs.Ytgjibcfkjaedfaa.Wire Go.Proofs.Ytgjibcfkjaedfaa.Pr Go.Proofs.Ytgjibcfkjaedfaa.Rec
open Go.Proofs.Ytgjibcfkjaedfaa.Page (results_c)
set_option linter.unusedVariables false
set_option linter.unusedSimpArgs false
abbrev nopS (n e:Int):RecS:=⟨n,e,1,0,0,0,⟨#[]⟩,⟨#[]⟩⟩
theorem sp_app1:appF [] (nopS 0 1)=([nopS 1 1],1,0):=by kernel_rfl
theorem sp_app2:appF [nopS 1 1] (nopS 0 1)=([nopS 1 1,nopS 2 1],2,0):=by kernel_rfl
theorem sp_app3:appF [nopS 1 1,nopS 2 1] (nopS 0 2)=([nopS 1 1,nopS 2 1,nopS 3 2],3,0):=by kernel_rfl
theorem sp_take1:takeF [nopS 1 1,nopS 2 1,nopS 3 2] 1 2 [nopS 3 3]=([nopS 1 1,nopS 2 1,nopS 3 3],3,true,0):=by kernel_rfl
theorem sp_take2:takeF [nopS 1 1,nopS 2 1,nopS 3 3] 2 2 []=([nopS 1 1,nopS 2 1,nopS 3 3],0,false,200):=by kernel_rfl
theorem sp_mark:markF [nopS 1 1,nopS 2 1,nopS 3 3] (3 - 1)=(1,2):=by kernel_rfl
theorem sp_from:fromF [nopS 1 1,nopS 2 1,nopS 3 3] 3 9=[nopS 3 3]:=by kernel_rfl
theorem sp_ok1:LogOk [nopS 1 1]:=by have h:=LogOk.nil.app (nopS 0 1);rw [sp_app1] at h;exact h
theorem sp_ok2:LogOk [nopS 1 1,nopS 2 1]:=by have h:=sp_ok1.app (nopS 0 1);rw [sp_app2] at h;exact h
theorem sp_ok3:LogOk [nopS 1 1,nopS 2 1,nopS 3 2]:=by have h:=sp_ok2.app (nopS 0 2);rw [sp_app3] at h;exact h
theorem sp_ok4:LogOk [nopS 1 1,nopS 2 1,nopS 3 3]:=by have h:=sp_ok3.takeF 1 2 [nopS 3 3];rw [sp_take1] at h;exact h
set_option maxHeartbeats 4000000 in
set_option maxRecDepth 100000 in
theorem noop_ok (e:Int) (w:World):Calls Try.prog 53 #[.int .i64 e] w fun r w'=>r=.returned (.agg #[.int .i64 0,.int .i64 e,.int .i64 1,.int .i64 0,.int .i64 0,.int .i64 0,.string ⟨#[]⟩,.string ⟨#[]⟩])∧Below w.heap.size w w':=by
 go_enter Try.func53,Try.ntmps53
 go_wp2
 refine bodyPost_ret (results_c rfl _ _ w.heap.size 53 #[.int .i64 0,.int .i64 e,.int .i64 1,.int .i64 0,.int .i64 0,.int .i64 0,.string ⟨#[]⟩,.string ⟨#[]⟩] (0,0) _ rfl (rc_new w 0 e 1 0 0 0 ⟨#[]⟩ ⟨#[]⟩) Try.underlying53 rfl (by kernel_rfl)) rfl ?_
 exact ⟨rfl,below_alloc (Below.refl _ _) _⟩
theorem rec_one {W:World} {g:Nat} {a0 a1 a2 a3 a4 a5:Int} {a6 a7:ByteArray} (h:RcAt W g a0 a1 a2 a3 a4 a5 a6 a7):Kd.C kRec W (some ⟨g,0,none⟩) 1 [⟨a0,a1,a2,a3,a4,a5,a6,a7⟩]:=by
 refine ⟨rfl,by decide,fun _=>⟨_,rfl,?_⟩⟩
 intro j p hj
 match j,hj with
 | 0,hj =>
  obtain rfl:(⟨a0,a1,a2,a3,a4,a5,a6,a7⟩:RecS)=p:=by simpa using hj
  refine ⟨[.int .i64 a0,.int .i64 a1,.int .i64 a2,.int .i64 a3,.int .i64 a4,.int .i64 a5,.string a6,.string a7],rfl,k53_mk _ _,?_⟩
  intro i u hu
  rw [add_plain,blk_cell h]
  simpa using hu
 | j+1,hj=>simp at hj
theorem add_nil0 (ad:Addr):(ad.add (0*8)).block=ad.block∧(ad.add (0*8)).off=ad.off:=by unfold Addr.add;split <;> simp
abbrev nopC (n e:Int):Obj:=.cells #[.int .i64 n,.int .i64 e,.int .i64 1,.int .i64 0,.int .i64 0,.int .i64 0,.string ⟨#[]⟩,.string ⟨#[]⟩] 53
theorem sp_call1 {base:Nat} {w2:World} (hL:LogAt 98 w2 (fun k=>base≤k) base [nopS 1 1,nopS 2 1,nopS 3 2] 0) (hb:base≤w2.heap.size) :
  Calls Try.prog 15 #[.pointer (some ⟨base,0,none⟩),.agg #[.int .i64 1,.int .i64 2],.slice (some ⟨w2.heap.size+1,0,none⟩) 1 1] ((w2.alloc (nopC 3 3)).alloc (nopC 3 3)) fun e w'=>e=.returned (.tuple #[.int .i64 3,.bool true,.int .i64 0])∧LogAt 98 w' (fun k=>base≤k) base [nopS 1 1,nopS 2 1,nopS 3 3] 0∧Below base w2 w':=by
 have hB:=below_alloc (below_alloc (Below.refl w2.heap.size w2) (nopC 3 3)) (nopC 3 3)
 have hsz:((w2.alloc (nopC 3 3)).alloc (nopC 3 3)).heap.size=w2.heap.size+2:=by rw [alloc_size,alloc_size]
 have hrc:RcAt ((w2.alloc (nopC 3 3)).alloc (nopC 3 3)) (w2.heap.size+1) 3 3 1 0 0 0 ⟨#[]⟩ ⟨#[]⟩:=by
  have h:=rc_new (w2.alloc (nopC 3 3)) 3 3 1 0 0 0 ⟨#[]⟩ ⟨#[]⟩
  rw [alloc_size] at h
  exact h
 have h:=stake_ok (hL.bound.below hB) (fun k hk=>by have:=hk.2;rw [hsz];omega) sp_ok3 1 2 (some ⟨w2.heap.size+1,0,none⟩) 1 [nopS 3 3] (fun W hC=>rec_one (hrc.chg hC (fun h=>by have:=h.2;omega))) (fun x hx=>by simp only [List.mem_cons,List.not_mem_nil,or_false] at hx;rw [hx];decide)
 rw [sp_take1] at h
 refine h.mono ?_
 rintro e w' ⟨rfl,hL2,hC⟩
 exact ⟨rfl,hL2.mono (fun k hk=>hk.elim (fun h=>h.1) (fun h=>by rw [hsz] at h;omega)),(hB.mono hb).trans (hC.below (by rw [hsz];omega) (fun k hk=>hk.1))⟩
theorem sp_call2 {base:Nat} {W:World} (hL:LogAt 98 W (fun k=>base≤k) base [nopS 1 1,nopS 2 1,nopS 3 3] 0) (hb:base≤W.heap.size) :
  Calls Try.prog 15 #[.pointer (some ⟨base,0,none⟩),.agg #[.int .i64 2,.int .i64 2],.slice none 0 0] W fun e w'=>e=.returned (.tuple #[.int .i64 0,.bool false,.int .i64 200])∧LogAt 98 w' (fun k=>base≤k) base [nopS 1 1,nopS 2 1,nopS 3 3] 0∧Below base W w':=by
 have h:=stake_ok hL.bound (fun k hk=>hk.2) sp_ok4 2 2 none 0 [] (fun W hC=>⟨rfl,by decide,fun h=>absurd h (by simp)⟩) (fun x hx=>by simp at hx)
 rw [sp_take2] at h
 refine h.mono ?_
 rintro e w' ⟨rfl,hL2,hC⟩
 exact ⟨rfl,hL2.mono (fun k hk=>hk.elim (fun h=>h.1) (fun h=>by omega)),hC.below hb (fun k hk=>hk.1)⟩
set_option maxHeartbeats 8000000 in
set_option maxRecDepth 100000 in
theorem speaks20_ok (w:World):Calls Try.prog 19 #[] w fun e w'=>e=.returned (.bool true)∧Below w.heap.size w w':=by
 have hnew:=new_ok w
 have HAP1:=Aside0.mk (fun W (h:LogAt 98 W (fun k=>w.heap.size≤k) w.heap.size [] 0)=>append_ok h (by decide) 0 1 1 0 0 0 ⟨#[]⟩ ⟨#[]⟩ (by decide))
 rw [sp_app1] at HAP1
 have HAP2:=Aside0.mk (fun W (h:LogAt 98 W (fun k=>w.heap.size≤k) w.heap.size [nopS 1 1] 0)=>append_ok h (by decide) 0 1 1 0 0 0 ⟨#[]⟩ ⟨#[]⟩ (by decide))
 rw [sp_app2] at HAP2
 have HAP3:=Aside0.mk (fun W (h:LogAt 98 W (fun k=>w.heap.size≤k) w.heap.size [nopS 1 1,nopS 2 1] 0)=>append_ok h (by decide) 0 2 1 0 0 0 ⟨#[]⟩ ⟨#[]⟩ (by decide))
 rw [sp_app3] at HAP3
 dsimp only at HAP1 HAP2 HAP3
 go_enter Try.func19,Try.ntmps19
 go_wp2_with (first
  | (go_at_call 20;(with_reducible refine hnew.mono ?_);rintro e w1 ⟨rfl,hL,hB⟩;(have HB:=Aside0.mk hB);(have HL:=Aside0.mk hL);clear hL hB hnew)
  | (go_at_call 53;(with_reducible refine (noop_ok _ _).mono ?_);rintro e w2 ⟨rfl,hB⟩;(replace HL:=Aside0.mk (HL.out.below hB));(replace HB:=Aside0.mk (below_from2 HB.out (Nat.le_refl _) hB));clear hB)
  | (go_at_call 33;(first|(with_reducible refine (HAP1.out _ HL.out).mono ?_)|(with_reducible refine (HAP2.out _ HL.out).mono ?_)|(with_reducible refine (HAP3.out _ HL.out).mono ?_));rintro e w3 ⟨rfl,hL,hC⟩;(replace HL:=Aside0.mk (hL.mono (ok':=fun k=>w.heap.size≤k) (fun k hk=>hk.elim id (fun h=>Nat.le_trans HB.out.size h))));(replace HB:=Aside0.mk (HB.out.trans (hC.below HB.out.size (fun k hk=>hk))));clear hL hC)
  | (go_at_call 15;(with_reducible refine (sp_call1 HL.out HB.out.size).mono ?_);rintro e w4 ⟨rfl,hL,hB⟩;(replace HL:=Aside0.mk hL);(replace HB:=Aside0.mk (HB.out.trans hB));clear hL hB)
  | (go_at_call 15;(with_reducible refine (sp_call2 HL.out HB.out.size).mono ?_);rintro e w5 ⟨rfl,hL,hB⟩;(replace HL:=Aside0.mk hL);(replace HB:=Aside0.mk (HB.out.trans hB));clear hL hB)
  | (go_at_call 22;(with_reducible refine (snew_ok 3 (by decide) (by decide) _).mono ?_);rintro e w6 ⟨rfl,hS,hB⟩;(have HS:=Aside0.mk hS);(replace HL:=Aside0.mk (HL.out.below hB));(replace HB:=Aside0.mk (below_from2 HB.out (Nat.le_refl _) hB));(have hsd:=ssend_ok (most:=9) HS.out ⟨by decide,by decide,by decide⟩ HL.out (by decide));rw [sp_mark,sp_from] at hsd;simp only [List.length_cons,List.length_nil,Nat.reduceAdd] at hsd;clear hS hB)
  | (go_at_call 23;(with_reducible refine hsd.mono ?_);rintro e w7 ⟨A,c,rfl,hc,hC,hB⟩;(replace HB:=Aside0.mk (below_from2 HB.out (Nat.le_refl _) hB));(have hC2:=Kd.C_below hC (below_alloc (Below.refl w7.heap.size w7) (.cells #[.int .i64 1,.int .i64 2] 24)));(obtain ⟨ad,hA,x0,x1,x2,x3,x4,x5,x6,x7⟩:=at_T53 hC2 0 (by decide) (by decide));subst hA;(have hz:=add_nil0 ad);rw [show (0:Int).toNat=0 from rfl,hz.1,hz.2] at x1;(replace x1:=x1.trans (show some (Value.int .i64 (rd_T53 [nopS 3 3] 0).f1)=some (.int .i64 3) from rfl));clear hz hC2 x0 hB hsd hC x2 x3 x4 x5 x6 x7))
 go_ret
 exact ⟨rfl,below_from2 HB.out (Nat.le_refl _) (below_alloc (Below.refl _ _) _)⟩
end Go.Proofs.Ytgjibcfkjaedfaa.Wal


-- A part of the text ShipNil, thinned by a program of this session.
namespace Go.Proofs.Ytgjibcfkjaedfaa.Wal
open Go.RowKit Go.Shelf Go.Proofs.YtgjibcfkjaedfaaW.PrintWords Go.Proofs.YtgjibcfkjaedfaaW.PrintLast Go.Proofs.YtgjibcfkjaedfaaW.PrintMore Go.Proofs.Ytgjibcfkjaedfaa.Wire Go.Proofs.Ytgjibcfkjaedfaa.Pr Go.Proofs.Ytgjibcfkjaedfaa.Rec
attribute [local go_sem] Oper.semAt_some
set_option linter.unusedVariables false
set_option linter.unusedSimpArgs false
set_option maxHeartbeats 4000000 in
set_option maxRecDepth 100000 in
theorem ssend_nil (pv:Value) (n:Int) (w:World):Calls Try.prog 23 #[.pointer none,pv,.int .i64 n] w fun e w'=>e=.returned (.tuple #[.agg #[.int .i64 0,.int .i64 0],.slice none 0 0])∧Below w.heap.size w w':=by
 have HN:=Aside0.mk (show SnAt 24 (w.alloc (.cells #[.int .i64 0,.int .i64 0] 24)) w.heap.size 0 0 from blk_newN _ _)
 have HB:=Aside0.mk (below_alloc (Below.refl w.heap.size w) (.cells #[.int .i64 0,.int .i64 0] 24))
 obtain ⟨h0,h1,f0,f1⟩:=HN.out.cells
 go_enter Try.func23,Try.ntmps23
 go_wp2
 refine bodyPost_ret (results_ct rfl _ _ w.heap.size 24 #[.int .i64 0,.int .i64 0] (0,0) _ rfl HN.out Try.underlying24 rfl (by kernel_rfl)) rfl ?_
 exact ⟨rfl,HB.out⟩
set_option maxHeartbeats 4000000 in
set_option maxRecDepth 100000 in
theorem wrong_nil (w:World):Calls Try.prog 49 #[.pointer none,.agg #[.int .i64 0,.int .i64 0],.slice none 0 0] w fun e w'=>e=.returned (.int .i64 6)∧Below w.heap.size w w':=by
 have hB:=below_alloc (Below.refl w.heap.size w) (.cells #[.int .i64 0,.int .i64 0] 24)
 have hB2:=below_alloc (Below.refl (w.alloc (.cells #[.int .i64 0,.int .i64 0] 24)).heap.size (w.alloc (.cells #[.int .i64 0,.int .i64 0] 24))) (.cells #[.int .i64 0] 29)
 have HN:=Aside0.mk ((show SnAt 24 (w.alloc (.cells #[.int .i64 0,.int .i64 0] 24)) w.heap.size 0 0 from blk_newN _ _).below hB2)
 have HE:Aside0 (ErAt ((w.alloc (.cells #[.int .i64 0,.int .i64 0] 24)).alloc (.cells #[.int .i64 0] 29)) (w.heap.size+1) 0):=⟨by
  have h:=blk_newN (w.alloc (.cells #[.int .i64 0,.int .i64 0] 24)) (.cells #[.int .i64 0] 29)
  rw [alloc_size] at h
  exact h⟩
 have HB:=Aside0.mk (below_from2 hB (Nat.le_refl _) hB2)
 clear hB hB2
 refine callsIn_wide.1 (callsIn_of_wp_marks (n:=3) Try.func49 rfl trivial (wpIn_wide.2 ?_) rfl)
 simp only [Try.ntmps49,List.size_toArray,List.length_cons,List.length_nil,Nat.reduceAdd,Nat.reduceSub,Array.replicate_succ,Array.replicate_zero,List.push_toArray,List.append_toArray,List.nil_append,List.cons_append]
 go_wp2
 go_loopw [15] (fun v15 wr=>v15=.int .i64 0∧Aside0 (SnAt 24 wr w.heap.size 0 0)∧Aside0 (ErAt wr (w.heap.size+1) 0)∧Aside0 (Below w.heap.size w wr)) (fun v15 _=>0)
 case atStart=>exact ⟨rfl,HN,HE,HB⟩
 case round =>
  clear HN HE HB
  obtain ⟨rfl,HN,HE,HB⟩:=hrel
  obtain ⟨n0,n1,nf0,nf1⟩:=HN.out.cells
  have e0:=HE.out.cell
  have ef:=HE.out.frozen
  go_wp2
  refine ⟨_,results_c1 rfl _ _ (w.heap.size+1) (.int .i64 6) _ rfl (HE.out.put 6).cell Try.underlying29 rfl,rfl,HB.out.setCell (Nat.le_succ _) _⟩
set_option maxHeartbeats 4000000 in
set_option maxRecDepth 100000 in
theorem stake_nil (w:World):Calls Try.prog 15 #[.pointer none,.agg #[.int .i64 0,.int .i64 0],.slice none 0 0] w fun e w'=>e=.returned (.tuple #[.int .i64 0,.bool false,.int .i64 6])∧Below w.heap.size w w':=by
 have HN:=Aside0.mk (show SnAt 24 (w.alloc (.cells #[.int .i64 0,.int .i64 0] 24)) w.heap.size 0 0 from blk_newN _ _)
 have HB:=Aside0.mk (below_alloc (Below.refl w.heap.size w) (.cells #[.int .i64 0,.int .i64 0] 24))
 obtain ⟨h0,h1,f0,f1⟩:=HN.out.cells
 go_enter Try.func15,Try.ntmps15
 go_wp2_with (go_at_call 49;(with_reducible refine (wrong_nil _).mono ?_);rintro e w2 ⟨rfl,hB⟩;clear h0 h1 f0 f1;(replace HB:=Aside0.mk (below_from2 HB.out (Nat.le_refl _) hB));clear hB)
 go_ret3
 exact ⟨rfl,HB.out⟩
set_option maxHeartbeats 8000000 in
set_option maxRecDepth 100000 in
theorem shipNil_ok (n:Int) (w:World):Calls Try.prog 7 #[.int .i64 n] w fun e w'=>e=.returned (.bool true)∧Below w.heap.size w w':=by
 have hnew:=new_ok w
 go_enter Try.func7,Try.ntmps7
 go_upto_region 5 with (first
  | (go_at_call 20;(with_reducible refine hnew.mono ?_);rintro e w1 ⟨rfl,hL,hB⟩;(have HB:=Aside0.mk hB);clear hL hB hnew)
  | (go_at_call 23;(with_reducible refine (ssend_nil _ n _).mono ?_);rintro e w2 ⟨rfl,hB⟩;(replace HB:=Aside0.mk (below_from2 HB.out (Nat.le_refl _) hB));(have HM:=Aside0.mk (show SnAt 24 (w2.alloc (.cells #[.int .i64 0,.int .i64 0] 24)) w2.heap.size 0 0 from blk_newN _ _));(replace HB:=Aside0.mk (below_alloc HB.out (.cells #[.int .i64 0,.int .i64 0] 24)));clear hB)
  | (go_at_call 30;(with_reducible refine (sat_nil 0 _).mono ?_);rintro e w3 ⟨rfl,hB⟩;(replace HB:=Aside0.mk (below_from2 HB.out (Nat.le_refl _) hB));(replace HM:=Aside0.mk (HM.out.below hB));clear hB)
  | (go_at_call 15;(with_reducible refine (stake_nil _).mono ?_);rintro e w4 ⟨rfl,hB⟩;(replace HB:=Aside0.mk (below_from2 HB.out (Nat.le_refl _) hB));(replace HM:=Aside0.mk (HM.out.below hB));clear hB))
 obtain ⟨m0,m1,mf0,mf1⟩:=HM.out.cells
 go_wp2_with (first
  | (go_at_call 25;(with_reducible refine (sack_nil n _).mono ?_);rintro e w5 ⟨rfl,hB⟩;(replace HB:=Aside0.mk (below_from2 HB.out (Nat.le_refl _) hB));clear hB m0 m1 mf0 mf1)
  | (go_at_call 27;(with_reducible refine (srefu_nil n _).mono ?_);rintro e w6 ⟨rfl,hB⟩;(replace HB:=Aside0.mk (below_from2 HB.out (Nat.le_refl _) hB));clear hB)
  | (go_at_call 19;(with_reducible refine (speaks20_ok _).mono ?_);rintro e w7 ⟨rfl,hB⟩;(replace HB:=Aside0.mk (below_from2 HB.out (Nat.le_refl _) hB));clear hB))
 go_ret
 exact ⟨rfl,HB.out⟩
end Go.Proofs.Ytgjibcfkjaedfaa.Wal
