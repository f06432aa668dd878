-- A part of the text PageGrow, thinned by a program of this session.
import Derived.Test.YthfhkcicpfnedaaTPageGrowsPageLaw
import Derived.Deep.RegionHeld3
namespace Go.Proofs.Ythfhkcicpfnedaa.Page
open Go.RowKit Go.Proofs.YthfhkcicpfnedaaW.PrintWords Go.Proofs.YthfhkcicpfnedaaW.PrintLast Go.Proofs.YthfhkcicpfnedaaW.PrintMore Go.Proofs.Ythfhkcicpfnedaa.Wire Go.Proofs.Ythfhkcicpfnedaa.Crc Go.Proofs.Ythfhkcicpfnedaa.Pr
open Go.Proofs.Ythfhkcicpfnedaa.Back (AllB)
open Go.Proofs.Ythfhkcicpfnedaa.Pure
set_option linter.unusedVariables false
set_option linter.unusedSimpArgs false
theorem kAll_of {high:ByteArray} {keys:List ByteArray}:∀ (d i:Nat),(∀ j,i≤j→j < i+d→kB high keys j=true)→kAll high keys d i=true
 | 0,i,_=>rfl
 | d+1,i,h=>by
  rw [kAll_yes (h i (Nat.le_refl _) (by omega))]
  exact kAll_of d (i+1) (fun j h1 h2=>h j (by omega) (by omega))
theorem rd_take {l:List ByteArray} {i n:Nat} (h:i < n):rdOf ByteArray.empty (l.take n) (i:Int)=rdOf ByteArray.empty l (i:Int):=by
 simp only [rdOf,Int.toNat_natCast,List.getD_eq_getElem?_getD]
 rw [List.getElem?_take_of_lt h]
theorem kB_take {high:ByteArray} {keys:List ByteArray} {i n:Nat} (h:i < n):kB high (keys.take n) i=kB high keys i:=by
 unfold kB
 rw [rd_take h]
 by_cases hi:i=0
 ·rw [decide_eq_true hi]
  simp
 ·have e:(i:Int) - 1=((i - 1:Nat):Int):=by omega
  rw [e,rd_take (show i - 1 < n by omega)]
theorem any_take {α:Type} (p:α→Bool) (l:List α) (n:Nat) (h:(!(l.any p))=true):(!((l.take n).any p))=true:=by
 rw [Bool.not_eq_true'] at h ⊢
 rw [List.any_eq_false] at h ⊢
 exact fun x hx=>h x (List.mem_of_mem_take hx)
theorem node_less {lv lsn rt:Int} {high:ByteArray} {keys vals:List ByteArray} {kids:List Int} (h:nodeB lv lsn rt high keys vals kids=true) (hl:keys.length*16≤140737488351232) {j:Nat} (hj:keys.length=j+1) :
  (lv=0→nodeB lv lsn rt high (keys.take j) (vals.take j) kids=true∧szN lv high keys vals kids - szN lv high (keys.take j) (vals.take j) kids=2+((rdOf ByteArray.empty keys (j:Int)).size:Int)+2+((rdOf ByteArray.empty vals (j:Int)).size:Int)∧vals.length=j+1) ∧
  (¬ lv=0→nodeB lv lsn rt high (keys.take j) vals (kids.take (j+1))=true∧szN lv high keys vals kids - szN lv high (keys.take j) vals (kids.take (j+1))=2+((rdOf ByteArray.empty keys (j:Int)).size:Int)+4∧kids.length=j+2) ∧
  (rdOf ByteArray.empty keys (j:Int)).size≤16∧(rdOf ByteArray.empty vals (j:Int)).size≤32:=by
 have hf:=fit_of h hl
 have hfew:=keys_few h hf
 have hhi:=hf.fhigh
 have hk1:=rd_small hf.fkeys (j:Int)
 have hv1:=rd_small hf.fvals (j:Int)
 refine ⟨?_,?_,hk1,hv1⟩
 all_goals
  unfold nodeB at h ⊢
  simp only [Bool.and_eq_true,Bool.or_eq_true,decide_eq_true_eq] at h ⊢
  obtain ⟨q1,q2,q3,q4,hp,hs,ha⟩:=h
  have hat:kAll high (keys.take j) (keys.take j).length 0=true:=by
   have hlt:(keys.take j).length=j:=by rw [List.length_take];omega
   rw [hlt]
   exact kAll_of j 0 (fun i _ hi=>by rw [kB_take (by omega)];exact kAll_get _ 0 ha i (Nat.zero_le _) (by omega))
  have hlt:(keys.take j).length=j:=by rw [List.length_take];omega
  have hst:=sz_take (keys:=keys) j (by omega)
  rw [← hj,List.take_length] at hst
  have hg1:=sz_ge (keys.take j)
  have hg2:=sz_ge (vals.take j)
  have hs1:=sz_le 16 keys hf.fkeys
  unfold partsB at hp ⊢
  unfold szN at hs ⊢
  intro e
 ·rw [if_pos e] at hp ⊢
  simp only [Bool.and_eq_true,decide_eq_true_eq] at hp ⊢
  obtain ⟨p1,p2,p3⟩:=hp
  have hvj:vals.length=j+1:=by omega
  have hsv:=sz_take (keys:=vals) j (by omega)
  rw [← hvj,List.take_length] at hsv
  have hs2:=sz_le 32 vals hf.fvals
  simp only [if_pos e] at hs ⊢
  rw [w64 (by omega) (by omega)] at hs
  rw [w64 (by omega) (by omega),w64 (by omega) (by omega)]
  refine ⟨⟨q1,q2,q3,q4,⟨by rw [List.length_take,List.length_take];omega,p2,any_take _ _ _ p3⟩,by omega,hat⟩,by omega,hvj⟩
 ·rw [if_neg e] at hp ⊢
  simp only [Bool.and_eq_true,decide_eq_true_eq] at hp ⊢
  obtain ⟨p1,p2,p3⟩:=hp
  have hkl:kids.length=j+2:=by omega
  have hkt:(kids.take (j+1)).length=j+1:=by rw [List.length_take];omega
  simp only [if_neg e] at hs ⊢
  rw [w64 (by omega) (by omega)] at hs
  rw [w64 (by omega) (by omega),w64 (by omega) (by omega)]
  refine ⟨⟨q1,q2,q3,q4,⟨by omega,p2,any_take _ _ _ p3⟩,by omega,hat⟩,by omega,hkl⟩
theorem cells14 {W:World} {g m:Nat} {x0 x1 x2 y0 y1 y2:Int} {x3 y3:ByteArray} {x4 x5 x6 y4 y5 y6:Value} (h:NdAt W g x0 x1 x2 x3 x4 x5 x6) (k:NdAt W m y0 y1 y2 y3 y4 y5 y6) :
  (W.cell? ⟨g,0,none⟩=some (.int .i64 x0)∧W.cell? ⟨g,1,none⟩=some (.int .i64 x1)∧W.cell? ⟨g,2,none⟩=some (.int .i64 x2)∧W.cell? ⟨g,3,none⟩=some (.string x3)∧W.cell? ⟨g,4,none⟩=some x4∧W.cell? ⟨g,5,none⟩=some x5∧W.cell? ⟨g,6,none⟩=some x6)∧(W.cell? ⟨m,0,none⟩=some (.int .i64 y0)∧W.cell? ⟨m,1,none⟩=some (.int .i64 y1)∧W.cell? ⟨m,2,none⟩=some (.int .i64 y2)∧W.cell? ⟨m,3,none⟩=some (.string y3)∧W.cell? ⟨m,4,none⟩=some y4∧W.cell? ⟨m,5,none⟩=some y5∧W.cell? ⟨m,6,none⟩=some y6):=⟨h.cells.1,k.cells.1⟩
section
variable {W:World} {A4 A5 A6:Option Addr} {c4 c5 c6:Nat} {l4 l5:List ByteArray} {l6:List Int}
theorem check_nd (x0 x1 x2:Int) (x3:ByteArray) (h:NdC W A4 c4 l4 A5 c5 l5 A6 c6 l6) (hl:l4.length*16≤140737488351232) (hv:l5.length*16≤140737488351232) {r:Int} (hr:(if nodeB x0 x1 x2 x3 l4 l5 l6=true then 0 else 60)=r) :
  Calls Try.prog 9 #[.agg #[.int .i64 x0,.int .i64 x1,.int .i64 x2,.string x3,.slice A4 l4.length c4,.slice A5 l5.length c5,.slice A6 l6.length c6]] W fun e w'=>e=.returned (.int .i64 r)∧Below W.heap.size W w':=by
 obtain ⟨k,hk⟩:=(check_ev x0 x1 x2 x3 l4 l5 l6 hl hv).rounds
 rw [hr] at hk
 exact page_Check.calls k x0 x1 x2 x3 A4 c4 l4 A5 c5 l5 A6 c6 l6 r W h.1.1 h.1.2 h.2.1.1 h.2.1.2 h.2.2.1 h.2.2.2 hk
theorem size_nd (x0 x1 x2:Int) (x3:ByteArray) (h:NdC W A4 c4 l4 A5 c5 l5 A6 c6 l6) (hl:l4.length*16≤140737488351232) (hv:l5.length*16≤140737488351232) {r:Int} (hr:szN x0 x3 l4 l5 l6=r) :
  Calls Try.prog 11 #[.agg #[.int .i64 x0,.int .i64 x1,.int .i64 x2,.string x3,.slice A4 l4.length c4,.slice A5 l5.length c5,.slice A6 l6.length c6]] W fun e w'=>e=.returned (.int .i64 r)∧Below W.heap.size W w':=by
 obtain ⟨k,hk⟩:=(page_Size_ev x0 x1 x2 x3 l4 l5 l6 hl hv).rounds
 rw [hr] at hk
 exact page_Size.calls k x0 x1 x2 x3 A4 c4 l4 A5 c5 l5 A6 c6 l6 r W h.1.1 h.1.2 h.2.1.1 h.2.1.2 h.2.2.1 h.2.2.2 hk
end
set_option maxHeartbeats 16000000 in
set_option maxRecDepth 100000 in
theorem grows_ok (x0 x1 x2:Int) (x3:ByteArray) (A4:Option Addr) (c4:Nat) (l4:List ByteArray) (A5:Option Addr) (c5:Nat) (l5:List ByteArray) (A6:Option Addr) (c6:Nat) (l6:List Int) (w:World) (h:NdC w A4 c4 l4 A5 c5 l5 A6 c6 l6) (hl:l4.length*16≤140737488351232) (hv:l5.length*16≤140737488351232) :
  Calls Try.prog 8 #[.agg #[.int .i64 x0,.int .i64 x1,.int .i64 x2,.string x3,.slice A4 l4.length c4,.slice A5 l5.length c5,.slice A6 l6.length c6]] w fun e w'=>e=.returned (.bool true)∧Below w.heap.size w w':=by
 have hn:=h.boxed x0 x1 x2 x3
 have HB:=Aside0.mk (below_alloc (Below.refl w.heap.size w) (.cells #[.int .i64 x0,.int .i64 x1,.int .i64 x2,.string x3,.slice A4 l4.length c4,.slice A5 l5.length c5,.slice A6 l6.length c6] 25))
 have HN:=Aside0.mk hn
 obtain ⟨⟨b0,b1,b2,b3,b4,b5,b6⟩,_⟩:=hn.1.cells
 by_cases hnb:nodeB x0 x1 x2 x3 l4 l5 l6=true
 ·have hck:=check_nd x0 x1 x2 x3 hn.2 hl hv (r:=0) (if_pos hnb)
  rcases Nat.eq_zero_or_pos l4.length with hz|hz
  ·have e0:((l4.length:Int)==0)=true:=by simp [hz]
   have e1:((l4.length:Int)=0)=True:=eq_true (by omega)
   have e2:(l4.length=0)=True:=eq_true hz
   clear h hn hl hv hnb hz
   go_enter Try.func8,Try.ntmps8
   go_wp2_with (first
    | (go_at_call 9;(with_reducible refine hck.mono ?_);rintro e w2 ⟨rfl,hB⟩;clear b0 b1 b2 b3 b4 b5 b6;(replace HN:=Aside0.mk (HN.out.below hB));obtain ⟨⟨b0,b1,b2,b3,b4,b5,b6⟩,_⟩:=HN.out.1.cells;(replace HB:=Aside0.mk (below_same HB.out hB));(have hsp:=speaks6_ok w2);clear hB hck)
    | (go_at_call 13;(with_reducible refine hsp.mono ?_);rintro e w3 ⟨rfl,hB⟩;(replace HB:=Aside0.mk (below_same HB.out hB));clear hB hsp))
   go_ret
   exact ⟨rfl,HB.out⟩
  ·obtain ⟨j,hj⟩:∃ j,l4.length=j+1:=⟨l4.length - 1,by omega⟩
   obtain ⟨hleaf,hinner,hks,hvs⟩:=node_less hnb hl hj
   have e0:((l4.length:Int)==0)=false:=beq_eq_false_iff_ne.mpr (by omega)
   have e1:((l4.length:Int)=0)=False:=eq_false (by omega)
   have e2:(l4.length=0)=False:=eq_false (by omega)
   have s1:(l4.length:Int) - 1=(j:Int):=by omega
   have s2:IntKind.i64.wrap ((l4.length:Int) - 1)=(j:Int):=by rw [IntKind.wrap_i64];omega
   have s3:wrap64 (j:Int)=(j:Int):=by unfold wrap64;omega
   have j0:(0:Int)≤(j:Int):=by omega
   have jl:(j:Int) < (l4.length:Int):=by omega
   have hcut4:∀ W:World,(Instr.slice 22 (.slice A4 l4.length c4) none (some (.int .i64 (j:Int))) none).run Try.prog W=.ok (.slice A4 j c4) W:=by
    intro W
    have h:=cut_to (P:=Try.prog) 22 9 .i64 Try.underlying22 (info_parts infoStr).choose_spec.1 A4 l4.length c4 (j:Int) (by omega) (by omega) h.1.2 W
    rw [Int.toNat_natCast] at h
    exact h
   have HJ:=Aside0.mk hj
   have HH:=Aside0.mk h
   have HLV:=Aside0.mk (And.intro hl hv)
   have HKS:=Aside0.mk hks
   have HVS:=Aside0.mk hvs
   clear hks hvs
   by_cases hlv:x0=0
   ·obtain ⟨hless,hsz,hvj⟩:=hleaf hlv
    subst hlv
    have HLESS:=Aside0.mk hless
    have HSZ:=Aside0.mk hsz
    have HVJ:=Aside0.mk hvj
    clear hless hsz hvj h hn hl hv hnb hz hj hinner hleaf
    go_enter Try.func8,Try.ntmps8
    go_upto_region 6 with (first
     | (go_at_call 9;(with_reducible refine hck.mono ?_);rintro e w2 ⟨rfl,hB⟩;clear b0 b1 b2 b3 b4 b5 b6;(replace HN:=Aside0.mk (HN.out.below hB));obtain ⟨⟨b0,b1,b2,b3,b4,b5,b6⟩,_⟩:=HN.out.1.cells;(replace HB:=Aside0.mk (below_same HB.out hB));(have ltn:=HN.out.1.lt);clear hB hck))
    have hC4:=Kd.C_below HN.out.2.1.1 (below_alloc (Below.refl w2.heap.size w2) (.cells #[.int .i64 0,.int .i64 x1,.int .i64 x2,.string x3,.slice A4 j c4,.slice A5 l5.length c5,.slice A6 l6.length c6] 25))
    obtain ⟨ad4,rfl,hx4⟩:=Kd.at_string hC4 (j:Int) j0 jl
    rw [Int.toNat_natCast] at hx4
    obtain ⟨kj,hkj⟩:∃ kj,rdOf ByteArray.empty l4 (j:Int)=kj:=⟨_,rfl⟩
    rw [hkj] at hx4 HKS HSZ
    have HKJ:=Aside0.mk hkj
    have y1:IntKind.i64.wrap (2+(kj.size:Int))=2+(kj.size:Int):=by rw [IntKind.wrap_i64];have:=HKS.out;omega
    clear hC4 hkj
    have jv:(j:Int) < (l5.length:Int):=by have:=HVJ.out;omega
    have hcut5:∀ W:World,(Instr.slice 22 (.slice A5 l5.length c5) none (some (.int .i64 (j:Int))) none).run Try.prog W=.ok (.slice A5 j c5) W:=by
     intro W
     have h:=cut_to (P:=Try.prog) 22 9 .i64 Try.underlying22 (info_parts infoStr).choose_spec.1 A5 l5.length c5 (j:Int) (by omega) (by omega) HH.out.2.1.2 W
     rw [Int.toNat_natCast] at h
     exact h
    go_upto_region 9 with (fail)
    have hC5:=Kd.C_below HN.out.2.2.1.1 (below_alloc (Below.refl w2.heap.size w2) (.cells #[.int .i64 0,.int .i64 x1,.int .i64 x2,.string x3,.slice (some ad4) j c4,.slice A5 j c5,.slice A6 l6.length c6] 25))
    obtain ⟨ad5,rfl,hx5⟩:=Kd.at_string hC5 (j:Int) j0 jv
    rw [Int.toNat_natCast] at hx5
    obtain ⟨vj,hvj⟩:∃ vj,rdOf ByteArray.empty l5 (j:Int)=vj:=⟨_,rfl⟩
    rw [hvj] at hx5 HVS HSZ
    have HVJ2:=Aside0.mk hvj
    have y2:IntKind.i64.wrap (2+(kj.size:Int)+2)=2+(kj.size:Int)+2:=by rw [IntKind.wrap_i64];have:=HKS.out;omega
    have y3:IntKind.i64.wrap (2+(kj.size:Int)+2+(vj.size:Int))=2+(kj.size:Int)+2+(vj.size:Int):=by rw [IntKind.wrap_i64];have:=HKS.out;have:=HVS.out;omega
    clear hC5 hvj hx4
    go_upto_region 12 with (fail)
    have hlm4:(l4.take j).length=j:=by rw [List.length_take];have:=HJ.out;omega
    have hlm5:(l5.take j).length=j:=by rw [List.length_take];have:=HVJ.out;omega
    have hnm:NdC w2 (some ad4) c4 (l4.take j) (some ad5) c5 (l5.take j) A6 c6 l6:=⟨⟨Kd.C_take HN.out.2.1.1 (by have:=HJ.out;omega),by rw [hlm4];have:=HN.out.2.1.2;have:=HJ.out;omega⟩,⟨Kd.C_take HN.out.2.2.1.1 (by have:=HVJ.out;omega),by rw [hlm5];have:=HN.out.2.2.1.2;have:=HVJ.out;omega⟩,HN.out.2.2.2⟩
    obtain ⟨hm1,hm2⟩:=hnm.boxed 0 x1 x2 x3
    rw [hlm4,hlm5] at hm1 hm2
    replace HN:=Aside0.mk (HN.out.below (below_drew (below_alloc (Below.refl w2.heap.size w2) (.cells #[.int .i64 0,.int .i64 x1,.int .i64 x2,.string x3,.slice (some ad4) j c4,.slice (some ad5) j c5,.slice A6 l6.length c6] 25))))
    replace HB:=Aside0.mk (below_from2 HB.out (Nat.le_refl _) (below_drew (below_alloc (Below.refl w2.heap.size w2) (.cells #[.int .i64 0,.int .i64 x1,.int .i64 x2,.string x3,.slice (some ad4) j c4,.slice (some ad5) j c5,.slice A6 l6.length c6] 25))))
    have HM:=Aside0.mk (And.intro ((NdAt.below hm1 (below_drew (Below.refl _ _)))) (hm2.below (below_drew (Below.refl _ _))))
    have HSM:=Aside0.mk (fun (W:World) (h:NdC W (some ad4) c4 (l4.take j) (some ad5) c5 (l5.take j) A6 c6 l6)=>size_nd 0 x1 x2 x3 h (by rw [hlm4];have:=HLV.out;have:=HJ.out;omega) (by rw [hlm5];have:=HLV.out;have:=HVJ.out;omega) rfl)
    have HCM:=Aside0.mk (fun (W:World) (h:NdC W (some ad4) c4 (l4.take j) (some ad5) c5 (l5.take j) A6 c6 l6)=>check_nd 0 x1 x2 x3 h (by rw [hlm4];have:=HLV.out;have:=HJ.out;omega) (by rw [hlm5];have:=HLV.out;have:=HVJ.out;omega) (r:=0) (if_pos HLESS.out))
    rw [hlm4,hlm5] at HSM HCM
    generalize hsz1:szN 0 x3 l4 l5 l6=a at HSZ
    generalize szN 0 x3 (l4.take j) (l5.take j) l6=b at HSZ HSM
    have hsn:=size_nd 0 x1 x2 x3 HN.out.2 HLV.out.1 HLV.out.2 hsz1
    have z1:IntKind.i64.wrap (a - b)=2+(kj.size:Int)+2+(vj.size:Int):=by rw [HSZ.out,IntKind.wrap_i64];have:=HKS.out;have:=HVS.out;omega
    have z2:wrap64 (a - b)=2+(kj.size:Int)+2+(vj.size:Int):=by rw [HSZ.out];unfold wrap64;have:=HKS.out;have:=HVS.out;omega
    clear hlm4 hlm5 hnm hm1 hm2 hsz1 hx5 b0 b1 b2 b3 b4 b5 b6 ltn
    generalize w2.heap.size=g at HM ⊢
    go_region_held3 (fun w'=>(w'.cell? ⟨w.heap.size,0,none⟩=some (.int .i64 0)∧w'.cell? ⟨w.heap.size,1,none⟩=some (.int .i64 x1)∧w'.cell? ⟨w.heap.size,2,none⟩=some (.int .i64 x2)∧w'.cell? ⟨w.heap.size,3,none⟩=some (.string x3)∧w'.cell? ⟨w.heap.size,4,none⟩=some (.slice (some ad4) l4.length c4)∧w'.cell? ⟨w.heap.size,5,none⟩=some (.slice (some ad5) l5.length c5)∧w'.cell? ⟨w.heap.size,6,none⟩=some (.slice A6 l6.length c6))∧(w'.cell? ⟨g,0,none⟩=some (.int .i64 0)∧w'.cell? ⟨g,1,none⟩=some (.int .i64 x1)∧w'.cell? ⟨g,2,none⟩=some (.int .i64 x2)∧w'.cell? ⟨g,3,none⟩=some (.string x3)∧w'.cell? ⟨g,4,none⟩=some (.slice (some ad4) j c4)∧w'.cell? ⟨g,5,none⟩=some (.slice (some ad5) j c5)∧w'.cell? ⟨g,6,none⟩=some (.slice A6 l6.length c6)))
     (exact cells14 HN.out.1 HM.out.1)
     (first
      | (go_at_call 11;(with_reducible refine hsn.mono ?_);rintro e w3 ⟨rfl,hB⟩;(replace HN:=Aside0.mk (HN.out.below hB));(replace HM:=Aside0.mk (And.intro (HM.out.1.below hB) (HM.out.2.below hB)));(replace HB:=Aside0.mk (below_same HB.out hB));(have hsm:=HSM.out w3 HM.out.2);clear hB hsn)
      | (go_at_call 11;(with_reducible refine hsm.mono ?_);rintro e w4 ⟨rfl,hB⟩;(replace HN:=Aside0.mk (HN.out.below hB));(replace HM:=Aside0.mk (And.intro (HM.out.1.below hB) (HM.out.2.below hB)));(replace HB:=Aside0.mk (below_same HB.out hB));(have hcm:=HCM.out w4 HM.out.2);clear hB hsm)
      | (go_at_call 9;(with_reducible refine hcm.mono ?_);rintro e w5 ⟨rfl,hB⟩;(replace HN:=Aside0.mk (HN.out.below hB));(replace HM:=Aside0.mk (And.intro (HM.out.1.below hB) (HM.out.2.below hB)));(replace HB:=Aside0.mk (below_same HB.out hB));(have hsp:=speaks6_ok w5);clear hB hcm)
      | (go_at_call 13;(with_reducible refine hsp.mono ?_);rintro e w6 ⟨rfl,hB⟩;(replace HN:=Aside0.mk (HN.out.below hB));(replace HM:=Aside0.mk (And.intro (HM.out.1.below hB) (HM.out.2.below hB)));(replace HB:=Aside0.mk (below_same HB.out hB));clear hB hsp))
    all_goals
     go_wp2
     go_ret
     exact ⟨rfl,HB.out⟩
   ·obtain ⟨hless,hsz,hvj⟩:=hinner hlv
    have f0:(x0==0)=false:=beq_eq_false_iff_ne.mpr hlv
    have f1:=eq_false hlv
    clear hlv
    have HLESS:=Aside0.mk hless
    have HSZ:=Aside0.mk hsz
    have HVJ:=Aside0.mk hvj
    clear hless hsz hvj h hn hl hv hnb hz hj hinner hleaf
    go_enter Try.func8,Try.ntmps8
    go_upto_region 6 with (first
     | (go_at_call 9;(with_reducible refine hck.mono ?_);rintro e w2 ⟨rfl,hB⟩;clear b0 b1 b2 b3 b4 b5 b6;(replace HN:=Aside0.mk (HN.out.below hB));obtain ⟨⟨b0,b1,b2,b3,b4,b5,b6⟩,_⟩:=HN.out.1.cells;(replace HB:=Aside0.mk (below_same HB.out hB));(have ltn:=HN.out.1.lt);clear hB hck))
    have hC4:=Kd.C_below HN.out.2.1.1 (below_alloc (Below.refl w2.heap.size w2) (.cells #[.int .i64 x0,.int .i64 x1,.int .i64 x2,.string x3,.slice A4 j c4,.slice A5 l5.length c5,.slice A6 l6.length c6] 25))
    obtain ⟨ad4,rfl,hx4⟩:=Kd.at_string hC4 (j:Int) j0 jl
    rw [Int.toNat_natCast] at hx4
    obtain ⟨kj,hkj⟩:∃ kj,rdOf ByteArray.empty l4 (j:Int)=kj:=⟨_,rfl⟩
    rw [hkj] at hx4 HKS HSZ
    have HKJ:=Aside0.mk hkj
    have y1:IntKind.i64.wrap (2+(kj.size:Int))=2+(kj.size:Int):=by rw [IntKind.wrap_i64];have:=HKS.out;omega
    clear hC4 hkj
    have hcut6:∀ W:World,(Instr.slice 23 (.slice A6 l6.length c6) none (some (.int .i64 (l4.length:Int))) none).run Try.prog W=.ok (.slice A6 l4.length c6) W:=by
     intro W
     have h:=cut_to (P:=Try.prog) 23 3 .i64 Try.underlying23 (info_parts infoInt).choose_spec.1 A6 l6.length c6 (l4.length:Int) (by omega) (by have:=HVJ.out;have:=HJ.out;omega) HH.out.2.2.2 W
     rw [Int.toNat_natCast] at h
     exact h
    have y3:IntKind.i64.wrap (2+(kj.size:Int)+4)=2+(kj.size:Int)+4:=by rw [IntKind.wrap_i64];have:=HKS.out;omega
    go_upto_region 12 with (fail)
    have hlm4:(l4.take j).length=j:=by rw [List.length_take];have:=HJ.out;omega
    have hlm6:(l6.take (j+1)).length=l4.length:=by rw [List.length_take];have:=HVJ.out;have:=HJ.out;omega
    have hnm:NdC w2 (some ad4) c4 (l4.take j) A5 c5 l5 A6 c6 (l6.take (j+1)):=⟨⟨Kd.C_take HN.out.2.1.1 (by have:=HJ.out;omega),by rw [hlm4];have:=HN.out.2.1.2;have:=HJ.out;omega⟩,HN.out.2.2.1,⟨Kd.C_take HN.out.2.2.2.1 (by have:=HVJ.out;omega),by rw [hlm6];have:=HN.out.2.2.2.2;have:=HVJ.out;have:=HJ.out;omega⟩⟩
    obtain ⟨hm1,hm2⟩:=hnm.boxed x0 x1 x2 x3
    rw [hlm4,hlm6] at hm1 hm2
    replace HN:=Aside0.mk (HN.out.below (below_drew (below_alloc (Below.refl w2.heap.size w2) (.cells #[.int .i64 x0,.int .i64 x1,.int .i64 x2,.string x3,.slice (some ad4) j c4,.slice A5 l5.length c5,.slice A6 l4.length c6] 25))))
    replace HB:=Aside0.mk (below_from2 HB.out (Nat.le_refl _) (below_drew (below_alloc (Below.refl w2.heap.size w2) (.cells #[.int .i64 x0,.int .i64 x1,.int .i64 x2,.string x3,.slice (some ad4) j c4,.slice A5 l5.length c5,.slice A6 l4.length c6] 25))))
    have HM:=Aside0.mk (And.intro ((NdAt.below hm1 (below_drew (Below.refl _ _)))) (hm2.below (below_drew (Below.refl _ _))))
    have HSM:=Aside0.mk (fun (W:World) (h:NdC W (some ad4) c4 (l4.take j) A5 c5 l5 A6 c6 (l6.take (j+1)))=>size_nd x0 x1 x2 x3 h (by rw [hlm4];have:=HLV.out;have:=HJ.out;omega) HLV.out.2 rfl)
    have HCM:=Aside0.mk (fun (W:World) (h:NdC W (some ad4) c4 (l4.take j) A5 c5 l5 A6 c6 (l6.take (j+1)))=>check_nd x0 x1 x2 x3 h (by rw [hlm4];have:=HLV.out;have:=HJ.out;omega) HLV.out.2 (r:=0) (if_pos HLESS.out))
    rw [hlm4,hlm6] at HSM HCM
    generalize hsz1:szN x0 x3 l4 l5 l6=a at HSZ
    generalize szN x0 x3 (l4.take j) l5 (l6.take (j+1))=b at HSZ HSM
    have hsn:=size_nd x0 x1 x2 x3 HN.out.2 HLV.out.1 HLV.out.2 hsz1
    have z1:IntKind.i64.wrap (a - b)=2+(kj.size:Int)+4:=by rw [HSZ.out,IntKind.wrap_i64];have:=HKS.out;omega
    have z2:wrap64 (a - b)=2+(kj.size:Int)+4:=by rw [HSZ.out];unfold wrap64;have:=HKS.out;omega
    clear hlm4 hlm6 hnm hm1 hm2 hsz1 hx4 b0 b1 b2 b3 b4 b5 b6 ltn
    generalize w2.heap.size=g at HM ⊢
    go_region_held3 (fun w'=>(w'.cell? ⟨w.heap.size,0,none⟩=some (.int .i64 x0)∧w'.cell? ⟨w.heap.size,1,none⟩=some (.int .i64 x1)∧w'.cell? ⟨w.heap.size,2,none⟩=some (.int .i64 x2)∧w'.cell? ⟨w.heap.size,3,none⟩=some (.string x3)∧w'.cell? ⟨w.heap.size,4,none⟩=some (.slice (some ad4) l4.length c4)∧w'.cell? ⟨w.heap.size,5,none⟩=some (.slice A5 l5.length c5)∧w'.cell? ⟨w.heap.size,6,none⟩=some (.slice A6 l6.length c6))∧(w'.cell? ⟨g,0,none⟩=some (.int .i64 x0)∧w'.cell? ⟨g,1,none⟩=some (.int .i64 x1)∧w'.cell? ⟨g,2,none⟩=some (.int .i64 x2)∧w'.cell? ⟨g,3,none⟩=some (.string x3)∧w'.cell? ⟨g,4,none⟩=some (.slice (some ad4) j c4)∧w'.cell? ⟨g,5,none⟩=some (.slice A5 l5.length c5)∧w'.cell? ⟨g,6,none⟩=some (.slice A6 l4.length c6)))
     (exact cells14 HN.out.1 HM.out.1)
     (first
      | (go_at_call 11;(with_reducible refine hsn.mono ?_);rintro e w3 ⟨rfl,hB⟩;(replace HN:=Aside0.mk (HN.out.below hB));(replace HM:=Aside0.mk (And.intro (HM.out.1.below hB) (HM.out.2.below hB)));(replace HB:=Aside0.mk (below_same HB.out hB));(have hsm:=HSM.out w3 HM.out.2);clear hB hsn)
      | (go_at_call 11;(with_reducible refine hsm.mono ?_);rintro e w4 ⟨rfl,hB⟩;(replace HN:=Aside0.mk (HN.out.below hB));(replace HM:=Aside0.mk (And.intro (HM.out.1.below hB) (HM.out.2.below hB)));(replace HB:=Aside0.mk (below_same HB.out hB));(have hcm:=HCM.out w4 HM.out.2);clear hB hsm)
      | (go_at_call 9;(with_reducible refine hcm.mono ?_);rintro e w5 ⟨rfl,hB⟩;(replace HN:=Aside0.mk (HN.out.below hB));(replace HM:=Aside0.mk (And.intro (HM.out.1.below hB) (HM.out.2.below hB)));(replace HB:=Aside0.mk (below_same HB.out hB));(have hsp:=speaks6_ok w5);clear hB hcm)
      | (go_at_call 13;(with_reducible refine hsp.mono ?_);rintro e w6 ⟨rfl,hB⟩;(replace HN:=Aside0.mk (HN.out.below hB));(replace HM:=Aside0.mk (And.intro (HM.out.1.below hB) (HM.out.2.below hB)));(replace HB:=Aside0.mk (below_same HB.out hB));clear hB hsp))
    all_goals
     go_wp2
     go_ret
     exact ⟨rfl,HB.out⟩
 ·have hck:=check_nd x0 x1 x2 x3 hn.2 hl hv (r:=60) (if_neg hnb)
  clear h hn hl hv hnb
  go_enter Try.func8,Try.ntmps8
  go_wp2_with (first
   | (go_at_call 9;(with_reducible refine hck.mono ?_);rintro e w2 ⟨rfl,hB⟩;clear b0 b1 b2 b3 b4 b5 b6;(replace HN:=Aside0.mk (HN.out.below hB));obtain ⟨⟨b0,b1,b2,b3,b4,b5,b6⟩,_⟩:=HN.out.1.cells;(replace HB:=Aside0.mk (below_same HB.out hB));(have hsp:=speaks6_ok w2);clear hB hck)
   | (go_at_call 13;(with_reducible refine hsp.mono ?_);rintro e w3 ⟨rfl,hB⟩;(replace HB:=Aside0.mk (below_same HB.out hB));clear hB hsp))
  go_ret
  exact ⟨rfl,HB.out⟩
end Go.Proofs.Ythfhkcicpfnedaa.Page
