-- A part of the text Back, thinned by a program of this session.
import Derived.Test.YtgjibcfkjaedfaaTHPrx0
import Derived.RangeFuncBox
import Derived.RangeFuncLeaves
import Derived.Shelf.Abstract
import Derived.WalkKit
import Derived.OwnWalkIn
import Derived.TacticsInMore
import Derived.LoopNIn
import Derived.LoopIn
import Derived.Lib.Hide
namespace Go.Proofs.Ytgjibcfkjaedfaa.Back
open Go.RowKit Go.Shelf Go.Proofs
open Go.Proofs.YtgjibcfkjaedfaaW.PrintWords (Kd)
attribute [local go_sem] Oper.semAt_some
set_option linter.unusedVariables false
def upto {α:Type} (f:Nat→α) (k:Nat):List α:=(List.range k).map f
theorem upto_succ {α:Type} (f:Nat→α) (k:Nat):upto f (k+1)=upto f k++[f k]:=by simp [upto,List.range_succ]
theorem upto_length {α:Type} (f:Nat→α) (k:Nat):(upto f k).length=k:=by simp [upto]
theorem addB (a:Addr) (n:Nat):(a.add n).block=a.block:=by unfold Addr.add;split <;> rfl
def KB (n₀ Bs:Nat) (A B:World):Prop:=Below n₀ A B∧B.heap[Bs]?=A.heap[Bs]?
theorem KB.refl (n₀ Bs:Nat) (A:World):KB n₀ Bs A A:=⟨Below.refl _ _,rfl⟩
theorem KB.trans {n₀ Bs:Nat} {A B C:World} (h:KB n₀ Bs A B) (k:KB n₀ Bs B C):KB n₀ Bs A C:=⟨h.1.trans k.1,k.2.trans h.2⟩
abbrev bk (zs:List Int) (j:Nat):Nat×Int:=(zs.length - 1 - j,zs[zs.length - 1 - j]?.getD 0)
set_option maxRecDepth 100000 in
set_option maxHeartbeats 2000000 in
theorem back1_in (F:Fence) (n:Nat) (h8:F.fn 114) (hro:F.round=none) (hn:1≤n) (l Bs n₀ cap:Nat) (ad:Addr) (zs:List Int) (hreach:zs.length≤140737488355328) (hb:ad.block < n₀) (J Jx:List (Nat×Int)→World→Prop)
  (hY:∀ pre x W,J pre W→pre.length < zs.length→YieldAt F (n - 1) Try.prog l #[.int .i64 (x.1:Int),.int .u8 x.2] W fun e W' =>
   (e=.returned (.bool true)∧J (pre++[x]) W'∧KB n₀ Bs W W')∨(e=.returned (.bool false)∧Jx (pre++[x]) W'))
  (W:World) (hBs:W.cell? ⟨Bs,0,none⟩=some (.slice (some ad) zs.length cap)) (hc:∀ j,j < zs.length→W.cell? (ad.add j)=some (.int .u8 (zs[j]?.getD 0))) (h0:J [] W) :
  CallsIn F n Try.prog 114 #[.func (.yield l) #[] #[],.pointer (some ⟨Bs,0,none⟩)] W fun e W'=>(∃ v,e=.returned v) ∧
   ((∃ ys,ys=upto (bk zs) zs.length∧J ys W')∨(∃ pre,(∃ k,k≤zs.length∧pre=upto (bk zs) k)∧Jx pre W')):=by
 refine callsIn_of_wp Try.func114 rfl h8 ?_ hro
 simp only [Try.ntmps114,List.size_toArray,List.length_cons,List.length_nil,Nat.reduceAdd,Nat.reduceSub,Array.replicate_succ,Array.replicate_zero,List.push_toArray,List.append_toArray,List.nil_append,List.cons_append]
 have hlen:(zs.length:Int)≤140737488355328:=by omega
 gi_wp2
 gi_loopw [3] (fun i wr=>∃ k:Nat,k≤zs.length∧i=.int .i64 ((zs.length:Int) - 1 - k)∧J (upto (bk zs) k) wr∧KB n₀ Bs W wr)
  (fun i _=>(intOf i+1).toNat)
 case atStart=>exact ⟨0,Nat.zero_le _,by simp,h0,KB.refl _ _ _⟩
 case round =>
  obtain ⟨k,hk,rfl,hJs,hnx⟩:=hrel
  have hcell:=(World.cell?_of_block (a:=⟨Bs,0,none⟩) hnx.2).trans hBs
  by_cases hlt:k < zs.length
  ·obtain ⟨m,hm⟩:∃ m,m=zs.length - 1 - k:=⟨_,rfl⟩
   have e:((zs.length:Int) - 1 - k)=(m:Int):=by omega
   have hml:m < zs.length:=by omega
   rw [e]
   have hcx':wr.cell? (ad.add m)=some (.int .u8 (zs[m]?.getD 0)):=(hnx.1.cell (p:=ad.add m) (by rw [addB];exact hb)).trans (hc m hml)
   have hbk:bk zs k=(m,zs[m]?.getD 0):=by rw [bk,← hm]
   generalize zs[m]?.getD 0=x at hcx' hbk
   obtain ⟨fn,tmps,assign,body,hy,hR⟩:=hY _ (m,x) wr hJs (by rw [upto_length];exact hlt)
   dsimp only at hy
   have HBK:=Lib.hid hbk
   have HM:=Lib.hid hm
   have HE:=Lib.hid e
   clear hbk hm e
   have hz0:(0:Int)≤(m:Int):=by omega
   gi_wp2
   refine hR.mono ?_
   rintro e W3 (⟨rfl,hJ3,hk3⟩|⟨rfl,hJx3⟩)
   ·gi_wp2
    go_roundw
    case rel=>exact ⟨k+1,by omega,by (have:=HE.out;have e2:((m:Int) - 1)=(zs.length:Int) - 1 - ((k+1:Nat):Int):=(by omega);rw [e2]),by rw [upto_succ,HBK.out];exact hJ3,hnx.trans hk3⟩
    case measure=>simp [intOf]
   ·gi_wp2
    refine bodyPost_ret (results_none rfl _ _ _) rfl ?_
    exact ⟨⟨_,rfl⟩,.inr ⟨_,⟨k+1,by omega,by rw [upto_succ,HBK.out]⟩,hJx3⟩⟩
  ·obtain rfl:k=zs.length:=by omega
   have e:((zs.length:Int) - 1 - (zs.length:Int)) = -1:=by omega
   rw [e]
   gi_wp2
   go_end0
   exact ⟨⟨_,rfl⟩,.inl ⟨_,rfl,hJs⟩⟩
set_option maxRecDepth 100000 in
set_option maxHeartbeats 1000000 in
theorem back1_nil_in (F:Fence) (n:Nat) (h7:F.fn 114) (hro:F.round=none) (l Bs:Nat) (a:Option Addr) (cap:Nat) (J:List (Nat×Int)→World→Prop) (W:World) (hBs:W.cell? ⟨Bs,0,none⟩=some (.slice a 0 cap)) (h0:J [] W) :
  CallsIn F n Try.prog 114 #[.func (.yield l) #[] #[],.pointer (some ⟨Bs,0,none⟩)] W fun e W'=>(∃ v,e=.returned v)∧J [] W':=by
 refine callsIn_of_wp Try.func114 rfl h7 ?_ hro
 simp only [Try.ntmps114,List.size_toArray,List.length_cons,List.length_nil,Nat.reduceAdd,Nat.reduceSub,Array.replicate_succ,Array.replicate_zero,List.push_toArray,List.append_toArray,List.nil_append,List.cons_append]
 gi_wp2
 gi_loopw [3] (fun i wr=>i=.int .i64 (-1)∧J [] wr) (fun _ _=>0)
 case atStart=>exact ⟨rfl,h0⟩
 case round =>
  obtain ⟨rfl,hJs⟩:=hrel
  gi_wp2
  go_end0
  exact ⟨⟨_,rfl⟩,hJs⟩
set_option maxHeartbeats 1000000 in
theorem back_in (F:Fence) (n:Nat) (h6:F.fn 107) (hro:F.round=none) (a:Option Addr) (len cap:Nat) (w:World) :
  CallsIn F n Try.prog 107 #[.slice a len cap] w fun e w'=>e=.returned (.func (.func 114) #[] #[.pointer (some ⟨w.heap.size,0,none⟩)])∧w'=w.alloc (.cells #[.slice a len cap] 67):=by
 refine callsIn_of_wp Try.func107 rfl h6 ?_ hro
 simp only [Try.ntmps107,List.size_toArray,List.length_cons,List.length_nil,Nat.reduceAdd,Nat.reduceSub,Array.replicate_succ,Array.replicate_zero,List.push_toArray,List.append_toArray,List.nil_append,List.cons_append]
 gi_wp2
 go_ret
 exact ⟨rfl,rfl⟩
def Bytes (n₀:Nat) (W:World) (sv:Value) (zs:List Int):Prop :=
 (zs=[]∧∃ a cap,sv=.slice a 0 cap)∨∃ ad cap,sv=.slice (some ad) zs.length cap∧ad.block < n₀∧∀ j,j < zs.length→W.cell? (ad.add j)=some (.int .u8 (zs[j]?.getD 0))
theorem Bytes.below {n₀:Nat} {A B:World} (h:Below n₀ A B) {sv:Value} {zs:List Int}:Bytes n₀ A sv zs→Bytes n₀ B sv zs
 | .inl e=>.inl e
 | .inr ⟨ad,cap,e,hb,hc⟩=>.inr ⟨ad,cap,e,hb,fun j hj=>(h.cell (p:=ad.add j) (by rw [addB];exact hb)).trans (hc j hj)⟩
theorem back_stops (F:Fence) (n:Nat) (h8:F.fn 114) (hro:F.round=none) (hn:1≤n) (Bs n₀:Nat) (sv:Value) (zs:List Int) (hreach:zs.length≤140737488355328) (w:World) (hBs:Bs < w.heap.size) (hn₀:n₀≤w.heap.size)
  (hc:w.cell? ⟨Bs,0,none⟩=some sv) (hI:Bytes n₀ w sv zs) :
  SeqStopsK F n Try.prog 114 #[.pointer (some ⟨Bs,0,none⟩)] (fun x:Nat×Int=>#[Value.int .i64 (x.1:Int),Value.int .u8 x.2]) (KB n₀ Bs) (fun ys=>ys=upto (bk zs) zs.length)
   (fun pre=>∃ k,k≤zs.length∧pre=upto (bk zs) k) zs.length w:=fun l J Jx W hW _ _ hY h0=>by
 have hc':=(hW.cell (p:=⟨Bs,0,none⟩) hBs).trans hc
 rcases hI.below (hW.mono hn₀) with ⟨rfl,a,cap,rfl⟩|⟨ad,cap,rfl,hb,hcs⟩
 ·exact (back1_nil_in F n h8 hro l Bs a cap J W hc' h0).mono fun e W' ⟨he,hj⟩=>⟨he,.inl ⟨_,rfl,hj⟩⟩
 ·exact back1_in F n h8 hro hn l Bs n₀ cap ad zs hreach hb J Jx hY W hc' hcs h0
def stepN (acc x:Int):Int:=Go.bits .or .i64 (wrap64 (acc*256)) (wrap64 x)
def numW (pre:List (Nat×Int)):Int:=pre.foldl (fun s v=>stepN s v.2) 0
theorem numW_snoc (pre:List (Nat×Int)) (x:Nat×Int):numW (pre++[x])=stepN (numW pre) x.2:=by simp [numW]
set_option maxRecDepth 100000 in
set_option maxHeartbeats 2000000 in
theorem number_in (F:Fence) (n:Nat) (h3:F.fn 95) (h5:F.fn 107) (h7:F.fn 114) (hro:F.round=none) (hn:3≤n) (a:Option Addr) (len cap:Nat) (zs:List Int) (hreach:zs.length≤140737488355328) (w:World) (hI:Bytes w.heap.size w (.slice a len cap) zs) :
  CallsIn F n Try.prog 95 #[.slice a len cap] w fun e W'=>e=.returned (.int .i64 (numW (upto (bk zs) zs.length)))∧Below w.heap.size w W':=by
 have h1:1≤n:=by omega
 refine callsIn_of_wp_marks Try.func95 rfl h3 ?_ hro
 simp only [Try.ntmps95,List.size_toArray,List.length_cons,List.length_nil,Nat.reduceAdd,Nat.reduceSub,Array.replicate_succ,Array.replicate_zero,List.push_toArray,List.append_toArray,List.nil_append,List.cons_append]
 gi_wp2_with (gi_at_call 107;refine (back_in F (n - 1) h5 hro _ _ _ _).mono ?_;rintro e w' ⟨rfl,rfl⟩)
 have bS:=Boxed.new w 3 (.int .i64 0)
 have bN:=Boxed.new (w.alloc (.cells #[.int .i64 0] 3)) 67 (.slice a len cap)
 rw [World.size_alloc] at bN
 have hB0:Below w.heap.size w ((w.alloc (.cells #[.int .i64 0] 3)).alloc (.cells #[.slice a len cap] 67)):=((Below.refl _ w).alloc (Nat.le_refl _) _).alloc (by simp) _
 have hbk:∀ {A B C:World},KB w.heap.size (w.heap.size+1) A B→KB w.heap.size (w.heap.size+1) B C→KB w.heap.size (w.heap.size+1) A C:=KB.trans
 have hbb:∀ (W:World) (l:Nat) (o o':Obj),((w.alloc (.cells #[.int .i64 0] 3)).alloc (.cells #[.slice a len cap] 67)).heap.size≤l→W.heap[l]?=some o→o.isCells=false→o.isWalk=false→KB w.heap.size (w.heap.size+1) W (W.putObj l o'):=by
  intro W l o o' hl ho hc hw
  have hl2:w.heap.size+2≤l:=by simp at hl;omega
  refine ⟨belowK_b (w:=w) (Nat.le_refl _) W l o o' (by omega) ho hc hw,?_⟩
  exact (grownBy_putObj' W l o').block _ (by have:=(Array.getElem?_eq_some_iff.1 ho).1;omega) (fun e=>by injection e with e;omega)
 refine wpIn_rangeFunc_ownG hro h1 (gf:=114) (lb:=#[.pointer (some ⟨w.heap.size+1,0,none⟩)]) rfl h7 (enters_of Try.func114 (by kernel_rfl) rfl)
  (back_stops F (n - 1) h7 hro (by omega) (w.heap.size+1) w.heap.size _ zs hreach _ (by simp) (by simp;omega) bN.cell (hI.below hB0)) hbk hbb (Below.refl _ _) (fun _=>rfl)
  (fun pre W=>(W.cell? ⟨w.heap.size,0,none⟩=some (.int .i64 (numW pre))∧W.frozen? ⟨w.heap.size,0,none⟩=false)∧Below w.heap.size w W)
  (fun _ _ _=>False)
  (OwnFrom.and (Own.from (fun s A B row hs hg hr=>⟨cell_kept hs.1 hg hr,(frozen_kept hs.1 hg hr).trans hs.2⟩) _) (ownFrom_below (Nat.le_refl _) (by simp;omega)))
  (fun _ _ _ _ _ hs _ _=>hs)
  ⟨⟨(bS.alloc _).cell,(bS.alloc _).frozen⟩,hB0⟩
  (fun x=>{ tmps:=#[.slice a len cap,undef,.int .i64 0,.pointer (some ⟨w.heap.size,0,none⟩),undef,.int .u8 x.2,.slice a len cap,.func (.func 114) #[] #[.pointer (some ⟨w.heap.size+1,0,none⟩)],.int .i64 (x.1:Int),.int .u8 x.2,undef,undef,undef,undef,undef,undef],defers:=[] }) ?assign ?body ?done ?stop
 case assign =>
  intro l x W K hK
  gi_wp2
  exact hK
 case body =>
  rintro l pre x W ⟨⟨hc,hf⟩,hB⟩ _
  gi_wp2
  refine ⟨(KeepsOthers.setCell _ _ _).from _,⟨(Below.refl w.heap.size W).setCell (p:=⟨w.heap.size,0,none⟩) (Nat.le_refl _) _,Below.heap_setCell _ _ _ _ (by simp)⟩,⟨?_,by rw [World.frozen?_setCell];exact hf⟩,hB.setCell (p:=⟨w.heap.size,0,none⟩) (Nat.le_refl _) _⟩
  rw [numW_snoc]
  exact World.cell?_setCell_same' _ _ _ (by rw [hc];rfl)
 case done =>
  rintro D ys W hD rfl ⟨⟨hc,_⟩,hB⟩ hK
  gi_wp2
  refine ⟨by simp,.inl ⟨_,_,rfl,run_takeDeferred hK,?_⟩⟩
  exact ⟨_,results_tmp rfl _ _ _,rfl,hB.trans (belowK_b (w:=w) (Nat.le_refl _) W D _ _ (by simp at hD;omega) hK rfl rfl)⟩
 case stop =>
  rintro D c pre W _ _ h _
  exact h.elim
def numB (zs:List Int):Int:=zs.foldr (fun x acc=>stepN acc x) 0
theorem upto_bk (zs:List Int):∀ k,k≤zs.length→numW (upto (bk zs) k)=numB (zs.drop (zs.length - k))
 | 0,_=>by simp [upto,numW,numB]
 | k+1,h=>by
  have hi:zs.length - (k+1) < zs.length:=by omega
  rw [upto_succ,numW_snoc,upto_bk zs k (by omega),List.drop_eq_getElem_cons hi]
  have e1:zs.length - (k+1)+1=zs.length - k:=by omega
  have e2:zs.length - 1 - k=zs.length - (k+1):=by omega
  rw [e1]
  simp only [numB,List.foldr_cons,e2,List.getElem?_eq_getElem hi,Option.getD_some]
theorem number_ok (A:Option Addr) (c:Nat) (xs:List Int) (w:World) (hr:Kd.C (Kd.int .u8) w A xs.length xs) (hl:xs.length≤140737488355328) :
  Calls Try.prog 95 #[.slice A xs.length c] w fun e w'=>e=.returned (.int .i64 (numB xs))∧Below w.heap.size w w':=by
 have hI:Bytes w.heap.size w (.slice A xs.length c) xs:=by
  cases xs with
  | nil=>exact .inl ⟨rfl,A,c,rfl⟩
  | cons x l =>
   obtain ⟨ad,e,hc⟩:=hr.2.2 (by simp)
   subst e
   have each:∀ j,j < (x::l).length→w.cell? (ad.add j)=some (.int .u8 ((x::l)[j]?.getD 0)):=by
    intro j hj
    obtain ⟨cs,_,hR,hcell⟩:=hc j _ (List.getElem?_eq_getElem hj)
    have hc2:cs=[.int .u8 (x::l)[j]]:=hR
    subst hc2
    have h0:=hcell 0 _ rfl
    have e1:j*(Kd.int .u8).sz+0=j:=by show j*1+0=j;omega
    rw [e1] at h0
    rw [h0,List.getElem?_eq_getElem hj]
    rfl
   refine .inr ⟨ad,c,rfl,?_,each⟩
   have h0:=World.block_lt_of_cell? w _ (each 0 (by simp))
   rwa [addB] at h0
 have h:=number_in Fence.wide 3 trivial trivial trivial rfl (by omega) A xs.length c xs hl w hI
 rw [upto_bk xs xs.length (Nat.le_refl _),Nat.sub_self,List.drop_zero] at h
 exact callsIn_wide.1 h
theorem stepN_nat (a x:Nat) (ha:a < 72057594037927936) (hx:x < 256):stepN (a:Int) (x:Int)=IntKind.i64.wrap ((a*256+x:Nat):Int):=by
 unfold stepN Go.bits
 have e1:wrap64 ((a:Int)*256)=((a:Int)*256+9223372036854775808) % 18446744073709551616 - 9223372036854775808:=(Go.IntWalk.i64_left _).symm.trans (IntKind.wrap_i64 _)
 have h1:(BitVec.ofInt 64 (wrap64 ((a:Int)*256))).toNat=a*256:=by
  rw [BitVec.toNat_ofInt,e1]
  omega
 have h2:(BitVec.ofInt 64 (wrap64 (x:Int))).toNat=x:=by
  rw [BitVec.toNat_ofInt]
  have e2:wrap64 (x:Int)=((x:Int)+9223372036854775808) % 18446744073709551616 - 9223372036854775808:=(Go.IntWalk.i64_left _).symm.trans (IntKind.wrap_i64 _)
  rw [e2]
  omega
 show IntKind.i64.wrap ((BitVec.ofInt 64 (wrap64 ((a:Int)*256)) ||| BitVec.ofInt 64 (wrap64 (x:Int))).toNat:Int)=_
 rw [BitVec.toNat_or,h1,h2]
 have e3:a*256+x=a*256 ||| x:=by
  have:=Nat.shiftLeft_add_eq_or_of_lt (show x < 2 ^ 8 by omega) a
  rwa [Nat.shiftLeft_eq] at this
 rw [e3]
def AllB (xs:List Int):Prop:=∀ x ∈ xs,0≤x∧x < 256
def hor:List Int→Nat
 | []=>0
 | x::l=>hor l*256+x.toNat
theorem hor_lt:∀ {xs:List Int},AllB xs→hor xs < 256 ^ xs.length
 | [],_=>by simp [hor]
 | x::l,h=>by
  have h1:=hor_lt (xs:=l) (fun y hy=>h y (List.mem_cons_of_mem _ hy))
  have h2:=h x (List.mem_cons_self ..)
  rw [hor,List.length_cons,Nat.pow_succ]
  omega
theorem pow_le7 {n:Nat} (h:n≤7):256 ^ n≤72057594037927936:=Nat.le_trans (Nat.pow_le_pow_right (by omega) h) (by decide)
theorem i64_small {n:Nat} (h:n < 9223372036854775808):IntKind.i64.wrap (n:Int)=n:=by rw [IntKind.wrap_i64];omega
theorem numB_wrap:∀ {xs:List Int},AllB xs→xs.length≤8→numB xs=IntKind.i64.wrap (hor xs:Int)
 | [],_,_=>by decide
 | x::l,h,hl=>by
  have ht:AllB l:=fun y hy=>h y (List.mem_cons_of_mem _ hy)
  have hx:=h x (List.mem_cons_self ..)
  have hll:l.length≤7:=by simp at hl;omega
  have hlt:=Nat.lt_of_lt_of_le (hor_lt ht) (pow_le7 hll)
  have ih:=numB_wrap ht (by omega)
  rw [i64_small (by omega)] at ih
  show stepN (numB l) x=_
  rw [ih]
  obtain ⟨m,rfl⟩:∃ m:Nat,x=m:=⟨x.toNat,by omega⟩
  rw [stepN_nat _ _ hlt (by omega),hor,Int.toNat_natCast]
theorem hor_last:∀ {xs:List Int},xs.length=8→AllB xs→(hor xs < 9223372036854775808↔xs.getD 7 0≤127)
 | [a,b,c,d,e,f,g,i],_,h=>by
  have:=hor_lt h
  simp only [AllB,List.mem_cons,List.not_mem_nil,or_false,forall_eq_or_imp,forall_eq] at h
  simp only [hor]
  simp
  omega
theorem hor_drop_le:∀ (m:Nat) (l:List Int),hor (l.drop m)≤hor l
 | 0,l=>by simp
 | m+1,[]=>by simp
 | m+1,x::l=>by
  have:=hor_drop_le m l
  rw [List.drop_succ_cons,hor]
  omega
theorem hor_at {l:List Int} {m:Nat} (h:m < l.length):hor (l.drop m)=hor (l.drop (m+1))*256+(l.getD m 0).toNat:=by
 rw [List.drop_eq_getElem_cons h,hor,List.getD_eq_getElem?_getD,List.getElem?_eq_getElem h,Option.getD_some]
theorem numB_small {xs:List Int} (h:AllB xs) (hl:xs.length≤7):numB xs=hor xs:=by
 have hlt:=Nat.lt_of_lt_of_le (hor_lt h) (pow_le7 hl)
 rw [numB_wrap h (by omega),i64_small (by omega)]
theorem numB_eight {xs:List Int} (h:AllB xs) (hl:xs.length=8):(xs.getD 7 0≤127→numB xs=hor xs)∧(127 < xs.getD 7 0→numB xs < 0):=by
 have hlt:=hor_lt h
 rw [hl] at hlt
 have hs:=hor_last hl h
 rw [numB_wrap h (by omega),IntKind.wrap_i64]
 constructor
 ·intro hx
  have:=hs.2 hx
  omega
 ·intro hx
  have h2:¬ hor xs < 9223372036854775808:=fun h3=>by have:=hs.1 h3;omega
  omega
end Go.Proofs.Ytgjibcfkjaedfaa.Back
