-- A part of the text PageEnc, thinned by a program of this session.
import Derived.Test.YtgjibcfkjaedfaaTHNdFrom
import Derived.Test.YtgjibcfkjaedfaaTHCrc
import Derived.Test.YtgjibcfkjaedfaaTHPureNode
import Derived.Deep.RegionLaw
import Derived.Laws.CopyOwn
namespace Go.Proofs.Ytgjibcfkjaedfaa.Page
open Go.RowKit Go.Proofs.YtgjibcfkjaedfaaW.PrintWords Go.Proofs.YtgjibcfkjaedfaaW.PrintLast Go.Proofs.YtgjibcfkjaedfaaW.PrintMore Go.Proofs.Ytgjibcfkjaedfaa.Wire Go.Proofs.Ytgjibcfkjaedfaa.Crc Go.Proofs.Ytgjibcfkjaedfaa.Pr
open Go.Proofs.Ytgjibcfkjaedfaa.Back (AllB numB numB_small)
open Go.Proofs.Ytgjibcfkjaedfaa.Pure (nodeB)
set_option linter.unusedVariables false
set_option linter.unusedSimpArgs false
def txB (s:ByteArray):List Int:=le s.size 2++bytesOf s
def hdrB (lv lsn rt:Int) (high:ByteArray) (keys:List ByteArray):List Int:=le lv 1++le lsn 8++le rt 4++le keys.length 2++txB high
def kidsB (keys:List ByteArray) (kids:List Int):Nat→List Int
 | 0=>[]
 | i+1=>kidsB keys kids i++(if i=0 then [] else txB (rdOf ByteArray.empty keys ((i:Int) - 1)))++le (rd kids i) 4
def valsB (keys vals:List ByteArray):Nat→List Int
 | 0=>[]
 | i+1=>valsB keys vals i++txB (rdOf ByteArray.empty keys i)++txB (rdOf ByteArray.empty vals i)
def bodyB (lv lsn rt:Int) (high:ByteArray) (keys vals:List ByteArray) (kids:List Int):List Int:=hdrB lv lsn rt high keys++kidsB keys kids kids.length++valsB keys vals vals.length
def padB (xs:List Int):List Int:=xs++List.replicate (252 - xs.length) 0
def sealB (xs:List Int):List Int:=xs++le (sumOf xs:Int) 4
def pageF (lv lsn rt:Int) (high:ByteArray) (keys vals:List ByteArray) (kids:List Int):List Int×Int :=
 if nodeB lv lsn rt high keys vals kids=true then (sealB (padB (bodyB lv lsn rt high keys vals kids)),0) else ([],60)
structure Fit (lv lsn rt:Int) (high:ByteArray) (keys vals:List ByteArray) (kids:List Int):Prop where
 flv:0≤lv∧lv≤20
 flsn:0≤lsn∧lsn≤1099511627776
 frt:0≤rt∧rt≤4096
 fhigh:high.size≤16
 fkeys:∀ y ∈ keys,y.size≤16
 fvals:∀ y ∈ vals,y.size≤32
 fkids:∀ x ∈ kids,1≤x∧x≤4096
 kn:keys.length≤256
 vn:vals.length=0∨vals.length=keys.length
 dn:kids.length=0∨kids.length=keys.length+1
 fbody:(bodyB lv lsn rt high keys vals kids).length≤252
theorem txB_length (s:ByteArray):(txB s).length=2+s.size:=by unfold txB;rw [List.length_append,le_length,bytesOf_length]
def EncIn (w w0:World) (g:Nat) (xs:Nat→List Int) (n:Nat) (v:Value) (wr:World):Prop :=
 ∃ x:Int,Aside0 (0≤x∧x≤(n:Int))∧v=.int .i64 x∧Aside0 (WrFrom g wr g (xs x.toNat))∧Aside0 (Below w.heap.size w wr)∧Aside0 (Below w0.heap.size w0 wr)∧Aside0 (g≤wr.heap.size)
set_option maxHeartbeats 8000000 in
set_option maxRecDepth 100000 in
theorem enc_no (a0_0:Int) (a0_1:Int) (a0_2:Int) (a0_3:ByteArray) (A0_4:Option Addr) (c0_4:Nat) (l0_4:List ByteArray) (A0_5:Option Addr) (c0_5:Nat) (l0_5:List ByteArray) (A0_6:Option Addr) (c0_6:Nat) (l0_6:List Int) (w:World) (hr0_4:Kd.C Kd.string w A0_4 l0_4.length l0_4) (hc0_4:l0_4.length≤c0_4) (hr0_5:Kd.C Kd.string w A0_5 l0_5.length l0_5) (hc0_5:l0_5.length≤c0_5) (hr0_6:Kd.C (Kd.int .i64) w A0_6 l0_6.length l0_6) (hc0_6:l0_6.length≤c0_6) (kx:Nat) (hck:page_Check.f kx a0_0 a0_1 a0_2 a0_3 l0_4 l0_5 l0_6=some 60) :
  Calls Try.prog 104 #[.agg #[.int .i64 a0_0,.int .i64 a0_1,.int .i64 a0_2,.string a0_3,.slice A0_4 l0_4.length c0_4,.slice A0_5 l0_5.length c0_5,.slice A0_6 l0_6.length c0_6]] w fun e w'=>e=.returned (.tuple #[.slice none 0 0,.int .i64 60])∧Below w.heap.size w w':=by
 have hB0:=below_alloc (Below.refl w.heap.size w) (.cells #[.int .i64 a0_0,.int .i64 a0_1,.int .i64 a0_2,.string a0_3,.slice A0_4 l0_4.length c0_4,.slice A0_5 l0_5.length c0_5,.slice A0_6 l0_6.length c0_6] 113)
 have HB0:=Aside0.mk hB0
 have HX:Aside0 (NdAt (w.alloc (.cells #[.int .i64 a0_0,.int .i64 a0_1,.int .i64 a0_2,.string a0_3,.slice A0_4 l0_4.length c0_4,.slice A0_5 l0_5.length c0_5,.slice A0_6 l0_6.length c0_6] 113)) w.heap.size a0_0 a0_1 a0_2 a0_3 (.slice A0_4 l0_4.length c0_4) (.slice A0_5 l0_5.length c0_5) (.slice A0_6 l0_6.length c0_6)):=⟨blk_newN _ _⟩
 have hchk:=page_Check.calls kx a0_0 a0_1 a0_2 a0_3 A0_4 c0_4 l0_4 A0_5 c0_5 l0_5 A0_6 c0_6 l0_6 60 (w.alloc (.cells #[.int .i64 a0_0,.int .i64 a0_1,.int .i64 a0_2,.string a0_3,.slice A0_4 l0_4.length c0_4,.slice A0_5 l0_5.length c0_5,.slice A0_6 l0_6.length c0_6] 113)) (Kd.C_below hr0_4 hB0) hc0_4 (Kd.C_below hr0_5 hB0) hc0_5 (Kd.C_below hr0_6 hB0) hc0_6 hck
 clear hB0 hr0_4 hr0_5 hr0_6 hc0_4 hc0_5 hc0_6 hck
 go_enter Try.func104,Try.ntmps104
 go_wp2_with (go_at_call 112;(with_reducible refine hchk.mono ?_);rintro r w2 ⟨rfl,hB2⟩;(have HB2:=Aside0.mk (below_from2 HB0.out (Nat.le_refl _) hB2));clear hB2 hchk)
 go_ret2
 exact ⟨rfl,HB2.out⟩
theorem below_le {w w1:World} {b b':Nat} (h:Below b w w1) (hb:b'≤b):Below b' w w1:=⟨h.os,h.tape,h.output,h.size,fun k hk=>h.block k (by omega)⟩
theorem numOk1 {n:Int} (h:0≤n) (k:n≤20):numOk n 1=true:=by unfold numOk numTop;simp;omega
theorem numOk2 {n:Int} (h:0≤n) (k:n≤65535):numOk n 2=true:=by unfold numOk numTop;simp;omega
theorem numOk4 {n:Int} (h:0≤n) (k:n≤4096):numOk n 4=true:=by unfold numOk numTop;simp;omega
theorem numOk8 {n:Int} (h:0≤n) (k:n≤1099511627776):numOk n 8=true:=by unfold numOk numTop;simp;omega
theorem rd_small {l:List ByteArray} {n:Nat} (h:∀ y ∈ l,y.size≤n) (x:Int):(rdOf ByteArray.empty l x).size≤n:=by
 unfold rdOf
 rw [List.getD_eq_getElem?_getD]
 rcases Nat.lt_or_ge x.toNat l.length with hx|hx
 ·rw [List.getElem?_eq_getElem hx]
  exact h _ (List.getElem_mem hx)
 ·rw [List.getElem?_eq_none hx]
  exact Nat.zero_le _
theorem hdrB_length (lv lsn rt:Int) (high:ByteArray) (keys:List ByteArray):(hdrB lv lsn rt high keys).length=17+high.size:=by
 unfold hdrB
 rw [List.length_append,List.length_append,List.length_append,List.length_append,le_length,le_length,le_length,le_length,txB_length]
 omega
theorem kidsB_length {keys:List ByteArray} (kids:List Int) (h:∀ y ∈ keys,y.size≤16):∀ i,(kidsB keys kids i).length≤22*i
 | 0=>by simp [kidsB]
 | i+1=>by
  have ih:=kidsB_length kids h i
  have hs:=rd_small h ((i:Int) - 1)
  have:(if i=0 then [] else txB (rdOf ByteArray.empty keys ((i:Int) - 1))).length≤18:=by
   split
   ·simp
   ·rw [txB_length];omega
  rw [kidsB,List.length_append,List.length_append,le_length]
  omega
theorem valsB_length {keys vals:List ByteArray} (h:∀ y ∈ keys,y.size≤16) (k:∀ y ∈ vals,y.size≤32):∀ i,(valsB keys vals i).length≤52*i
 | 0=>by simp [valsB]
 | i+1=>by
  have ih:=valsB_length h k i
  have h1:=rd_small h (i:Int)
  have h2:=rd_small k (i:Int)
  rw [valsB,List.length_append,List.length_append,txB_length,txB_length]
  omega
theorem kids_rd {kids:List Int} (h:∀ x ∈ kids,1≤x∧x≤4096) {x:Int} (h0:0≤x) (h1:x < (kids.length:Int)):1≤rd kids x∧rd kids x≤4096:=by
 obtain ⟨n,rfl⟩:=Int.eq_ofNat_of_zero_le h0
 rw [Go.Proofs.Ytgjibcfkjaedfaa.Pure.rdI_get (by omega)]
 exact h _ (List.getElem_mem _)
theorem kidsB_succ (keys:List ByteArray) (kids:List Int) (x:Int) (h0:0≤x):kidsB keys kids (x+1).toNat=kidsB keys kids x.toNat++(if x=0 then [] else txB (rdOf ByteArray.empty keys (x - 1)))++le (rd kids x) 4:=by
 obtain ⟨n,rfl⟩:=Int.eq_ofNat_of_zero_le h0
 rw [show ((n:Int)+1).toNat=n+1 by omega,kidsB,Int.toNat_natCast]
 by_cases e:n=0
 ·rw [if_pos e,if_pos (by omega)]
 ·rw [if_neg e,if_neg (by omega)]
theorem valsB_succ (keys vals:List ByteArray) (x:Int) (h0:0≤x):valsB keys vals (x+1).toNat=valsB keys vals x.toNat++txB (rdOf ByteArray.empty keys x)++txB (rdOf ByteArray.empty vals x):=by
 obtain ⟨n,rfl⟩:=Int.eq_ofNat_of_zero_le h0
 rw [show ((n:Int)+1).toNat=n+1 by omega,valsB,Int.toNat_natCast]
theorem le_allB:∀ (n:Int) (k:Nat),AllB (le n k)
 | _,0=>fun x hx=>by simp [le] at hx
 | n,k+1=>fun x hx=>by
  rw [le,List.mem_cons] at hx
  rcases hx with rfl|hx
  ·omega
  ·exact le_allB _ k x hx
theorem bytesOf_allB (t:ByteArray):AllB (bytesOf t):=by
 intro x hx
 unfold bytesOf at hx
 obtain ⟨b,_,rfl⟩:=List.mem_map.1 hx
 have:=b.toNat_lt
 omega
theorem allB_append {xs ys:List Int} (h:AllB xs) (k:AllB ys):AllB (xs++ys):=fun x hx=>(List.mem_append.1 hx).elim (h x) (k x)
theorem txB_allB (t:ByteArray):AllB (txB t):=allB_append (le_allB _ _) (bytesOf_allB _)
theorem kidsB_allB (keys:List ByteArray) (kids:List Int):∀ i,AllB (kidsB keys kids i)
 | 0=>fun x hx=>by simp [kidsB] at hx
 | i+1=>by
  rw [kidsB]
  refine allB_append (allB_append (kidsB_allB keys kids i) ?_) (le_allB _ _)
  split
  ·exact fun x hx=>by simp at hx
  ·exact txB_allB _
theorem valsB_allB (keys vals:List ByteArray):∀ i,AllB (valsB keys vals i)
 | 0=>fun x hx=>by simp [valsB] at hx
 | i+1=>by
  rw [valsB]
  exact allB_append (allB_append (valsB_allB keys vals i) (txB_allB _)) (txB_allB _)
theorem bodyB_allB (lv lsn rt:Int) (high:ByteArray) (keys vals:List ByteArray) (kids:List Int):AllB (bodyB lv lsn rt high keys vals kids):=allB_append (allB_append (allB_append (allB_append (allB_append (allB_append (le_allB _ _) (le_allB _ _)) (le_allB _ _)) (le_allB _ _)) (txB_allB _)) (kidsB_allB _ _ _)) (valsB_allB _ _ _)
theorem padB_allB {xs:List Int} (h:AllB xs):AllB (padB xs):=allB_append h fun x hx=>by rw [List.eq_of_mem_replicate hx];omega
theorem padB_length {xs:List Int} (h:xs.length≤252):(padB xs).length=252:=by unfold padB;rw [List.length_append,List.length_replicate];omega
theorem zero252:Try.zeroCells172=(List.replicate 252 (Value.int .u8 0)).toArray:=by kernel_rfl
theorem pad_splice (xs:List Int) (h:xs.length≤252):splice (List.replicate 252 (Value.int .u8 0)) 0 (xs.map (Value.int .u8))=(padB xs).map (Value.int .u8):=by
 unfold splice padB
 rw [List.take_zero,List.nil_append,List.map_append,List.map_replicate,List.drop_replicate,List.length_map,Nat.zero_add]
theorem size8:(Try.prog.info? 5).map (·.size)=some 1:=by
 have h:=(info_parts info8).choose_spec
 rw [h.1]
 exact congrArg some h.2.2.1
theorem blk_new (w:World) (o:Obj):(World.drew (w.alloc o)).heap[w.heap.size]?=some o:=by
 show (w.heap.push o)[w.heap.size]?=some o
 simp
theorem blk_keep {w w1:World} {g:Nat} {o:Obj} (h:w.heap[g]?=some o) (hB:Below w.heap.size w w1):w1.heap[g]?=some o:=by
 rw [hB.block g (Array.getElem?_eq_some_iff.1 h).1]
 exact h
theorem C_block {w:World} {g:Nat} {xs:List Int} {t:TypeId} (h:w.heap[g]?=some (.cells (xs.map (Value.int .u8)).toArray t (0,0))) (hl:xs.length≤9223372036854775807):Kd.C (Kd.int .u8) w (some ⟨g,0,none⟩) xs.length xs:=by
 refine ⟨rfl,hl,fun _=>⟨_,rfl,fun j p hj=>⟨[.int .u8 p],rfl,rfl,fun i u hu=>?_⟩⟩⟩
 obtain rfl:i=0:=by
  rcases Nat.eq_zero_or_pos i with h|h
  ·exact h
  ·rw [List.getElem?_eq_none (by simp;omega)] at hu
   exact absurd hu (by simp)
 simp only [List.getElem?_cons_zero,Option.some.injEq] at hu
 subst hu
 have e:(⟨g,0,none⟩:Addr).add (j*(Kd.int .u8).sz+0)=⟨g,j,none⟩:=by
  have:(Kd.int .u8).sz=1:=rfl
  rw [this]
  simp [Addr.add]
  exact fun h=>h.symm
 rw [e]
 simp [World.cell?,h,hj]
theorem cells_of {k:IntKind} {w:World} {A:Option Addr} {n:Nat} {xs:List Int} (h:Kd.C (Kd.int k) w A n xs) (hp:0 < xs.length):∃ ad,A=some ad∧∀ j v,(xs.map (Value.int k))[j]?=some v→w.cell? (ad.add j)=some v:=by
 obtain ⟨ad,e,hc⟩:=h.2.2 (by rw [← h.1];exact hp)
 refine ⟨ad,e,fun j v hv=>?_⟩
 rw [List.getElem?_map] at hv
 obtain ⟨p,hp,rfl⟩:=Option.map_eq_some_iff.1 hv
 obtain ⟨c,_,hr,hcc⟩:=hc j p hp
 obtain rfl:c=[.int k p]:=hr
 have:=hcc 0 _ rfl
 rwa [show (Kd.int k).sz=1 from rfl,Nat.mul_one,Nat.add_zero] at this
set_option maxHeartbeats 8000000 in
set_option maxRecDepth 100000 in
theorem enc_yes (a0_0:Int) (a0_1:Int) (a0_2:Int) (a0_3:ByteArray) (A0_4:Option Addr) (c0_4:Nat) (l0_4:List ByteArray) (A0_5:Option Addr) (c0_5:Nat) (l0_5:List ByteArray) (A0_6:Option Addr) (c0_6:Nat) (l0_6:List Int) (w:World) (hr0_4:Kd.C Kd.string w A0_4 l0_4.length l0_4) (hc0_4:l0_4.length≤c0_4) (hr0_5:Kd.C Kd.string w A0_5 l0_5.length l0_5) (hc0_5:l0_5.length≤c0_5) (hr0_6:Kd.C (Kd.int .i64) w A0_6 l0_6.length l0_6) (hc0_6:l0_6.length≤c0_6) (kx:Nat) (hck:page_Check.f kx a0_0 a0_1 a0_2 a0_3 l0_4 l0_5 l0_6=some 0) (hfit:Fit a0_0 a0_1 a0_2 a0_3 l0_4 l0_5 l0_6) :
  Calls Try.prog 104 #[.agg #[.int .i64 a0_0,.int .i64 a0_1,.int .i64 a0_2,.string a0_3,.slice A0_4 l0_4.length c0_4,.slice A0_5 l0_5.length c0_5,.slice A0_6 l0_6.length c0_6]] w fun e w'=>∃ u,e=.returned (.tuple #[u,.int .i64 0])∧Kd.R (Kd.int .u8) 5 w' w.heap.size (fun _=>True) u (sealB (padB (bodyB a0_0 a0_1 a0_2 a0_3 l0_4 l0_5 l0_6)))∧Below w.heap.size w w':=by
 obtain ⟨w0,hw0⟩:∃ w0,w0=(w.alloc (.cells #[.int .i64 a0_0,.int .i64 a0_1,.int .i64 a0_2,.string a0_3,.slice A0_4 l0_4.length c0_4,.slice A0_5 l0_5.length c0_5,.slice A0_6 l0_6.length c0_6] 113)):=⟨_,rfl⟩
 have hB0:Below w.heap.size w w0:=by rw [hw0];exact below_alloc (Below.refl w.heap.size w) (.cells #[.int .i64 a0_0,.int .i64 a0_1,.int .i64 a0_2,.string a0_3,.slice A0_4 l0_4.length c0_4,.slice A0_5 l0_5.length c0_5,.slice A0_6 l0_6.length c0_6] 113)
 have HX:Aside0 (NdAt w0 w.heap.size a0_0 a0_1 a0_2 a0_3 (.slice A0_4 l0_4.length c0_4) (.slice A0_5 l0_5.length c0_5) (.slice A0_6 l0_6.length c0_6)):=⟨by rw [hw0];exact blk_newN _ _⟩
 have hchk:=page_Check.calls kx a0_0 a0_1 a0_2 a0_3 A0_4 c0_4 l0_4 A0_5 c0_5 l0_5 A0_6 c0_6 l0_6 0 w0 (Kd.C_below hr0_4 hB0) hc0_4 (Kd.C_below hr0_5 hB0) hc0_5 (Kd.C_below hr0_6 hB0) hc0_6 hck
 have HC4:=Aside0.mk (Kd.C_below hr0_4 hB0)
 have HC5:=Aside0.mk (Kd.C_below hr0_5 hB0)
 have HC6:=Aside0.mk (Kd.C_below hr0_6 hB0)
 have HF:=Aside0.mk hfit
 have HN1:=Aside0.mk (numOk1 hfit.flv.1 hfit.flv.2)
 have HN2:=Aside0.mk (numOk8 hfit.flsn.1 hfit.flsn.2)
 have HN3:=Aside0.mk (numOk4 hfit.frt.1 hfit.frt.2)
 have HN4:Aside0 (numOk (l0_4.length:Int) 2=true):=⟨numOk2 (Int.natCast_nonneg _) (by have:=hfit.kn;omega)⟩
 have HN5:Aside0 (a0_3.size≤65535):=⟨by have:=hfit.fhigh;omega⟩
 have HB:=Aside0.mk hB0
 have HP:=Aside0.mk (Below.refl w0.heap.size w0)
 rw [hw0] at hchk
 have hz4:l0_4.length≤9223372036854775807:=by have:=hfit.kn;omega
 have hz5:l0_5.length≤9223372036854775807:=by have:=hfit.kn;have:=hfit.vn;omega
 have hz6:l0_6.length≤9223372036854775807:=by have:=hfit.kn;have:=hfit.dn;omega
 have HW0:=Aside0.mk hw0
 clear hB0 hr0_4 hr0_5 hr0_6 hc0_4 hc0_5 hc0_6 hck hfit hw0
 go_enter Try.func104,Try.ntmps104
 go_wp2_with (first
  | (go_at_call 112;(with_reducible refine hchk.mono ?_);rintro r w2 ⟨rfl,hB2⟩;rw [← HW0.out] at hB2;(replace HB:=Aside0.mk (below_from2 HB.out (Nat.le_refl _) hB2));(replace HP:=Aside0.mk (below_from2 HP.out (Nat.le_refl _) hB2));(have hx:=HX.out.below HP.out);obtain ⟨⟨b0,b1,b2,b3,b4,b5,b6⟩,_⟩:=hx.cells;(have lx:=hx.lt);(have hnew:=new_from w2);clear hB2 hchk hx)
  | (go_at_call 73;(with_reducible refine hnew.mono ?_);rintro r w3 ⟨rfl,hw,hB⟩;clear b0 b1 b2 b3 b4 b5 b6 lx;(have HG0:=Aside0.mk HP.out.size);(have HG:=Aside0.mk HB.out.size);(replace HB:=Aside0.mk (below_from2 HB.out (Nat.le_refl _) hB));(replace HP:=Aside0.mk (below_from2 HP.out (Nat.le_refl _) hB));(have HS:=Aside0.mk hB.size);(have hx:=HX.out.below HP.out);obtain ⟨⟨b0,b1,b2,b3,b4,b5,b6⟩,_⟩:=hx.cells;(have lx:=hx.lt);(have hn1:=num_from a0_0 1 hw HS.out (by have:=HF.out.flv;omega) (by simp));rw [if_pos HN1.out,if_pos HN1.out] at hn1;clear hw hB hx hnew)
  | (go_at_call 74;(with_reducible refine hn1.mono ?_);rintro r w4 ⟨rfl,hw,hB⟩;clear b0 b1 b2 b3 b4 b5 b6 lx;(replace HB:=Aside0.mk (HB.out.trans (below_le hB HG.out)));(replace HP:=Aside0.mk (HP.out.trans (below_le hB HG0.out)));(replace HS:=Aside0.mk (Nat.le_trans HS.out hB.size));(have HW1:=Aside0.mk hw);(have hx:=HX.out.below HP.out);obtain ⟨⟨b0,b1,b2,b3,b4,b5,b6⟩,_⟩:=hx.cells;(have lx:=hx.lt);(have hn2:=num_from a0_1 8 hw HS.out (by have:=HF.out.flsn;omega) (by simp [le_length]));rw [if_pos HN2.out,if_pos HN2.out] at hn2;clear hw hB hx hn1)
  | (go_at_call 74;(with_reducible refine hn2.mono ?_);rintro r w5 ⟨rfl,hw,hB⟩;clear b0 b1 b2 b3 b4 b5 b6 lx;(replace HB:=Aside0.mk (HB.out.trans (below_le hB HG.out)));(replace HP:=Aside0.mk (HP.out.trans (below_le hB HG0.out)));(replace HS:=Aside0.mk (Nat.le_trans HS.out hB.size));(have HW2:=Aside0.mk hw);(have hx:=HX.out.below HP.out);obtain ⟨⟨b0,b1,b2,b3,b4,b5,b6⟩,_⟩:=hx.cells;(have lx:=hx.lt);(have hn3:=num_from a0_2 4 hw HS.out (by have:=HF.out.frt;omega) (by simp [le_length]));rw [if_pos HN3.out,if_pos HN3.out] at hn3;clear hw hB hx hn2)
  | (go_at_call 74;(with_reducible refine hn3.mono ?_);rintro r w6 ⟨rfl,hw,hB⟩;clear b0 b1 b2 b3 b4 b5 b6 lx;(replace HB:=Aside0.mk (HB.out.trans (below_le hB HG.out)));(replace HP:=Aside0.mk (HP.out.trans (below_le hB HG0.out)));(replace HS:=Aside0.mk (Nat.le_trans HS.out hB.size));(have HW3:=Aside0.mk hw);(have hx:=HX.out.below HP.out);obtain ⟨⟨b0,b1,b2,b3,b4,b5,b6⟩,_⟩:=hx.cells;(have lx:=hx.lt);(have hn4:=num_from (l0_4.length:Int) 2 hw HS.out (by have:=HF.out.kn;omega) (by simp [le_length]));rw [if_pos HN4.out,if_pos HN4.out] at hn4;clear hw hB hx hn3)
  | (go_at_call 74;(with_reducible refine hn4.mono ?_);rintro r w7 ⟨rfl,hw,hB⟩;clear b0 b1 b2 b3 b4 b5 b6 lx;(replace HB:=Aside0.mk (HB.out.trans (below_le hB HG.out)));(replace HP:=Aside0.mk (HP.out.trans (below_le hB HG0.out)));(replace HS:=Aside0.mk (Nat.le_trans HS.out hB.size));(have HW4:=Aside0.mk hw);(have hx:=HX.out.below HP.out);obtain ⟨⟨b0,b1,b2,b3,b4,b5,b6⟩,_⟩:=hx.cells;(have lx:=hx.lt);(have hn5:=text_from a0_3 hw HS.out (by simp [le_length]));rw [if_pos HN5.out,if_pos HN5.out] at hn5;clear hw hB hx hn4)
  | (go_at_call 75;(with_reducible refine hn5.mono ?_);rintro r w8 ⟨rfl,hw,hB⟩;clear b0 b1 b2 b3 b4 b5 b6 lx;(replace HB:=Aside0.mk (HB.out.trans (below_le hB HG.out)));(replace HP:=Aside0.mk (HP.out.trans (below_le hB HG0.out)));(replace HS:=Aside0.mk (Nat.le_trans HS.out hB.size));(have HW5:=Aside0.mk hw);(have hx:=HX.out.below HP.out);obtain ⟨⟨b0,b1,b2,b3,b4,b5,b6⟩,_⟩:=hx.cells;(have lx:=hx.lt);skip;clear hw hB hx hn5))
 clear b0 b1 b2 b3 b4 b5 b6 lx
 go_loopw [41] (fun v41 wr=>EncIn w w0 w2.heap.size (fun i=>hdrB a0_0 a0_1 a0_2 a0_3 l0_4++kidsB l0_4 l0_6 i) l0_6.length v41 wr) (fun v41 _=>l0_6.length - (intOf v41).toNat)
 case atStart=>exact ⟨0,⟨⟨Int.le_refl _,Int.natCast_nonneg _⟩⟩,rfl,⟨by show WrFrom _ _ _ (hdrB a0_0 a0_1 a0_2 a0_3 l0_4++[]);rw [List.append_nil];exact HW5.out⟩,HB,HP,HS⟩
 case round =>
  obtain ⟨x,HK,rfl,HW,HB,HP,HS⟩:=hrel
  replace HW:Aside0 (WrFrom w2.heap.size wr w2.heap.size (hdrB a0_0 a0_1 a0_2 a0_3 l0_4++kidsB l0_4 l0_6 x.toNat)):=HW
  have hx:=HX.out.below HP.out
  obtain ⟨⟨b0,b1,b2,b3,b4,b5,b6⟩,_⟩:=hx.cells
  have lx:=hx.lt
  clear hx
  by_cases hlt:x < (l0_6.length:Int)
  ·have p0:(0:Int)≤x:=HK.out.1
   have hdn:l0_6.length=l0_4.length+1:=by have:=HF.out.dn;omega
   have hkr:=kids_rd HF.out.fkids p0 hlt
   have hkl:=kidsB_length l0_6 HF.out.fkeys x.toNat
   have hhl:=hdrB_length a0_0 a0_1 a0_2 a0_3 l0_4
   have hkn:=HF.out.kn
   have hfh:=HF.out.fhigh
   have hll:(hdrB a0_0 a0_1 a0_2 a0_3 l0_4).length+(kidsB l0_4 l0_6 x.toNat).length≤100000:=by
    omega
   have HLL:=Aside0.mk hll
   obtain ⟨ad,ea,hcell⟩:=Kd.at_int (Kd.C_below HC6.out HP.out) x p0 hlt
   cases ea
   generalize hkv:rd l0_6 x=kv at hcell hkr
   have HKV:=Aside0.mk hkv
   have HKO:=Aside0.mk (numOk4 (n:=kv) (by omega) hkr.2)
   have HKR:=Aside0.mk hkr
   clear hkv hkr
   have hw1:wrap64 (x+1)=x+1:=by
    unfold wrap64
    omega
   have HW1:=Aside0.mk hw1
   have HLT:=Aside0.mk hlt
   by_cases hx0:x > 0
   ·have hw2:IntKind.i64.wrap (x - 1)=x - 1:=by
     rw [IntKind.wrap_i64]
     omega
    have q0:(0:Int)≤x - 1:=by omega
    have q1:(1:Int)≤x:=by omega
    have q2:x - 1 < (l0_4.length:Int):=by omega
    obtain ⟨ad4,ea4,hcell4⟩:=Kd.at_string (Kd.C_below HC4.out HP.out) (x - 1) q0 q2
    cases ea4
    rw [show (x - 1).toNat=x.toNat - 1 by omega] at hcell4
    have hks:=rd_small HF.out.fkeys (x - 1)
    have HKS:=Aside0.mk (show (rdOf ByteArray.empty l0_4 (x - 1)).size≤65535 by omega)
    generalize hky:rdOf ByteArray.empty l0_4 (x - 1)=ky at hcell4 HKS
    have HKY:=Aside0.mk hky
    have hn1:=text_from ky HW.out HS.out (by have:=HLL.out;rw [List.length_append];omega)
    rw [if_pos HKS.out,if_pos HKS.out] at hn1
    have HX0:=Aside0.mk hx0
    have dx:decide (x > 0)=true:=decide_eq_true hx0
    have d1:decide (x < (l0_6.length:Int))=true:=decide_eq_true hlt
    have e0:=eq_true p0
    have e1:=eq_true q0
    have e2:=eq_true q1
    have e3:=eq_true q2
    have e4:=eq_true hx0
    replace hlt:=eq_true hlt
    clear hky hks hkl hhl hkn hfh hll hdn hw1 p0 q0 q1 q2 hx0
    go_wp2_with (first
     | (go_at_call 75;(with_reducible refine hn1.mono ?_);rintro r wa ⟨rfl,hw,hB⟩;clear b0 b1 b2 b3 b4 b5 b6 lx;(replace HB:=Aside0.mk (HB.out.trans (below_le hB HG.out)));(replace HP:=Aside0.mk (HP.out.trans (below_le hB HG0.out)));(replace HS:=Aside0.mk (Nat.le_trans HS.out hB.size));(have hn2:=num_from kv 4 hw HS.out (by have:=HKR.out;omega) (by have:=HLL.out;have:=HKS.out;simp [le_length,bytesOf_length];omega));rw [if_pos HKO.out,if_pos HKO.out] at hn2;clear hw hB hn1)
     | (go_at_call 74;(with_reducible refine hn2.mono ?_);rintro r wb ⟨rfl,hw,hB⟩;(replace HB:=Aside0.mk (HB.out.trans (below_le hB HG.out)));(replace HP:=Aside0.mk (HP.out.trans (below_le hB HG0.out)));(replace HS:=Aside0.mk (Nat.le_trans HS.out hB.size));(have HWb:=Aside0.mk hw);clear hw hB hn2))
    exact ⟨⟨x+1,⟨by have:=HK.out;have:=HLT.out;omega⟩,by rw [HW1.out],⟨by show WrFrom _ _ _ (_++kidsB l0_4 l0_6 (x+1).toNat);rw [kidsB_succ _ _ _ HK.out.1,if_neg (by have:=HX0.out;omega),HKY.out,HKV.out,← List.append_assoc,← List.append_assoc];exact HWb.out⟩,HB,HP,HS⟩,by have:=HK.out;have:=HLT.out;simp only [intOf];rw [HW1.out];omega⟩
   ·have dx:decide (x > 0)=false:=decide_eq_false hx0
    have d1:decide (x < (l0_6.length:Int))=true:=decide_eq_true hlt
    have HX0:=Aside0.mk hx0
    have hn2:=num_from kv 4 HW.out HS.out (by have:=HKR.out;omega) (by have:=HLL.out;rw [List.length_append];omega)
    rw [if_pos HKO.out,if_pos HKO.out] at hn2
    have e0:=eq_true p0
    have e4:=eq_false hx0
    replace hlt:=eq_true hlt
    clear hkl hhl hkn hfh hll hdn hw1 p0 hx0
    go_wp2_with (first
     | (go_at_call 74;(with_reducible refine hn2.mono ?_);rintro r wb ⟨rfl,hw,hB⟩;clear b0 b1 b2 b3 b4 b5 b6 lx;(replace HB:=Aside0.mk (HB.out.trans (below_le hB HG.out)));(replace HP:=Aside0.mk (HP.out.trans (below_le hB HG0.out)));(replace HS:=Aside0.mk (Nat.le_trans HS.out hB.size));(have HWb:=Aside0.mk hw);clear hw hB hn2))
    exact ⟨⟨x+1,⟨by have:=HK.out;have:=HLT.out;omega⟩,by rw [HW1.out],⟨by show WrFrom _ _ _ (_++kidsB l0_4 l0_6 (x+1).toNat);rw [kidsB_succ _ _ _ HK.out.1,if_pos (by have:=HX0.out;have:=HK.out;omega),List.append_nil,HKV.out,← List.append_assoc];exact HWb.out⟩,HB,HP,HS⟩,by have:=HK.out;have:=HLT.out;simp only [intOf];rw [HW1.out];omega⟩
  ·have d1:decide (x < (l0_6.length:Int))=false:=decide_eq_false hlt
   have hxe:x=(l0_6.length:Int):=by have:=HK.out;omega
   rw [hxe,Int.toNat_natCast] at HW
   replace hlt:=eq_false hlt
   clear hxe
   go_wp2
   clear b0 b1 b2 b3 b4 b5 b6 lx
   go_loopw [63] (fun v63 wr=>EncIn w w0 w2.heap.size (fun i=>hdrB a0_0 a0_1 a0_2 a0_3 l0_4++kidsB l0_4 l0_6 l0_6.length++valsB l0_4 l0_5 i) l0_5.length v63 wr) (fun v63 _=>l0_5.length - (intOf v63).toNat)
   case atStart=>exact ⟨0,⟨⟨Int.le_refl _,Int.natCast_nonneg _⟩⟩,rfl,⟨by show WrFrom _ _ _ (hdrB a0_0 a0_1 a0_2 a0_3 l0_4++kidsB l0_4 l0_6 l0_6.length++[]);rw [List.append_nil];exact HW.out⟩,HB,HP,HS⟩
   case round =>
    clear HW HB HP HS HK
    rename_i wq
    obtain ⟨y,HK,rfl,HW,HB,HP,HS⟩:=hrel
    replace HW:Aside0 (WrFrom w2.heap.size wr w2.heap.size (hdrB a0_0 a0_1 a0_2 a0_3 l0_4++kidsB l0_4 l0_6 l0_6.length++valsB l0_4 l0_5 y.toNat)):=HW
    have hx:=HX.out.below HP.out
    obtain ⟨⟨b0,b1,b2,b3,b4,b5,b6⟩,_⟩:=hx.cells
    have lx:=hx.lt
    clear hx
    by_cases hlt:y < (l0_5.length:Int)
    ·have p0:(0:Int)≤y:=HK.out.1
     have hdn:l0_5.length=l0_4.length:=by have:=HF.out.vn;omega
     have hkl:=kidsB_length l0_6 HF.out.fkeys l0_6.length
     have hvl:=valsB_length HF.out.fkeys HF.out.fvals y.toNat
     have hhl:=hdrB_length a0_0 a0_1 a0_2 a0_3 l0_4
     have hkn:=HF.out.kn
     have hkd:=HF.out.dn
     have hfh:=HF.out.fhigh
     have hll:(hdrB a0_0 a0_1 a0_2 a0_3 l0_4).length+(kidsB l0_4 l0_6 l0_6.length).length+(valsB l0_4 l0_5 y.toNat).length≤100000:=by
      omega
     have HLL:=Aside0.mk hll
     have hlt4:y < (l0_4.length:Int):=by omega
     obtain ⟨ad,ea,hcell⟩:=Kd.at_string (Kd.C_below HC5.out HP.out) y p0 hlt
     cases ea
     obtain ⟨ad4,ea4,hcell4⟩:=Kd.at_string (Kd.C_below HC4.out HP.out) y p0 hlt4
     cases ea4
     have hks:=rd_small HF.out.fkeys y
     have hvs:=rd_small HF.out.fvals y
     have HKS:=Aside0.mk (show (rdOf ByteArray.empty l0_4 y).size≤65535 by omega)
     have HVS:=Aside0.mk (show (rdOf ByteArray.empty l0_5 y).size≤65535 by omega)
     have HVT:=Aside0.mk hvs
     have HKT:=Aside0.mk hks
     generalize hky:rdOf ByteArray.empty l0_4 y=ky at hcell4 HKS HKT
     generalize hvy:rdOf ByteArray.empty l0_5 y=vy at hcell HVS HVT
     have HKY:=Aside0.mk hky
     have HVY:=Aside0.mk hvy
     have hw1:wrap64 (y+1)=y+1:=by
      unfold wrap64
      omega
     have HW1:=Aside0.mk hw1
     have HLT:=Aside0.mk hlt
     have hn1:=text_from ky HW.out HS.out (by have:=HLL.out;rw [List.length_append,List.length_append];omega)
     rw [if_pos HKS.out,if_pos HKS.out] at hn1
     have d1:decide (y < (l0_5.length:Int))=true:=decide_eq_true hlt
     have e0:=eq_true p0
     have e1:=eq_true hlt4
     replace hlt:=eq_true hlt
     clear hky hvy hks hvs hkl hvl hhl hkn hkd hfh hll hdn hw1 p0 hlt4
     go_wp2_with (first
      | (go_at_call 75;(with_reducible refine hn1.mono ?_);rintro r wa ⟨rfl,hw,hB⟩;clear b0 b1 b2 b3 b4 b5 b6 lx;(replace HB:=Aside0.mk (HB.out.trans (below_le hB HG.out)));(replace HP:=Aside0.mk (HP.out.trans (below_le hB HG0.out)));(replace HS:=Aside0.mk (Nat.le_trans HS.out hB.size));(have hn2:=text_from vy hw HS.out (by have:=HLL.out;have:=HKT.out;simp [le_length,bytesOf_length];omega));rw [if_pos HVS.out,if_pos HVS.out] at hn2;clear hw hB hn1)
      | (go_at_call 75;(with_reducible refine hn2.mono ?_);rintro r wb ⟨rfl,hw,hB⟩;(replace HB:=Aside0.mk (HB.out.trans (below_le hB HG.out)));(replace HP:=Aside0.mk (HP.out.trans (below_le hB HG0.out)));(replace HS:=Aside0.mk (Nat.le_trans HS.out hB.size));(have HWb:=Aside0.mk hw);clear hw hB hn2))
     exact ⟨⟨y+1,⟨by have:=HK.out;have:=HLT.out;omega⟩,by rw [HW1.out],⟨by show WrFrom _ _ _ (_++valsB l0_4 l0_5 (y+1).toNat);rw [valsB_succ _ _ _ HK.out.1,HKY.out,HVY.out,← List.append_assoc,← List.append_assoc];exact HWb.out⟩,HB,HP,HS⟩,by have:=HK.out;have:=HLT.out;simp only [intOf];rw [HW1.out];omega⟩
    ·have d1:decide (y < (l0_5.length:Int))=false:=decide_eq_false hlt
     have hye:y=(l0_5.length:Int):=by have:=HK.out;omega
     have hfbody:=HF.out.fbody
     rw [hye,Int.toNat_natCast] at HW
     replace HW:Aside0 (WrFrom w2.heap.size wr w2.heap.size (bodyB a0_0 a0_1 a0_2 a0_3 l0_4 l0_5 l0_6)):=HW
     replace hlt:=eq_false hlt
     clear hye
     have HW2:=Aside0.mk (HW.out.below (below_drew (below_alloc (Below.refl wr.heap.size wr) (.cells Try.zeroCells172 172))))
     have HB2:=Aside0.mk (below_drew (below_alloc (Below.refl wr.heap.size wr) (.cells Try.zeroCells172 172)))
     have HL2:=Aside0.mk hfbody
     have hby:=bytes_from HW2.out (by have:=HL2.out;omega)
     clear hfbody
     go_wp2
     have HZ:Aside0 ((World.drew (wr.alloc (.cells Try.zeroCells172 172))).heap[wr.heap.size]?=some (.cells (List.replicate 252 (Value.int .u8 0)).toArray 172 (0,0))):=⟨by rw [← zero252];exact blk_new _ _⟩
     go_region_law (first
      | (refine step_copy_splice rfl (.tmp 79) (.tmp 81) 67 67 rfl 5 Try.underlying67 size8 (some ⟨wr.heap.size,0,none⟩) A5 252 252 (bodyB a0_0 a0_1 a0_2 a0_3 l0_4 l0_5 l0_6).length c5 (by simp [Act.eval,Act.put]) (by simp [Act.eval,Act.put]) wr.heap.size 0 (List.replicate 252 (Value.int .u8 0)) 172 HG5.out ((bodyB a0_0 a0_1 a0_2 a0_3 l0_4 l0_5 l0_6).map (Value.int .u8)) (by have:=HL2.out;rw [List.length_map];exact (Nat.min_eq_left this).symm) (fun hp=>⟨rfl,cells_of HC5b.out (by simpa using hp)⟩) (by have:=HL2.out;simp;omega) (by intro v hv;obtain ⟨z,_,rfl⟩:=List.mem_map.1 hv;rfl) wr.heap.size wr HB5.out (Nat.le_refl _) ?_;intro w6 hg6 hb6;(have HG6:=Aside0.mk hg6.out);(have HB6:=Aside0.mk hb6);clear hg6 hb6)
      | ((have hgd:=hby);clear hgd;rw [if_pos (by simp [Region.wanted])];go_simp;go_wp2_with (go_at_call 76;(with_reducible refine hby.mono ?_);rintro e w5 ⟨A5,c5,rfl,hc5,hC5,hB5,_⟩;(have HC5b:=Aside0.mk hC5);(have HB5:=Aside0.mk (below_from HB2.out (by simp) hB5));(have HG5:=Aside0.mk (blk_keep HZ.out hB5));clear hC5 hB5 hby)))
     have hse:=seal_ok (some ⟨wr.heap.size,0,none⟩) 252 (padB (bodyB a0_0 a0_1 a0_2 a0_3 l0_4 l0_5 l0_6)) w6 (C_block (t:=172) (by have h6:=HG6.out;rw [pad_splice _ HL2.out] at h6;exact h6) (by rw [padB_length HL2.out];decide)) (padB_allB (bodyB_allB _ _ _ _ _ _ _)) (by rw [padB_length HL2.out];decide)
     rw [padB_length HL2.out] at hse
     have HB7:=Aside0.mk (below_from2 HB.out (Nat.le_refl _) HB6.out)
     clear b0 b1 b2 b3 b4 b5 b6 lx
     go_wp2_with (go_at_call 77;(with_reducible refine hse.mono ?_);rintro e w8 ⟨u8,rfl,hR8,hB8⟩;(have HR8:=Aside0.mk (Kd.R_lower hR8 HB7.out.size));(have HB8:=Aside0.mk (below_from2 HB7.out (Nat.le_refl _) hB8));clear hR8 hB8 hse)
     go_ret2
     exact ⟨_,rfl,HR8.out,HB8.out⟩
end Go.Proofs.Ytgjibcfkjaedfaa.Page
