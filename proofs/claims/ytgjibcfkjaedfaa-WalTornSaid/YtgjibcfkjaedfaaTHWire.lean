-- A part of the text Wire, thinned by a program of this session.
import Derived.Deep.DeepAppendWide
import Derived.Test.YtgjibcfkjaedfaaTHPrx0
import Derived.OneCell
import Derived.Lib.SliceRun
import Derived.Shelf.Abstract
namespace Go.Proofs.Ytgjibcfkjaedfaa.Wire
open Go.RowKit Go.Proofs.YtgjibcfkjaedfaaW.PrintWords Go.Proofs.YtgjibcfkjaedfaaW.PrintLast Go.Proofs.YtgjibcfkjaedfaaW.PrintMore
set_option linter.unusedVariables false
set_option linter.unusedSimpArgs false
structure Chg (w w':World) (S:Nat→Prop):Prop where
 os:w'.os=w.os
 tape:w'.tape=w.tape
 output:w'.output=w.output
 size:w.heap.size≤w'.heap.size
 block:∀ k,k < w.heap.size→¬ S k→w'.heap[k]?=w.heap[k]?
section
variable {w w1 w2 W:World} {S S2 F:Nat→Prop}
theorem Chg.refl (w:World) (S:Nat→Prop):Chg w w S:=⟨rfl,rfl,rfl,Nat.le_refl _,fun _ _ _=>rfl⟩
theorem Chg.trans (h:Chg w w1 S) (k:Chg w1 w2 S2) (hs:∀ k,S2 k→S k∨w.heap.size≤k):Chg w w2 S :=
 ⟨k.os.trans h.os,k.tape.trans h.tape,k.output.trans h.output,Nat.le_trans h.size k.size,fun i hi hn=>(k.block i (Nat.lt_of_lt_of_le hi h.size) (fun h2=>(hs i h2).elim hn (fun h3=>by omega))).trans (h.block i hi hn)⟩
theorem Chg.mono (h:Chg w w1 S) (hs:∀ k,S k→S2 k):Chg w w1 S2:=⟨h.os,h.tape,h.output,h.size,fun k hk hn=>h.block k hk (fun h2=>hn (hs k h2))⟩
theorem Chg.of_below (h:Below w.heap.size w w1) (S:Nat→Prop):Chg w w1 S:=⟨h.os,h.tape,h.output,h.size,fun k hk _=>h.block k hk⟩
theorem Chg.then_below (h:Chg w w1 S) (k:Below w1.heap.size w1 w2):Chg w w2 S:=h.trans (Chg.of_below k (fun _=>False)) (fun _ hk=>hk.elim)
theorem Chg.below (h:Chg w w1 S) {B:Nat} (hB:B≤w.heap.size) (hs:∀ k,S k→B≤k):Below B w w1 :=
 ⟨h.os,h.tape,h.output,h.size,fun k hk=>h.block k (by omega) (fun h2=>by have:=hs k h2;omega)⟩
theorem Chg.of_grown {row:Option Nat} (hg:w.grownBy w1 row):Chg w w1 (fun k=>some k=row):=⟨hg.os,hg.tape,hg.output,hg.size,fun k hk hn=>hg.block k hk hn⟩
theorem Chg.setCell (w:World) (p:Addr) (u:Value):Chg w (w.setCell p u) (fun k=>k=p.block):=⟨rfl,rfl,rfl,by simp [World.setCell],fun k _ hn=>Below.heap_setCell w p u k hn⟩
theorem Chg.drewN (h:Chg w w1 S) (n:Nat):Chg w (w1.drewN n) S:=⟨h.os,h.tape,h.output,h.size,h.block⟩
theorem Chg.drew (h:Chg w w1 S):Chg w w1.drew S:=⟨h.os,h.tape,h.output,h.size,h.block⟩
theorem Chg.alloc (h:Chg w w1 S) (o:Obj):Chg w (w1.alloc o) S:=h.then_below (below_alloc (Below.refl _ _) o)
theorem Chg.blk (h:Chg w w1 S) {g:Nat} {o:Obj} (hb:w.heap[g]?=some o) (hn:¬ S g):w1.heap[g]?=some o:=(h.block g (blk_lt hb) hn).trans hb
theorem R_chg {α:Type} {d:Kd α} {e base:Nat} {ok:Nat→Prop} {v:Value} {xs:List α} (h:d.R e w base ok v xs) (hc:Chg w w1 S) (hn:∀ k,ok k→¬ S k):d.R e w1 base ok v xs :=
 Kd.R_step h (fun k ho hlt=>hc.block k hlt (hn k ho))
end
def WrAt (w:World) (g:Nat) (xs:List Int) (F:Nat→Prop):Prop :=
 ∃ v,w.heap[g]?=some (.cells #[v] 149 (0,0))∧Kd.R (Kd.int .u8) 5 w 0 F v xs∧F g∧(∀ k,v.ownBlock=some k→k≠g)∧∀ k,F k→k < w.heap.size
theorem WrAt.chg {w w1:World} {g:Nat} {xs:List Int} {F S:Nat→Prop} (h:WrAt w g xs F) (hc:Chg w w1 S) (hn:∀ k,F k→¬ S k):WrAt w1 g xs F:=by
 obtain ⟨v,h1,h2,h3,h4,h5⟩:=h
 exact ⟨v,hc.blk h1 (hn g h3),R_chg h2 hc hn,h3,h4,fun k hk=>Nat.lt_of_lt_of_le (h5 k hk) hc.size⟩
theorem WrAt.below {w w1:World} {g:Nat} {xs:List Int} {F:Nat→Prop} (h:WrAt w g xs F) (hc:Below w.heap.size w w1):WrAt w1 g xs F:=h.chg (Chg.of_below hc (fun _=>False)) (fun _ _ hk=>hk)
theorem info8:(Try.prog.info? 5).map (fun i=>(i.zero,i.size,i.bytes))=some (some (.int .u8 0),1,1):=by kernel_rfl
theorem R_ok {k:IntKind} {e base:Nat} {w:World} {ok ok':Nat→Prop} {v:Value} {xs:List Int} (h:(Kd.int k).R e w base ok v xs) (ho:∀ b,v.ownBlock=some b→ok' b):(Kd.int k).R e w base ok' v xs:=⟨ho,h.2⟩
theorem wr_store {wr w1:World} {g:Nat} {xs ys:List Int} {F1:Nat→Prop} {v u:Value} (hb:wr.heap[g]?=some (.cells #[v] 149 (0,0))) (hR:Kd.R (Kd.int .u8) 5 wr 0 F1 v xs)
  (hne:∀ k,v.ownBlock=some k→k≠g) (hFg:F1 g) (hg:wr.grownBy w1 v.ownBlock) (hat:u.ownBlock=v.ownBlock∨∃ b,u.ownBlock=some b∧wr.heap.size≤b)
  {ok:Nat→Prop} (ho:Kd.R (Kd.int .u8) 5 w1 0 ok u ys) :
  WrAt (w1.setCell ⟨g,0,none⟩ u) g ys (fun k=>k=g∨some k=u.ownBlock)∧Chg wr (w1.setCell ⟨g,0,none⟩ u) F1∧∀ k,(k=g∨some k=u.ownBlock)→F1 k∨wr.heap.size≤k:=by
 have hgl:=blk_lt hb
 have hune:∀ k,u.ownBlock=some k→k≠g:=by
  intro k hk
  rcases hat with e|⟨b,e,hb2⟩
  ·exact hne k (e ▸ hk)
  ·rw [e] at hk
   injection hk with hk
   omega
 have hF:∀ k,(k=g∨some k=u.ownBlock)→F1 k∨wr.heap.size≤k:=by
  rintro k (rfl|hk)
  ·exact .inl hFg
  ·rcases hat with e|⟨b,e,hb2⟩
   ·exact .inl (hR.1 k (e ▸ hk.symm))
   ·rw [e] at hk
    injection hk with hk
    exact .inr (by omega)
 have hb1:=blk_grown hb hg (fun e=>hne g e.symm rfl)
 have hs:w1.heap.size≤(w1.setCell ⟨g,0,none⟩ u).heap.size:=by simp [World.setCell]
 refine ⟨⟨u,one_setCell hb1,?_,.inl rfl,hune,?_⟩,?_,hF⟩
 ·refine R_ok (Kd.R_far (p:=⟨g,0,none⟩) (R_ok ho (ok':=fun k=>some k=u.ownBlock) (fun b hb=>hb.symm)) (fun k hk=>hune k hk.symm) u) (fun b hb=>.inr hb.symm)
 ·rintro k (rfl|hk)
  ·have:=blk_lt hb1;omega
  ·have:=Kd.R_bound ho
   have:=(this.1 k hk.symm).2.2.1
   omega
 ·refine Chg.trans (Chg.mono (Chg.of_grown hg) (fun k hk=>hR.1 k hk.symm)) (Chg.setCell w1 ⟨g,0,none⟩ u) (fun k hk=>?_)
  subst hk
  exact .inl hFg
section
variable {P:Program} (w:World)
theorem run_append_string_at (base:Nat) (t u ty e:TypeId) (i:TypeInfo) (ht:P.underlying t=some (.slice e)) (hu:P.underlying u=some .string) (hi:P.info? e=some i) (hz:i.zero=some (.int .u8 0))
  (hsize:i.size=1) (hby:i.bytes=1)
  (v:Value) (n:Nat) (xs:List Value) (hown:w.ownsRow base e 1 v n xs) (s:ByteArray)
  (h63:n+s.size≤maxLen) (hbytes:n+s.size≤140737488355328) (hbase:base≤w.heap.size) :
  ∃ v' w',(Builtin.append_ #[t,u] ty #[v,.string s]).run P w=.ok v' w'∧w'.ownsRow base e 1 v' (n+s.size) (xs++Go.Lib.strCells s)∧w.grownBy w' v.ownBlock ∧
   (v'.ownBlock=v.ownBlock∨∃ b,v'.ownBlock=some b∧w.heap.size≤b):=by
 obtain ⟨v',w',hr,h2,h3,h4⟩:=Go.Lib.run_append_own_string (P:=P) w base t u ty e i ht hu hi hz hsize hby v n xs hown s h63 hbytes hbase
 refine ⟨v',w',hr,h2,h3,?_⟩
 have hxl:xs.length=n:=by simpa using hown.1
 have hsmall:n+s.size≤9223372036854775807:=by simp only [maxLen] at h63;omega
 rcases hown.2 with ⟨rfl,rfl⟩|⟨g,cap,cur,rfl,hbg,hg,hnc,hcm,hcs,htake⟩
 ·by_cases hm:s.size=0
  ·have:=h4.2 ⟨rfl,hm⟩
   subst this
   exact .inl rfl
  ·have hr2:=Go.run_append_nil_string (P:=P) w t u ty e i (.int .u8 0) ht hu hi hz s (by omega) (by omega) (by rw [hby];omega)
   rw [hr] at hr2
   injection hr2 with hv _
   exact .inr ⟨w.heap.size,by rw [hv];rfl,Nat.le_refl _⟩
 ·by_cases hroom:n+s.size≤cap
  ·have hcs':cur.size=cap:=by simpa using hcs
   have hr2:=Go.Lib.run_append_room_string (P:=P) w t u ty e i ht hu hi hsize g n cap cur hg s hroom (by omega)
   rw [hr] at hr2
   injection hr2 with hv _
   exact .inl (by rw [hv];rfl)
  ·have holds:∀ j u,xs[j]?=some u→w.cell? ((⟨g,0,none⟩:Addr).add j)=some u:=hown.cells (g:=g) rfl
   have hr2:=Go.Lib.run_append_grow_string (P:=P) w t u ty e i (.int .u8 0) ht hu hi hz ⟨g,0,none⟩ n cap xs (by rw [hsize];simpa using hxl) holds s (by omega) (by omega) (by rw [hby];exact growslice_fits (by omega) (by omega))
   rw [hr] at hr2
   injection hr2 with hv _
   exact .inr ⟨w.heap.size,by rw [hv];rfl,Nat.le_refl _⟩
theorem wpList_append_string_at {ops:Array Oper} {rest:List Oper} {o:Oper} {a:Act} {Q:Exit→Act→World→Prop} (base:Nat) (hbase:base≤w.heap.size) (hgd:o.guard=none) (sl x:Operand) (t u e:TypeId)
  (ho:o.op=.call { callee:=.builtin .append,args:=#[sl,x],argTypes:=#[t,u] })
  (ht:P.underlying t=some (.slice e)) (hu:P.underlying u=some .string) (hinfo:(P.info? e).map (fun i=>(i.zero,i.size,i.bytes))=some (some (.int .u8 0),1,1))
  (v:Value) (xs:List Int) (ok:Nat→Prop) (hs:a.eval sl=v) (hown:Kd.R (Kd.int .u8) e w base ok v xs) (s:ByteArray) (hx:a.eval x=.string s) (hbytes:xs.length+s.size≤140737488355328)
  (h:∀ v' w',Kd.R (Kd.int .u8) e w' base (fun k=>ok k∨w.heap.size≤k) v' (xs++bytesOf s)→w.grownBy w' v.ownBlock→(v'.ownBlock=v.ownBlock∨∃ b,v'.ownBlock=some b∧w.heap.size≤b)→wpList P ops Q rest (a.put o.dst v') w'):wpList P ops Q (o::rest) a w:=by
 obtain ⟨i0,hi,hzz⟩:=Option.map_eq_some_iff.1 hinfo
 simp only [Prod.mk.injEq] at hzz
 obtain ⟨hz0,hz1,hz2⟩:=hzz
 refine wpList_plain hgd fun K hK=>?_
 obtain ⟨v',w',hr,h2,h3,h4⟩:=run_append_string_at (P:=P) w base t u o.type e i0 ht hu hi hz0 hz1 hz2 v xs.length (nums .u8 xs) (Kd.own_of_R hown) s (by unfold maxLen;omega) hbytes hbase
 unfold Oper.wp execOp
 simp only [ho,resolve,invoke,builtin,Sem.run_bind,Sem.run_pure,Result.andThen_ok,List.map_toArray,List.map_cons,List.map_nil,hs,hx,hr]
 have hl2:(xs++bytesOf s).length=xs.length+s.size:=by rw [List.length_append,bytesOf_length]
 have hc:nums .u8 (xs++bytesOf s)=nums .u8 xs++Go.Lib.strCells s:=by
  rw [nums_append]
  congr 1
  simp [nums,bytesOf,Go.Lib.strCells]
 refine hK _ _ (h v' w' (Kd.R_of_own (h1:=fun _=>rfl) (by rw [hl2];exact (hc ▸ h2:w'.ownsRow base e 1 v' (xs.length+s.size) (nums .u8 (xs++bytesOf s)))) ?_) h3 h4)
 intro k hk
 rcases h4 with e1|⟨b,e1,hb⟩
 ·exact .inl (hown.1 k (e1 ▸ hk))
 ·rw [e1] at hk;injection hk with hk;exact .inr (by omega)
end
def le:Int→Nat→List Int
 | _,0=>[]
 | n,k+1=>n % 256::le (n / 256) k
theorem le_length:∀ n k,(le n k).length=k
 | _,0=>rfl
 | n,k+1=>by simp [le,le_length (n / 256) k]
theorem le_succ:∀ n k,le n (k+1)=le n k++[n / 256 ^ k % 256]
 | n,0=>by simp [le]
 | n,k+1=>by
  rw [le,le_succ (n / 256) k,le,List.cons_append]
  congr 3
  rw [Int.ediv_ediv_of_nonneg (by omega),Int.pow_succ,Int.mul_comm]
def numTop (size:Int):Int:=if size=1 then 256 else if size=2 then 65536 else if size=4 then 4294967296 else if size=8 then 9223372036854775808 else 0
def numOk (n size:Int):Bool:=decide (0≤n)&&decide (n < numTop size)
def sizedB (size:Int):Bool:=decide (size=1∨size=2∨size=4∨size=8)
theorem sizedB_yes {size:Int} (h:size=1∨size=2∨size=4∨size=8):sizedB size=true:=decide_eq_true h
theorem sizedB_no {size:Int} (h:¬ (size=1∨size=2∨size=4∨size=8)):sizedB size=false:=decide_eq_false h
set_option maxHeartbeats 1000000 in
theorem sized_any (size:Int) (w:World):Calls Try.prog 93 #[.int .i64 size] w fun e w'=>e=.returned (.bool (sizedB size))∧Drawn0 w w':=by
 by_cases h1:size=1
 ·rw [sizedB_yes (.inl h1)]
  subst h1
  go_enter Try.func93,Try.ntmps93
  go_wp2
  repeat (go_quiet (fail);try go_wp2)
  go_ret
  exact ⟨rfl,by repeat (first|exact Drawn0.refl _|apply Drawn0.step)⟩
 ·by_cases h2:size=2
  ·rw [sizedB_yes (.inr (.inl h2))]
   subst h2
   go_enter Try.func93,Try.ntmps93
   go_wp2
   repeat (go_quiet (fail);try go_wp2)
   go_ret
   exact ⟨rfl,by repeat (first|exact Drawn0.refl _|apply Drawn0.step)⟩
  ·by_cases h4:size=4
   ·rw [sizedB_yes (.inr (.inr (.inl h4)))]
    subst h4
    go_enter Try.func93,Try.ntmps93
    go_wp2
    repeat (go_quiet (fail);try go_wp2)
    go_ret
    exact ⟨rfl,by repeat (first|exact Drawn0.refl _|apply Drawn0.step)⟩
   ·by_cases h8:size=8
    ·rw [sizedB_yes (.inr (.inr (.inr h8)))]
     subst h8
     go_enter Try.func93,Try.ntmps93
     go_wp2
     repeat (go_quiet (fail);try go_wp2)
     go_ret
     exact ⟨rfl,by repeat (first|exact Drawn0.refl _|apply Drawn0.step)⟩
    ·rw [sizedB_no (by omega)]
     have c1:(size==1)=false:=beq_eq_false_iff_ne.mpr h1
     have c2:(size==2)=false:=beq_eq_false_iff_ne.mpr h2
     have c4:(size==4)=false:=beq_eq_false_iff_ne.mpr h4
     have c8:(size==8)=false:=beq_eq_false_iff_ne.mpr h8
     clear h1 h2 h4 h8
     go_enter Try.func93,Try.ntmps93
     go_wp2
     repeat (go_quiet (fail);try go_wp2)
     go_ret
     exact ⟨rfl,by repeat (first|exact Drawn0.refl _|apply Drawn0.step)⟩
theorem top_cases {n size:Int} (h:numOk n size=true):0≤n∧(size=1∧n < 256∨size=2∧n < 65536∨size=4∧n < 4294967296∨size=8∧n < 9223372036854775808):=by
 unfold numOk numTop at h
 rw [Bool.and_eq_true,decide_eq_true_eq,decide_eq_true_eq] at h
 obtain ⟨h0,h1⟩:=h
 refine ⟨h0,?_⟩
 by_cases c1:size=1
 ·rw [if_pos c1] at h1;exact .inl ⟨c1,h1⟩
 ·rw [if_neg c1] at h1
  by_cases c2:size=2
  ·rw [if_pos c2] at h1;exact .inr (.inl ⟨c2,h1⟩)
  ·rw [if_neg c2] at h1
   by_cases c4:size=4
   ·rw [if_pos c4] at h1;exact .inr (.inr (.inl ⟨c4,h1⟩))
   ·rw [if_neg c4] at h1
    by_cases c8:size=8
    ·rw [if_pos c8] at h1;exact .inr (.inr (.inr ⟨c8,h1⟩))
    ·rw [if_neg c8] at h1;omega
theorem not_top {n size:Int} (h:numOk n size=false) (hn:n < 9223372036854775808):¬ (size=1∨size=2∨size=4∨size=8)∨(n < 0∧(size=1∨size=2∨size=4∨size=8))∨(0≤n∧(size=1∧256≤n∨size=2∧65536≤n∨size=4∧4294967296≤n)):=by
 by_cases c:size=1∨size=2∨size=4∨size=8
 ·by_cases c0:n < 0
  ·exact .inr (.inl ⟨c0,c⟩)
  ·refine .inr (.inr ⟨by omega,?_⟩)
   have h2:¬ (n < numTop size):=fun h3=>by
    unfold numOk at h
    rw [decide_eq_true (show 0≤n by omega),decide_eq_true h3] at h
    cases h
   unfold numTop at h2
   rcases c with rfl|rfl|rfl|rfl
   ·exact .inl ⟨rfl,by rw [if_pos rfl] at h2;omega⟩
   ·exact .inr (.inl ⟨rfl,by rw [if_neg (by omega),if_pos rfl] at h2;omega⟩)
   ·exact .inr (.inr ⟨rfl,by rw [if_neg (by omega),if_neg (by omega),if_pos rfl] at h2;omega⟩)
   ·exfalso;rw [if_neg (by omega),if_neg (by omega),if_neg (by omega),if_pos rfl] at h2;omega
 ·exact .inl c
set_option maxHeartbeats 4000000 in
theorem num_err (p:Value) (n size:Int) (w:World) (h:numOk n size=false) (hn:n < 9223372036854775808) :
  Calls Try.prog 74 #[p,.int .i64 n,.int .i64 size] w fun e w'=>e=.returned (.int .i64 1)∧Drawn0 w w':=by
 rcases not_top h hn with c|⟨c0,c⟩|⟨c0,c⟩
 ·have c1:(size==1)=false:=beq_eq_false_iff_ne.mpr (by omega)
  have c2:(size==2)=false:=beq_eq_false_iff_ne.mpr (by omega)
  have c4:(size==4)=false:=beq_eq_false_iff_ne.mpr (by omega)
  have c8:(size==8)=false:=beq_eq_false_iff_ne.mpr (by omega)
  clear c h hn
  go_enter Try.func74,Try.ntmps74
  go_wp2
  repeat (go_quiet (fail);try go_wp2)
  go_ret
  exact ⟨rfl,by repeat (first|exact Drawn0.refl _|apply Drawn0.step)⟩
 ·have d0:decide (n < 0)=true:=decide_eq_true c0
  clear h hn c0
  rcases c with rfl|rfl|rfl|rfl
  all_goals
   go_enter Try.func74,Try.ntmps74
   go_wp2
   repeat (go_quiet (fail);try go_wp2)
   go_ret
   exact ⟨rfl,by repeat (first|exact Drawn0.refl _|apply Drawn0.step)⟩
 ·have d0:decide (n < 0)=false:=decide_eq_false (by omega)
  rcases c with ⟨rfl,c⟩|⟨rfl,c⟩|⟨rfl,c⟩
  ·have e:(n / 256 != 0)=true:=bne_iff_ne.mpr (by omega)
   clear h hn c
   go_enter Try.func74,Try.ntmps74
   go_wp2
   repeat (go_quiet (fail);try go_wp2)
   go_ret
   exact ⟨rfl,by repeat (first|exact Drawn0.refl _|apply Drawn0.step)⟩
  ·have e:(n / 65536 != 0)=true:=bne_iff_ne.mpr (by omega)
   clear h hn c
   go_enter Try.func74,Try.ntmps74
   go_wp2
   repeat (go_quiet (fail);try go_wp2)
   go_ret
   exact ⟨rfl,by repeat (first|exact Drawn0.refl _|apply Drawn0.step)⟩
  ·have e:(n / 4294967296 != 0)=true:=bne_iff_ne.mpr (by omega)
   clear h hn c
   go_enter Try.func74,Try.ntmps74
   go_wp2
   repeat (go_quiet (fail);try go_wp2)
   go_ret
   exact ⟨rfl,by repeat (first|exact Drawn0.refl _|apply Drawn0.step)⟩
def NumAt (w:World) (g:Nat) (xs:List Int) (F:Nat→Prop) (wr:World) (n0:Int) (i:Nat):Prop :=
 ∃ F',WrAt wr g (xs++le n0 i) F'∧Chg w wr F∧∀ k,F' k→F k∨w.heap.size≤k
set_option maxHeartbeats 8000000 in
set_option maxRecDepth 100000 in
theorem num_ok (g:Nat) (xs:List Int) (F:Nat→Prop) (n size:Int) (w:World) (h:numOk n size=true) (hw:WrAt w g xs F) (hl:xs.length+8≤140737488355328) :
  Calls Try.prog 74 #[.pointer (some ⟨g,0,none⟩),.int .i64 n,.int .i64 size] w fun e w'=>e=.returned (.int .i64 0)∧NumAt w g xs F w' n size.toNat:=by
 obtain ⟨c0,c⟩:=top_cases h
 have hc:size=1∨size=2∨size=4∨size=8:=by omega
 have hN:n < 9223372036854775808:=by omega
 have d0:decide (n < 0)=false:=decide_eq_false (by omega)
 have HW:=Aside0.mk hw
 have HL:=Aside0.mk hl
 clear hw hl h
 rcases c with ⟨rfl,c⟩|⟨rfl,c⟩|⟨rfl,c⟩|⟨rfl,c⟩
 ·have e:(n / 256 != 0)=false:=bne_eq_false_iff_eq.mpr (by omega)
  clear c hc
  go_enter Try.func74,Try.ntmps74
  have hsz:=fun W=>sized_any 1 W
  rw [show sizedB 1=true from rfl] at hsz
  go_wp2_with (go_at_call 93;refine (hsz _).mono ?_;rintro e w' ⟨rfl,⟨nd,rfl⟩⟩)
  clear hsz
  go_loopw [1,28] (fun v1 v28 wr=>∃ i:Nat,i≤1∧v28=.int .i64 i∧v1=.int .i64 (n / 256 ^ i)∧NumAt w g xs F wr n i) (fun _ v28 _=>1 - (intOf v28).toNat)
  case atStart=>exact ⟨0,Nat.zero_le _,rfl,by simp,F,by simpa [le] using HW.out.chg ((Chg.refl w (fun _=>False)).drewN _) (fun _ _ h=>h),(Chg.refl _ _).drewN _,fun k hk=>.inl hk⟩
  case round =>
   obtain ⟨i,hi,rfl,rfl,F1,hwr,hchg,hF⟩:=hrel
   have HCH:=Aside0.mk hchg
   have HF:=Aside0.mk hF
   clear hchg hF
   obtain ⟨v,hb,hR,hFg,hne,hlt1⟩:=hwr
   obtain ⟨m,hm⟩:∃ m,n / 256 ^ i=m:=⟨_,rfl⟩
   have hm0:0≤m:=by rw [← hm];exact Int.ediv_nonneg c0 (Int.pow_nonneg (by omega))
   have hmN:m < 9223372036854775808:=by rw [← hm];exact Int.lt_of_le_of_lt (Int.ediv_le_self _ c0) hN
   rw [hm]
   have HM:=Aside0.mk hm
   clear hm
   have hlen:=le_length n i
   have HLEN:=Aside0.mk hlen
   clear hlen
   by_cases hlt:i < 1
   ·have hltz:(i:Int) < 1:=by omega
    have hcell:=cell_of_one hb
    have HB:=Aside0.mk hb
    have HR:=Aside0.mk hR
    have HNE:=Aside0.mk hne
    have hgl:=blk_lt hb
    clear hb hR hne
    go_wp2_with ((with_reducible refine gate_builtin (b:=.append) (xs:=#[.tmp 35,.tmp 38]) rfl ?_);at_builtin;refine Kd.R_append (Kd.int .u8) (w0:=wr) 0 rfl (.tmp 35) (.tmp 38) 67 5 (.int .u8 0) 1 rfl Try.underlying67 info8 rfl (by decide) (by omega) v (xs++le n i) (m % 256) [.int .u8 (m % 256)] (fun k=>F1 k∨wr.heap.size≤k) (fun _=>False) rfl rfl ?aP (fun _ hk=>hk.elim) ?aF ?aO ?aB ?aS ?aL ?_;(case aP=>exact rfl);(case aB=>exact Below.refl _ _);(case aF=>exact (fun _ hk=>.inr hk));(case aO=>exact Kd.R_mono HR.out (fun _ hk=>.inl hk));(case aS=>exact Nat.zero_le _);(case aL=>(have:=HL.out;have:=HLEN.out;rw [List.length_append];omega));intro v1 w1 ho hbel hg hat;obtain ⟨A1,q1,rfl⟩:=Kd.R_slice ho;have hcell1:=cell_of_one (blk_grown HB.out hg (fun e=>HNE.out g e.symm rfl));have hfree1:=free_of_one (blk_grown HB.out hg (fun e=>HNE.out g e.symm rfl));have HO:=Aside0.mk ho;have HG:=Aside0.mk hg;have HAT:=Aside0.mk hat;clear ho hbel hg hat)
    go_roundw
    case rel =>
     refine ⟨i+1,by omega,by go_num,?_,?_⟩
     ·rw [← HM.out,Int.ediv_ediv_of_nonneg (Int.pow_nonneg (by omega)),Int.pow_succ]
     ·obtain ⟨a1,a2,a3⟩:=wr_store HB.out HR.out HNE.out hFg HG.out HAT.out HO.out
      have el:(xs++le n i++[m % 256]).length=xs.length+((le n i).length+1):=by simp only [List.length_append,List.length_cons,List.length_nil];omega
      rw [el] at a1 a2 a3
      rw [List.append_assoc,← HM.out,← le_succ] at a1
      exact ⟨_,a1,HCH.out.trans a2 HF.out,fun k hk=>(a3 k hk).elim (HF.out k) (fun h=>.inr (Nat.le_trans HCH.out.size h))⟩
    case measure=>simp [intOf];omega
   ·have hltz:¬ (i:Int) < 1:=by omega
    have hi2:i=1:=by omega
    subst hi2
    go_wp2
    go_ret
    exact ⟨rfl,F1,⟨v,hb,hR,hFg,hne,hlt1⟩,HCH.out,HF.out⟩
 ·have e:(n / 65536 != 0)=false:=bne_eq_false_iff_eq.mpr (by omega)
  clear c hc
  go_enter Try.func74,Try.ntmps74
  have hsz:=fun W=>sized_any 2 W
  rw [show sizedB 2=true from rfl] at hsz
  go_wp2_with (go_at_call 93;refine (hsz _).mono ?_;rintro e w' ⟨rfl,⟨nd,rfl⟩⟩)
  clear hsz
  go_loopw [1,28] (fun v1 v28 wr=>∃ i:Nat,i≤2∧v28=.int .i64 i∧v1=.int .i64 (n / 256 ^ i)∧NumAt w g xs F wr n i) (fun _ v28 _=>2 - (intOf v28).toNat)
  case atStart=>exact ⟨0,Nat.zero_le _,rfl,by simp,F,by simpa [le] using HW.out.chg ((Chg.refl w (fun _=>False)).drewN _) (fun _ _ h=>h),(Chg.refl _ _).drewN _,fun k hk=>.inl hk⟩
  case round =>
   obtain ⟨i,hi,rfl,rfl,F1,hwr,hchg,hF⟩:=hrel
   have HCH:=Aside0.mk hchg
   have HF:=Aside0.mk hF
   clear hchg hF
   obtain ⟨v,hb,hR,hFg,hne,hlt1⟩:=hwr
   obtain ⟨m,hm⟩:∃ m,n / 256 ^ i=m:=⟨_,rfl⟩
   have hm0:0≤m:=by rw [← hm];exact Int.ediv_nonneg c0 (Int.pow_nonneg (by omega))
   have hmN:m < 9223372036854775808:=by rw [← hm];exact Int.lt_of_le_of_lt (Int.ediv_le_self _ c0) hN
   rw [hm]
   have HM:=Aside0.mk hm
   clear hm
   have hlen:=le_length n i
   have HLEN:=Aside0.mk hlen
   clear hlen
   by_cases hlt:i < 2
   ·have hltz:(i:Int) < 2:=by omega
    have hcell:=cell_of_one hb
    have HB:=Aside0.mk hb
    have HR:=Aside0.mk hR
    have HNE:=Aside0.mk hne
    have hgl:=blk_lt hb
    clear hb hR hne
    go_wp2_with ((with_reducible refine gate_builtin (b:=.append) (xs:=#[.tmp 35,.tmp 38]) rfl ?_);at_builtin;refine Kd.R_append (Kd.int .u8) (w0:=wr) 0 rfl (.tmp 35) (.tmp 38) 67 5 (.int .u8 0) 1 rfl Try.underlying67 info8 rfl (by decide) (by omega) v (xs++le n i) (m % 256) [.int .u8 (m % 256)] (fun k=>F1 k∨wr.heap.size≤k) (fun _=>False) rfl rfl ?aP (fun _ hk=>hk.elim) ?aF ?aO ?aB ?aS ?aL ?_;(case aP=>exact rfl);(case aB=>exact Below.refl _ _);(case aF=>exact (fun _ hk=>.inr hk));(case aO=>exact Kd.R_mono HR.out (fun _ hk=>.inl hk));(case aS=>exact Nat.zero_le _);(case aL=>(have:=HL.out;have:=HLEN.out;rw [List.length_append];omega));intro v1 w1 ho hbel hg hat;obtain ⟨A1,q1,rfl⟩:=Kd.R_slice ho;have hcell1:=cell_of_one (blk_grown HB.out hg (fun e=>HNE.out g e.symm rfl));have hfree1:=free_of_one (blk_grown HB.out hg (fun e=>HNE.out g e.symm rfl));have HO:=Aside0.mk ho;have HG:=Aside0.mk hg;have HAT:=Aside0.mk hat;clear ho hbel hg hat)
    go_roundw
    case rel =>
     refine ⟨i+1,by omega,by go_num,?_,?_⟩
     ·rw [← HM.out,Int.ediv_ediv_of_nonneg (Int.pow_nonneg (by omega)),Int.pow_succ]
     ·obtain ⟨a1,a2,a3⟩:=wr_store HB.out HR.out HNE.out hFg HG.out HAT.out HO.out
      have el:(xs++le n i++[m % 256]).length=xs.length+((le n i).length+1):=by simp only [List.length_append,List.length_cons,List.length_nil];omega
      rw [el] at a1 a2 a3
      rw [List.append_assoc,← HM.out,← le_succ] at a1
      exact ⟨_,a1,HCH.out.trans a2 HF.out,fun k hk=>(a3 k hk).elim (HF.out k) (fun h=>.inr (Nat.le_trans HCH.out.size h))⟩
    case measure=>simp [intOf];omega
   ·have hltz:¬ (i:Int) < 2:=by omega
    have hi2:i=2:=by omega
    subst hi2
    go_wp2
    go_ret
    exact ⟨rfl,F1,⟨v,hb,hR,hFg,hne,hlt1⟩,HCH.out,HF.out⟩
 ·have e:(n / 4294967296 != 0)=false:=bne_eq_false_iff_eq.mpr (by omega)
  clear c hc
  go_enter Try.func74,Try.ntmps74
  have hsz:=fun W=>sized_any 4 W
  rw [show sizedB 4=true from rfl] at hsz
  go_wp2_with (go_at_call 93;refine (hsz _).mono ?_;rintro e w' ⟨rfl,⟨nd,rfl⟩⟩)
  clear hsz
  go_loopw [1,28] (fun v1 v28 wr=>∃ i:Nat,i≤4∧v28=.int .i64 i∧v1=.int .i64 (n / 256 ^ i)∧NumAt w g xs F wr n i) (fun _ v28 _=>4 - (intOf v28).toNat)
  case atStart=>exact ⟨0,Nat.zero_le _,rfl,by simp,F,by simpa [le] using HW.out.chg ((Chg.refl w (fun _=>False)).drewN _) (fun _ _ h=>h),(Chg.refl _ _).drewN _,fun k hk=>.inl hk⟩
  case round =>
   obtain ⟨i,hi,rfl,rfl,F1,hwr,hchg,hF⟩:=hrel
   have HCH:=Aside0.mk hchg
   have HF:=Aside0.mk hF
   clear hchg hF
   obtain ⟨v,hb,hR,hFg,hne,hlt1⟩:=hwr
   obtain ⟨m,hm⟩:∃ m,n / 256 ^ i=m:=⟨_,rfl⟩
   have hm0:0≤m:=by rw [← hm];exact Int.ediv_nonneg c0 (Int.pow_nonneg (by omega))
   have hmN:m < 9223372036854775808:=by rw [← hm];exact Int.lt_of_le_of_lt (Int.ediv_le_self _ c0) hN
   rw [hm]
   have HM:=Aside0.mk hm
   clear hm
   have hlen:=le_length n i
   have HLEN:=Aside0.mk hlen
   clear hlen
   by_cases hlt:i < 4
   ·have hltz:(i:Int) < 4:=by omega
    have hcell:=cell_of_one hb
    have HB:=Aside0.mk hb
    have HR:=Aside0.mk hR
    have HNE:=Aside0.mk hne
    have hgl:=blk_lt hb
    clear hb hR hne
    go_wp2_with ((with_reducible refine gate_builtin (b:=.append) (xs:=#[.tmp 35,.tmp 38]) rfl ?_);at_builtin;refine Kd.R_append (Kd.int .u8) (w0:=wr) 0 rfl (.tmp 35) (.tmp 38) 67 5 (.int .u8 0) 1 rfl Try.underlying67 info8 rfl (by decide) (by omega) v (xs++le n i) (m % 256) [.int .u8 (m % 256)] (fun k=>F1 k∨wr.heap.size≤k) (fun _=>False) rfl rfl ?aP (fun _ hk=>hk.elim) ?aF ?aO ?aB ?aS ?aL ?_;(case aP=>exact rfl);(case aB=>exact Below.refl _ _);(case aF=>exact (fun _ hk=>.inr hk));(case aO=>exact Kd.R_mono HR.out (fun _ hk=>.inl hk));(case aS=>exact Nat.zero_le _);(case aL=>(have:=HL.out;have:=HLEN.out;rw [List.length_append];omega));intro v1 w1 ho hbel hg hat;obtain ⟨A1,q1,rfl⟩:=Kd.R_slice ho;have hcell1:=cell_of_one (blk_grown HB.out hg (fun e=>HNE.out g e.symm rfl));have hfree1:=free_of_one (blk_grown HB.out hg (fun e=>HNE.out g e.symm rfl));have HO:=Aside0.mk ho;have HG:=Aside0.mk hg;have HAT:=Aside0.mk hat;clear ho hbel hg hat)
    go_roundw
    case rel =>
     refine ⟨i+1,by omega,by go_num,?_,?_⟩
     ·rw [← HM.out,Int.ediv_ediv_of_nonneg (Int.pow_nonneg (by omega)),Int.pow_succ]
     ·obtain ⟨a1,a2,a3⟩:=wr_store HB.out HR.out HNE.out hFg HG.out HAT.out HO.out
      have el:(xs++le n i++[m % 256]).length=xs.length+((le n i).length+1):=by simp only [List.length_append,List.length_cons,List.length_nil];omega
      rw [el] at a1 a2 a3
      rw [List.append_assoc,← HM.out,← le_succ] at a1
      exact ⟨_,a1,HCH.out.trans a2 HF.out,fun k hk=>(a3 k hk).elim (HF.out k) (fun h=>.inr (Nat.le_trans HCH.out.size h))⟩
    case measure=>simp [intOf];omega
   ·have hltz:¬ (i:Int) < 4:=by omega
    have hi2:i=4:=by omega
    subst hi2
    go_wp2
    go_ret
    exact ⟨rfl,F1,⟨v,hb,hR,hFg,hne,hlt1⟩,HCH.out,HF.out⟩
 ·clear c hc
  go_enter Try.func74,Try.ntmps74
  have hsz:=fun W=>sized_any 8 W
  rw [show sizedB 8=true from rfl] at hsz
  go_wp2_with (go_at_call 93;refine (hsz _).mono ?_;rintro e w' ⟨rfl,⟨nd,rfl⟩⟩)
  clear hsz
  go_loopw [1,28] (fun v1 v28 wr=>∃ i:Nat,i≤8∧v28=.int .i64 i∧v1=.int .i64 (n / 256 ^ i)∧NumAt w g xs F wr n i) (fun _ v28 _=>8 - (intOf v28).toNat)
  case atStart=>exact ⟨0,Nat.zero_le _,rfl,by simp,F,by simpa [le] using HW.out.chg ((Chg.refl w (fun _=>False)).drewN _) (fun _ _ h=>h),(Chg.refl _ _).drewN _,fun k hk=>.inl hk⟩
  case round =>
   obtain ⟨i,hi,rfl,rfl,F1,hwr,hchg,hF⟩:=hrel
   have HCH:=Aside0.mk hchg
   have HF:=Aside0.mk hF
   clear hchg hF
   obtain ⟨v,hb,hR,hFg,hne,hlt1⟩:=hwr
   obtain ⟨m,hm⟩:∃ m,n / 256 ^ i=m:=⟨_,rfl⟩
   have hm0:0≤m:=by rw [← hm];exact Int.ediv_nonneg c0 (Int.pow_nonneg (by omega))
   have hmN:m < 9223372036854775808:=by rw [← hm];exact Int.lt_of_le_of_lt (Int.ediv_le_self _ c0) hN
   rw [hm]
   have HM:=Aside0.mk hm
   clear hm
   have hlen:=le_length n i
   have HLEN:=Aside0.mk hlen
   clear hlen
   by_cases hlt:i < 8
   ·have hltz:(i:Int) < 8:=by omega
    have hcell:=cell_of_one hb
    have HB:=Aside0.mk hb
    have HR:=Aside0.mk hR
    have HNE:=Aside0.mk hne
    have hgl:=blk_lt hb
    clear hb hR hne
    go_wp2_with ((with_reducible refine gate_builtin (b:=.append) (xs:=#[.tmp 35,.tmp 38]) rfl ?_);at_builtin;refine Kd.R_append (Kd.int .u8) (w0:=wr) 0 rfl (.tmp 35) (.tmp 38) 67 5 (.int .u8 0) 1 rfl Try.underlying67 info8 rfl (by decide) (by omega) v (xs++le n i) (m % 256) [.int .u8 (m % 256)] (fun k=>F1 k∨wr.heap.size≤k) (fun _=>False) rfl rfl ?aP (fun _ hk=>hk.elim) ?aF ?aO ?aB ?aS ?aL ?_;(case aP=>exact rfl);(case aB=>exact Below.refl _ _);(case aF=>exact (fun _ hk=>.inr hk));(case aO=>exact Kd.R_mono HR.out (fun _ hk=>.inl hk));(case aS=>exact Nat.zero_le _);(case aL=>(have:=HL.out;have:=HLEN.out;rw [List.length_append];omega));intro v1 w1 ho hbel hg hat;obtain ⟨A1,q1,rfl⟩:=Kd.R_slice ho;have hcell1:=cell_of_one (blk_grown HB.out hg (fun e=>HNE.out g e.symm rfl));have hfree1:=free_of_one (blk_grown HB.out hg (fun e=>HNE.out g e.symm rfl));have HO:=Aside0.mk ho;have HG:=Aside0.mk hg;have HAT:=Aside0.mk hat;clear ho hbel hg hat)
    go_roundw
    case rel =>
     refine ⟨i+1,by omega,by go_num,?_,?_⟩
     ·rw [← HM.out,Int.ediv_ediv_of_nonneg (Int.pow_nonneg (by omega)),Int.pow_succ]
     ·obtain ⟨a1,a2,a3⟩:=wr_store HB.out HR.out HNE.out hFg HG.out HAT.out HO.out
      have el:(xs++le n i++[m % 256]).length=xs.length+((le n i).length+1):=by simp only [List.length_append,List.length_cons,List.length_nil];omega
      rw [el] at a1 a2 a3
      rw [List.append_assoc,← HM.out,← le_succ] at a1
      exact ⟨_,a1,HCH.out.trans a2 HF.out,fun k hk=>(a3 k hk).elim (HF.out k) (fun h=>.inr (Nat.le_trans HCH.out.size h))⟩
    case measure=>simp [intOf];omega
   ·have hltz:¬ (i:Int) < 8:=by omega
    have hi2:i=8:=by omega
    subst hi2
    go_wp2
    go_ret
    exact ⟨rfl,F1,⟨v,hb,hR,hFg,hne,hlt1⟩,HCH.out,HF.out⟩
theorem C_cells {k:IntKind} {w:World} {A:Option Addr} {n:Nat} {xs:List Int} (h:Kd.C (Kd.int k) w A n xs) (hn:0 < n):∃ ad,A=some ad∧∀ (j:Nat) (u:Value),(nums k xs)[j]?=some u→w.cell? (ad.add j)=some u:=by
 obtain ⟨ad,e,hc⟩:=h.2.2 hn
 refine ⟨ad,e,fun j u hu=>?_⟩
 simp only [nums,List.getElem?_map,Option.map_eq_some_iff] at hu
 obtain ⟨x,hx,rfl⟩:=hu
 obtain ⟨c,_,hR,hcell⟩:=hc j x hx
 have hc2:c=[.int k x]:=hR
 subst hc2
 have:=hcell 0 _ rfl
 have e1:j*(Kd.int k).sz+0=j:=by show j*1+0=j;omega
 rwa [e1] at this
set_option maxHeartbeats 1000000 in
theorem clone_bytes (A:Option Addr) (c:Nat) (xs:List Int) (w:World) (hr:Kd.C (Kd.int .u8) w A xs.length xs) (hl:xs.length≤211106232532992) :
  Calls Try.prog 81 #[.slice A xs.length c] w fun e w'=>∃ u,e=.returned u∧Kd.R (Kd.int .u8) 5 w' w.heap.size (fun _=>True) u xs∧Below w.heap.size w w':=by
 have q22:∀ (w:World) (a:Option Addr) (n c n' c':Nat),(binOp .eql 67 (.slice a n c) (.slice none n' c')).run Try.prog w=.ok (.bool a.isNone) w:=fun w a n c n' c'=>Go.Lib.run_eql_slice_nil w _ _ a n c n' c' Try.underlying67
 cases A with
 | none =>
  have h0:xs=[]:=by
   cases xs with
   | nil=>rfl
   | cons x l=>obtain ⟨ad,e,_⟩:=hr.2.2 (by simp);cases e
  subst h0
  clear hr hl
  go_enter Try.func81,Try.ntmps81
  go_wp2
  go_ret
  exact ⟨_,rfl,Kd.R_nil _ _ _ _ _,Below.refl _ _⟩
 | some ad =>
  obtain ⟨i0,hi,hz0,hz1,hz2⟩:=info_parts info8
  have hcells:∀ (j:Nat) (u:Value),(nums .u8 xs)[j]?=some u→w.cell? (ad.add j)=some u:=by
   intro j u hu
   by_cases h0:0 < xs.length
   ·obtain ⟨ad',e,hc⟩:=C_cells hr h0
    obtain rfl:=Option.some.inj e
    exact hc j u hu
   ·have:xs=[]:=List.eq_nil_of_length_eq_zero (by omega)
    subst this
    simp [nums] at hu
  have HC:=Aside0.mk hcells
  have HL:=Aside0.mk hl
  have hnl:(nums .u8 xs).length=xs.length:=by simp [nums]
  have HN:=Aside0.mk hnl
  clear hcells hl hnl hr
  go_enter Try.func81,Try.ntmps81
  go_wp2_with (at_builtin;refine wpList_append_own_wide _ rfl _ _ 67 rfl w.heap.size 5 i0 (.int .u8 0) 1 1 Try.underlying67 hi hz0 hz1 hz2 rfl (by decide) _ _ _ rfl (World.ownsRow_made w #[] 0 (Nat.le_refl _) (Nat.zero_le _) (by simp)) ad xs.length c (nums .u8 xs) rfl ?qc1 ?qc2 ?qc3 ?qc4 ?qc5 ?qc6 ?_)
  case qc1=>rw [HN.out,Nat.mul_one]
  case qc2 =>
   intro j u hj
   exact Go.Lib.cell?_alloc_some _ (HC.out j u hj)
  case qc3=>intro u hu;simp only [nums,List.mem_map] at hu;obtain ⟨x,_,rfl⟩:=hu;rfl
  case qc4=>rw [Nat.zero_add];have:=HL.out;unfold maxLen;omega
  case qc5=>simp only [Nat.zero_add,Nat.mul_one];have:=HL.out;omega
  case qc6=>simp
  intro v' w1 hown hgrow hnil
  go_wp2
  go_ret
  have hb:Below w.heap.size w w1:=((Below.refl _ w).alloc (Nat.le_refl _) _).grown hgrow (by simp) (by intro k hk;simp [Value.ownBlock] at hk;omega)
  refine ⟨v',rfl,?_,hb⟩
  refine Kd.R_of_own (h1:=fun _=>rfl) ?_ (fun _ _=>trivial)
  have e:(#[]:Array Value).toList++nums .u8 xs=nums .u8 xs:=rfl
  exact hown
set_option maxHeartbeats 1000000 in
theorem bytes_ok (g:Nat) (xs:List Int) (F:Nat→Prop) (w:World) (hw:WrAt w g xs F) (hl:xs.length≤140737488355328) :
  Calls Try.prog 76 #[.pointer (some ⟨g,0,none⟩)] w fun e w'=>∃ u,e=.returned u∧Kd.R (Kd.int .u8) 5 w' w.heap.size (fun _=>True) u xs∧Below w.heap.size w w':=by
 obtain ⟨v,hb,hR,_,_,_⟩:=hw
 obtain ⟨A,c,rfl,hlc,hC⟩:=Kd.R_reads hR
 have hcell:=cell_of_one hb
 have hcall:=clone_bytes A c xs w hC (Nat.le_trans hl (by decide))
 clear hb hR hC
 go_enter Try.func76,Try.ntmps76
 go_wp2_with (go_at_call 81;refine hcall.mono ?_;rintro e w' ⟨u,rfl,hR,hB⟩;have HR:=Aside0.mk hR;have HB:=Aside0.mk hB;clear hR hB)
 go_ret
 exact ⟨u,rfl,HR.out,HB.out⟩
set_option maxHeartbeats 1000000 in
theorem new_ok (w:World):Calls Try.prog 73 #[] w fun e w'=>e=.returned (.pointer (some ⟨w.heap.size,0,none⟩))∧WrAt w' w.heap.size [] (fun k=>k=w.heap.size)∧Below w.heap.size w w':=by
 go_enter Try.func73,Try.ntmps73
 go_wp2
 go_ret
 refine ⟨rfl,⟨.slice none 0 0,?_,Kd.R_nil _ _ _ _ _,rfl,fun k hk=>by simp [Value.ownBlock] at hk,?_⟩,?_⟩
 ·exact heap_alloc_new w _
 ·rintro k rfl;exact blk_lt (heap_alloc_new w _)
 ·exact (Below.refl _ _).alloc (Nat.le_refl _) _
set_option maxHeartbeats 2000000 in
theorem text_long (p:Value) (s:ByteArray) (w:World) (h:65535 < s.size) :
  Calls Try.prog 75 #[p,.string s] w fun e w'=>e=.returned (.int .i64 2)∧w=w':=by
 have hz:(65535:Int) < (s.size:Int):=by omega
 go_enter Try.func75,Try.ntmps75
 go_wp2
 go_ret
 exact ⟨rfl,rfl⟩
set_option maxHeartbeats 4000000 in
theorem text_ok (g:Nat) (xs:List Int) (F:Nat→Prop) (s:ByteArray) (w:World) (h:s.size≤65535) (hw:WrAt w g xs F) (hl:xs.length+8+65535≤140737488355328) :
  Calls Try.prog 75 #[.pointer (some ⟨g,0,none⟩),.string s] w fun e w'=>e=.returned (.int .i64 0)∧∃ F',WrAt w' g (xs++(le s.size 2++bytesOf s)) F'∧Chg w w' F∧∀ k,F' k→F k∨w.heap.size≤k:=by
 have hz:(s.size:Int)≤65535:=by omega
 have hok:numOk (s.size:Int) 2=true:=by
  unfold numOk numTop
  rw [decide_eq_true (show (0:Int)≤s.size by omega),if_neg (by omega),if_pos rfl,decide_eq_true (by omega)]
  rfl
 have hcall:=num_ok g xs F (s.size:Int) 2 w hok hw (by omega)
 have hln:(xs++le s.size 2).length=xs.length+2:=by rw [List.length_append,le_length]
 have HL:=Aside0.mk hl
 have HLN:=Aside0.mk hln
 have HS:=Aside0.mk h
 clear hok hw hl hln h
 go_enter Try.func75,Try.ntmps75
 go_wp2_with (first|(go_at_call 74;refine hcall.mono ?_;rintro e wr ⟨rfl,F1,⟨v,hb,hR,hFg,hne,hlt1⟩,hchg,hF⟩;(have HCH:=Aside0.mk hchg);(have HF:=Aside0.mk hF);(have hcell:=cell_of_one hb);(have HB:=Aside0.mk hb);(have HR:=Aside0.mk hR);(have HNE:=Aside0.mk hne);(have hgl:=blk_lt hb);clear hchg hF hb hR hne)|(at_builtin;refine wpList_append_string_at _ 0 (Nat.zero_le _) rfl (.tmp 21) (.tmp 22) 67 9 5 rfl Try.underlying67 Try.underlying9 info8 v (xs++le (s.size:Int) (Int.toNat 2)) F1 rfl HR.out s rfl ?aL ?_;(case aL=>((have:=HL.out);(have:=HLN.out);(have:=HS.out);(have e2:Int.toNat 2=2:=rfl);rw [e2];omega));intro v1 w1 ho hg hat;obtain ⟨A1,q1,rfl⟩:=Kd.R_slice ho;(have hcell1:=cell_of_one (blk_grown HB.out hg (fun e=>HNE.out g e.symm rfl)));(have hfree1:=free_of_one (blk_grown HB.out hg (fun e=>HNE.out g e.symm rfl)));(have HO:=Aside0.mk ho);(have HG:=Aside0.mk hg);(have HAT:=Aside0.mk hat);clear ho hg hat))
 go_ret
 obtain ⟨a1,a2,a3⟩:=wr_store HB.out HR.out HNE.out hFg HG.out HAT.out HO.out
 have el:(xs++le (s.size:Int) (Int.toNat 2)++bytesOf s).length=xs.length+((le (s.size:Int) 2).length+(bytesOf s).length):=by rw [List.length_append,List.length_append,Nat.add_assoc];rfl
 rw [el] at a1 a2 a3
 rw [List.append_assoc] at a1
 refine ⟨rfl,_,a1,HCH.out.trans a2 HF.out,fun k hk=>(a3 k hk).elim (HF.out k) (fun h=>.inr (Nat.le_trans HCH.out.size h))⟩
end Go.Proofs.Ytgjibcfkjaedfaa.Wire
