-- A part of the text PageRef, thinned by a program of this session.
import Derived.Test.YthfhkcicpfnedaaTPageGrowsPageRt
import Derived.Test.YthfhkcicpfnedaaTPageGrowsPrx0
import Derived.Test.YthfhkcicpfnedaaTPageGrowsWire
import Derived.Test.YthfhkcicpfnedaaTPageGrowsCrcRef
import Derived.Test.YthfhkcicpfnedaaTPageGrowsPrx5
import Derived.Test.YthfhkcicpfnedaaTPageGrowsRefRd
namespace Go.Proofs.Ythfhkcicpfnedaa.Page
open Go.RowKit Go.Proofs.YthfhkcicpfnedaaW.PrintWords Go.Proofs.YthfhkcicpfnedaaW.PrintLast Go.Proofs.YthfhkcicpfnedaaW.PrintMore Go.Proofs.Ythfhkcicpfnedaa.Wire Go.Proofs.Ythfhkcicpfnedaa.Crc Go.Proofs.Ythfhkcicpfnedaa.Pr
open Go.Proofs.Ythfhkcicpfnedaa.Back (AllB)
open Go.Proofs.Ythfhkcicpfnedaa.Pure
set_option linter.unusedVariables false
set_option linter.unusedSimpArgs false
structure SR (w wr:World) (F:Nat→Prop) (g p:Nat) (lv lsn rt:Int) (high:ByteArray) (V4 V5 V6:Value) (s:NS):Prop where
 rd:RfAt wr g s.xs s.wg F
 ch:Below w.heap.size w wr
 eg:g=w.heap.size+1
 ep:p=w.heap.size+1+1
 low:∀ k,F k→k≠w.heap.size∧k < p
 rs:NdAt wr w.heap.size 0 0 0 ⟨#[]⟩ (.slice none 0 0) (.slice none 0 0) (.slice none 0 0)
 nd:NdAt wr p lv lsn rt high V4 V5 V6
 r4:Kd.R Kd.string 9 wr (p+1) (fun _=>True) V4 s.ks
 r5:Kd.R Kd.string 9 wr (p+1) (fun _=>True) V5 s.vs
 r6:Kd.R (Kd.int .i64) 3 wr (p+1) (fun _=>True) V6 s.ds
 o4:∀ k,V4.ownBlock=some k→p+1≤k∧V5.ownBlock≠some k∧V6.ownBlock≠some k
 o5:∀ k,V5.ownBlock=some k→p+1≤k∧V6.ownBlock≠some k
 o6:∀ k,V6.ownBlock=some k→p+1≤k
section
variable {w wr w1:World} {F:Nat→Prop} {g p:Nat} {lv lsn rt:Int} {high:ByteArray} {V4 V5 V6:Value} {s:NS}
theorem SR.read (h:SR w wr F g p lv lsn rt high V4 V5 V6 s) (hc:Chg wr w1 (At g)) {xs:List Int} {wg:Int} (hr:RfAt w1 g xs wg F):SR w w1 F g p lv lsn rt high V4 V5 V6 ⟨s.ks,s.vs,s.ds,xs,wg⟩:=by
 have hg:=h.eg
 have hp:=h.ep
 refine ⟨hr,h.ch.trans (hc.below h.ch.size (fun k hk=>by have e:k=g:=hk;omega)),h.eg,h.ep,h.low,h.rs.chg hc (fun e=>by have e:w.heap.size=g:=e;omega),h.nd.chg hc (fun e=>by have e:p=g:=e;omega),row_keep rfl h.r4 hc ?_,row_keep rfl h.r5 hc ?_,row_keep rfl h.r6 hc ?_,h.o4,h.o5,h.o6⟩
 ·intro k hk e;have e:k=g:=e;have:=(h.o4 k hk).1;omega
 ·intro k hk e;have e:k=g:=e;have:=(h.o5 k hk).1;omega
 ·intro k hk e;have e:k=g:=e;have:=h.o6 k hk;omega
theorem SR.below (h:SR w wr F g p lv lsn rt high V4 V5 V6 s) (hc:Below wr.heap.size wr w1):SR w w1 F g p lv lsn rt high V4 V5 V6 s :=
 h.read (Chg.of_below hc _) (h.rd.below hc)
theorem SR.app4 (h:SR w wr F g p lv lsn rt high V4 V5 V6 s) {x:ByteArray} {v1:Value} (ho:Kd.R Kd.string 9 w1 (p+1) (fun _=>True) v1 (s.ks++[x])) (hg:wr.grownBy w1 V4.ownBlock) (hat:v1.ownBlock=V4.ownBlock∨∃ b,v1.ownBlock=some b∧wr.heap.size≤b) :
  NdAt w1 p lv lsn rt high V4 V5 V6∧SR w (w1.setCell ⟨p,4,none⟩ v1) F g p lv lsn rt high v1 V5 V6 ⟨s.ks++[x],s.vs,s.ds,s.xs,s.wg⟩:=by
 have hp:=h.ep
 have hpl:p < wr.heap.size:=h.nd.lt
 have c1:=Chg.of_grown hg
 have c2:=Chg.setCell w1 ⟨p,4,none⟩ v1
 have hs:=h.ch.size
 have n1:∀ k,k < p+1→¬ some k=V4.ownBlock:=fun k hk e=>by have:=(h.o4 k e.symm).1;omega
 have hv:∀ k,v1.ownBlock=some k→p+1≤k∧V5.ownBlock≠some k∧V6.ownBlock≠some k:=by
  intro k hk
  rcases hat with e|⟨b,e,hb⟩
  ·exact h.o4 k (by rw [← e];exact hk)
  ·rw [hk] at e
   injection e with e
   subst e
   refine ⟨(own_lt ho hk).1,fun e5=>?_,fun e6=>?_⟩
   ·have:=(own_lt h.r5 e5).2;omega
   ·have:=(own_lt h.r6 e6).2;omega
 have hn:=h.nd.chg c1 (n1 p (by omega))
 refine ⟨hn,(h.rd.chg c1 (fun k hk=>n1 k (by have:=(h.low k hk).2;omega))).chg c2 (fun k hk e=>by have e:k=p:=e;have:=(h.low k hk).2;omega),(h.ch.trans (c1.below hs (fun k e=>by have:=(h.o4 k e.symm).1;omega))).trans (c2.below (by have:=c1.size;omega) (fun k e=>by have e:k=p:=e;omega)),h.eg,h.ep,h.low,(h.rs.chg c1 (n1 _ (by omega))).chg c2 (fun e=>by have e:w.heap.size=p:=e;omega),(nd_put hn v1).1,row_keep rfl ho c2 (fun k hk e=>by have e:k=p:=e;have:=(hv k hk).1;omega),row_keep rfl (row_keep rfl h.r5 c1 ?_) c2 (fun k hk e=>by have e:k=p:=e;have:=(h.o5 k hk).1;omega),row_keep rfl (row_keep rfl h.r6 c1 ?_) c2 (fun k hk e=>by have e:k=p:=e;have:=h.o6 k hk;omega),hv,h.o5,h.o6⟩
 ·exact fun k hk e=>(h.o4 k e.symm).2.1 hk
 ·exact fun k hk e=>(h.o4 k e.symm).2.2 hk
theorem SR.app5 (h:SR w wr F g p lv lsn rt high V4 V5 V6 s) {x:ByteArray} {v1:Value} (ho:Kd.R Kd.string 9 w1 (p+1) (fun _=>True) v1 (s.vs++[x])) (hg:wr.grownBy w1 V5.ownBlock) (hat:v1.ownBlock=V5.ownBlock∨∃ b,v1.ownBlock=some b∧wr.heap.size≤b) :
  NdAt w1 p lv lsn rt high V4 V5 V6∧SR w (w1.setCell ⟨p,5,none⟩ v1) F g p lv lsn rt high V4 v1 V6 ⟨s.ks,s.vs++[x],s.ds,s.xs,s.wg⟩:=by
 have hp:=h.ep
 have hpl:p < wr.heap.size:=h.nd.lt
 have c1:=Chg.of_grown hg
 have c2:=Chg.setCell w1 ⟨p,5,none⟩ v1
 have hs:=h.ch.size
 have n1:∀ k,k < p+1→¬ some k=V5.ownBlock:=fun k hk e=>by have:=(h.o5 k e.symm).1;omega
 have hv:∀ k,v1.ownBlock=some k→p+1≤k∧V6.ownBlock≠some k∧V4.ownBlock≠some k:=by
  intro k hk
  rcases hat with e|⟨b,e,hb⟩
  ·have h5:=h.o5 k (by rw [← e];exact hk)
   exact ⟨h5.1,h5.2,fun e4=>(h.o4 k e4).2.1 (by rw [← e];exact hk)⟩
  ·rw [hk] at e
   injection e with e
   subst e
   refine ⟨(own_lt ho hk).1,fun e6=>?_,fun e4=>?_⟩
   ·have:=(own_lt h.r6 e6).2;omega
   ·have:=(own_lt h.r4 e4).2;omega
 have hn:=h.nd.chg c1 (n1 p (by omega))
 refine ⟨hn,(h.rd.chg c1 (fun k hk=>n1 k (by have:=(h.low k hk).2;omega))).chg c2 (fun k hk e=>by have e:k=p:=e;have:=(h.low k hk).2;omega),(h.ch.trans (c1.below hs (fun k e=>by have:=(h.o5 k e.symm).1;omega))).trans (c2.below (by have:=c1.size;omega) (fun k e=>by have e:k=p:=e;omega)),h.eg,h.ep,h.low,(h.rs.chg c1 (n1 _ (by omega))).chg c2 (fun e=>by have e:w.heap.size=p:=e;omega),(nd_put hn v1).2.1,row_keep rfl (row_keep rfl h.r4 c1 ?_) c2 (fun k hk e=>by have e:k=p:=e;have:=(h.o4 k hk).1;omega),row_keep rfl ho c2 (fun k hk e=>by have e:k=p:=e;have:=(hv k hk).1;omega),row_keep rfl (row_keep rfl h.r6 c1 ?_) c2 (fun k hk e=>by have e:k=p:=e;have:=h.o6 k hk;omega),fun k hk=>⟨(h.o4 k hk).1,fun e=>(hv k e).2.2 hk,(h.o4 k hk).2.2⟩,fun k hk=>⟨(hv k hk).1,(hv k hk).2.1⟩,h.o6⟩
 ·exact fun k hk e=>(h.o4 k hk).2.1 e.symm
 ·exact fun k hk e=>(h.o5 k e.symm).2 hk
theorem SR.app6 (h:SR w wr F g p lv lsn rt high V4 V5 V6 s) {x:Int} {v1:Value} (ho:Kd.R (Kd.int .i64) 3 w1 (p+1) (fun _=>True) v1 (s.ds++[x])) (hg:wr.grownBy w1 V6.ownBlock) (hat:v1.ownBlock=V6.ownBlock∨∃ b,v1.ownBlock=some b∧wr.heap.size≤b) :
  NdAt w1 p lv lsn rt high V4 V5 V6∧SR w (w1.setCell ⟨p,6,none⟩ v1) F g p lv lsn rt high V4 V5 v1 ⟨s.ks,s.vs,s.ds++[x],s.xs,s.wg⟩:=by
 have hp:=h.ep
 have hpl:p < wr.heap.size:=h.nd.lt
 have c1:=Chg.of_grown hg
 have c2:=Chg.setCell w1 ⟨p,6,none⟩ v1
 have hs:=h.ch.size
 have n1:∀ k,k < p+1→¬ some k=V6.ownBlock:=fun k hk e=>by have:=h.o6 k e.symm;omega
 have hv:∀ k,v1.ownBlock=some k→p+1≤k∧V4.ownBlock≠some k∧V5.ownBlock≠some k:=by
  intro k hk
  rcases hat with e|⟨b,e,hb⟩
  ·have h6:=h.o6 k (by rw [← e];exact hk)
   exact ⟨h6,fun e4=>(h.o4 k e4).2.2 (by rw [← e];exact hk),fun e5=>(h.o5 k e5).2 (by rw [← e];exact hk)⟩
  ·rw [hk] at e
   injection e with e
   subst e
   refine ⟨(own_lt ho hk).1,fun e4=>?_,fun e5=>?_⟩
   ·have:=(own_lt h.r4 e4).2;omega
   ·have:=(own_lt h.r5 e5).2;omega
 have hn:=h.nd.chg c1 (n1 p (by omega))
 refine ⟨hn,(h.rd.chg c1 (fun k hk=>n1 k (by have:=(h.low k hk).2;omega))).chg c2 (fun k hk e=>by have e:k=p:=e;have:=(h.low k hk).2;omega),(h.ch.trans (c1.below hs (fun k e=>by have:=h.o6 k e.symm;omega))).trans (c2.below (by have:=c1.size;omega) (fun k e=>by have e:k=p:=e;omega)),h.eg,h.ep,h.low,(h.rs.chg c1 (n1 _ (by omega))).chg c2 (fun e=>by have e:w.heap.size=p:=e;omega),(nd_put hn v1).2.2,row_keep rfl (row_keep rfl h.r4 c1 ?_) c2 (fun k hk e=>by have e:k=p:=e;have:=(h.o4 k hk).1;omega),row_keep rfl (row_keep rfl h.r5 c1 ?_) c2 (fun k hk e=>by have e:k=p:=e;have:=(h.o5 k hk).1;omega),row_keep rfl ho c2 (fun k hk e=>by have e:k=p:=e;have:=(hv k hk).1;omega),fun k hk=>⟨(h.o4 k hk).1,(h.o4 k hk).2.1,fun e=>(hv k e).2.1 hk⟩,fun k hk=>⟨(h.o5 k hk).1,fun e=>(hv k e).2.2 hk⟩,fun k hk=>(hv k hk).1⟩
 ·exact fun k hk e=>(h.o4 k hk).2.2 e.symm
 ·exact fun k hk e=>(h.o5 k hk).2 e.symm
theorem SR.start {w:World} {A:Option Addr} {c:Nat} {ys:List Int} (hC:Kd.C (Kd.int .u8) w A ys.length ys) (hl:ys.length=252) (hc:252≤c) (hold:∀ ad,A=some ad→ad.block < w.heap.size) :
  SR w (((w.alloc (.cells #[.int .i64 0,.int .i64 0,.int .i64 0,.string ⟨#[]⟩,.slice none 0 0,.slice none 0 0,.slice none 0 0] 25)).alloc (.cells #[.slice A 252 c,.int .i64 0] 64)).alloc (.cells #[.int .i64 0,.int .i64 0,.int .i64 0,.string ⟨#[]⟩,.slice none 0 0,.slice none 0 0,.slice none 0 0] 25)) (fun k=>k=w.heap.size+1∨∃ ad,A=some ad∧k=ad.block) (w.heap.size+1) (w.heap.size+1+1) 0 0 0 ⟨#[]⟩ (.slice none 0 0) (.slice none 0 0) (.slice none 0 0) ⟨[],[],[],ys,0⟩:=by
 have no:∀ k,Value.ownBlock (.slice none 0 0)=some k→False:=fun k hk=>by simp [Value.ownBlock] at hk
 have hlow:∀ k,(k=w.heap.size+1∨∃ ad,A=some ad∧k=ad.block)→k≠w.heap.size∧k < w.heap.size+1+1:=by
  intro k hk
  rcases hk with rfl|⟨ad,e,rfl⟩
  ·omega
  ·have:=hold ad e;omega
 have s1:(w.alloc (.cells #[.int .i64 0,.int .i64 0,.int .i64 0,.string ⟨#[]⟩,.slice none 0 0,.slice none 0 0,.slice none 0 0] 25)).heap.size=w.heap.size+1:=by simp
 have s2:((w.alloc (.cells #[.int .i64 0,.int .i64 0,.int .i64 0,.string ⟨#[]⟩,.slice none 0 0,.slice none 0 0,.slice none 0 0] 25)).alloc (.cells #[.slice A 252 c,.int .i64 0] 64)).heap.size=w.heap.size+1+1:=by simp
 have s3:(((w.alloc (.cells #[.int .i64 0,.int .i64 0,.int .i64 0,.string ⟨#[]⟩,.slice none 0 0,.slice none 0 0,.slice none 0 0] 25)).alloc (.cells #[.slice A 252 c,.int .i64 0] 64)).alloc (.cells #[.int .i64 0,.int .i64 0,.int .i64 0,.string ⟨#[]⟩,.slice none 0 0,.slice none 0 0,.slice none 0 0] 25)).heap.size=w.heap.size+1+1+1:=by simp
 have b1:Below w.heap.size w (w.alloc (.cells #[.int .i64 0,.int .i64 0,.int .i64 0,.string ⟨#[]⟩,.slice none 0 0,.slice none 0 0,.slice none 0 0] 25)):=below_alloc (Below.refl _ _) _
 have b2:Below (w.alloc (.cells #[.int .i64 0,.int .i64 0,.int .i64 0,.string ⟨#[]⟩,.slice none 0 0,.slice none 0 0,.slice none 0 0] 25)).heap.size (w.alloc (.cells #[.int .i64 0,.int .i64 0,.int .i64 0,.string ⟨#[]⟩,.slice none 0 0,.slice none 0 0,.slice none 0 0] 25)) ((w.alloc (.cells #[.int .i64 0,.int .i64 0,.int .i64 0,.string ⟨#[]⟩,.slice none 0 0,.slice none 0 0,.slice none 0 0] 25)).alloc (.cells #[.slice A 252 c,.int .i64 0] 64)):=below_alloc (Below.refl _ _) _
 have b3:Below ((w.alloc (.cells #[.int .i64 0,.int .i64 0,.int .i64 0,.string ⟨#[]⟩,.slice none 0 0,.slice none 0 0,.slice none 0 0] 25)).alloc (.cells #[.slice A 252 c,.int .i64 0] 64)).heap.size ((w.alloc (.cells #[.int .i64 0,.int .i64 0,.int .i64 0,.string ⟨#[]⟩,.slice none 0 0,.slice none 0 0,.slice none 0 0] 25)).alloc (.cells #[.slice A 252 c,.int .i64 0] 64)) (((w.alloc (.cells #[.int .i64 0,.int .i64 0,.int .i64 0,.string ⟨#[]⟩,.slice none 0 0,.slice none 0 0,.slice none 0 0] 25)).alloc (.cells #[.slice A 252 c,.int .i64 0] 64)).alloc (.cells #[.int .i64 0,.int .i64 0,.int .i64 0,.string ⟨#[]⟩,.slice none 0 0,.slice none 0 0,.slice none 0 0] 25)):=below_alloc (Below.refl _ _) _
 have hB:Below w.heap.size w (((w.alloc (.cells #[.int .i64 0,.int .i64 0,.int .i64 0,.string ⟨#[]⟩,.slice none 0 0,.slice none 0 0,.slice none 0 0] 25)).alloc (.cells #[.slice A 252 c,.int .i64 0] 64)).alloc (.cells #[.int .i64 0,.int .i64 0,.int .i64 0,.string ⟨#[]⟩,.slice none 0 0,.slice none 0 0,.slice none 0 0] 25)):=below_from2 (below_from2 b1 (Nat.le_refl _) b2) (Nat.le_refl _) b3
 have hrs:NdAt (((w.alloc (.cells #[.int .i64 0,.int .i64 0,.int .i64 0,.string ⟨#[]⟩,.slice none 0 0,.slice none 0 0,.slice none 0 0] 25)).alloc (.cells #[.slice A 252 c,.int .i64 0] 64)).alloc (.cells #[.int .i64 0,.int .i64 0,.int .i64 0,.string ⟨#[]⟩,.slice none 0 0,.slice none 0 0,.slice none 0 0] 25)) w.heap.size 0 0 0 ⟨#[]⟩ (.slice none 0 0) (.slice none 0 0) (.slice none 0 0):=NdAt.below (NdAt.below (blk_newN w _) b2) b3
 have hrd:((w.alloc (.cells #[.int .i64 0,.int .i64 0,.int .i64 0,.string ⟨#[]⟩,.slice none 0 0,.slice none 0 0,.slice none 0 0] 25)).alloc (.cells #[.slice A 252 c,.int .i64 0] 64)).heap[w.heap.size+1]?=some (.cells #[.slice A 252 c,.int .i64 0] 64 (0,0)):=by
  have h:=blk_newN (w.alloc (.cells #[.int .i64 0,.int .i64 0,.int .i64 0,.string ⟨#[]⟩,.slice none 0 0,.slice none 0 0,.slice none 0 0] 25)) (.cells #[.slice A 252 c,.int .i64 0] 64)
  rw [s1] at h
  exact h
 have hrd2:(((w.alloc (.cells #[.int .i64 0,.int .i64 0,.int .i64 0,.string ⟨#[]⟩,.slice none 0 0,.slice none 0 0,.slice none 0 0] 25)).alloc (.cells #[.slice A 252 c,.int .i64 0] 64)).alloc (.cells #[.int .i64 0,.int .i64 0,.int .i64 0,.string ⟨#[]⟩,.slice none 0 0,.slice none 0 0,.slice none 0 0] 25)).heap[w.heap.size+1]?=some (.cells #[.slice A 252 c,.int .i64 0] 64 (0,0)):=(b3.block _ (by omega)).trans hrd
 have hnd:NdAt (((w.alloc (.cells #[.int .i64 0,.int .i64 0,.int .i64 0,.string ⟨#[]⟩,.slice none 0 0,.slice none 0 0,.slice none 0 0] 25)).alloc (.cells #[.slice A 252 c,.int .i64 0] 64)).alloc (.cells #[.int .i64 0,.int .i64 0,.int .i64 0,.string ⟨#[]⟩,.slice none 0 0,.slice none 0 0,.slice none 0 0] 25)) (w.heap.size+1+1) 0 0 0 ⟨#[]⟩ (.slice none 0 0) (.slice none 0 0) (.slice none 0 0):=by
  have h:=blk_newN ((w.alloc (.cells #[.int .i64 0,.int .i64 0,.int .i64 0,.string ⟨#[]⟩,.slice none 0 0,.slice none 0 0,.slice none 0 0] 25)).alloc (.cells #[.slice A 252 c,.int .i64 0] 64)) (.cells #[.int .i64 0,.int .i64 0,.int .i64 0,.string ⟨#[]⟩,.slice none 0 0,.slice none 0 0,.slice none 0 0] 25)
  rw [s2] at h
  exact h
 exact ⟨⟨A,c,by rw [hl];exact hrd2,by rw [hl];exact hc,Kd.C_below hC hB,fun ad e _=>⟨.inr ⟨ad,e,rfl⟩,by have:=hold ad e;omega⟩,.inl rfl,fun k hk=>by have:=(hlow k hk).2;omega⟩,hB,rfl,rfl,hlow,hrs,hnd,Kd.R_nil _ _ _ _ _,Kd.R_nil _ _ _ _ _,Kd.R_nil _ _ _ _ _,fun k hk=>(no k hk).elim,fun k hk=>(no k hk).elim,fun k hk=>(no k hk).elim⟩
theorem pageF_ok (lv lsn rt:Int) (high:ByteArray) (keys vals:List ByteArray) (kids:List Int):AllB (pageF lv lsn rt high keys vals kids).1∧((pageF lv lsn rt high keys vals kids).2=0∨(pageF lv lsn rt high keys vals kids).2=60):=by
 unfold pageF
 split
 ·exact ⟨allB_append (padB_allB (bodyB_allB _ _ _ _ _ _ _)) (le_allB _ _),.inl rfl⟩
 ·exact ⟨fun x hx=>absurd hx (by simp),.inr rfl⟩
end
end Go.Proofs.Ythfhkcicpfnedaa.Page
