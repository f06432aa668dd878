-- A part of the text PageRef, thinned by a program of this session.
import Derived.Test.YtgjibcfkjaedfaaTHPagePure
import Derived.Test.YtgjibcfkjaedfaaTHRefRd
namespace Go.Proofs.Ytgjibcfkjaedfaa.Page
open Go.RowKit Go.Proofs.YtgjibcfkjaedfaaW.PrintWords Go.Proofs.YtgjibcfkjaedfaaW.PrintLast Go.Proofs.YtgjibcfkjaedfaaW.PrintMore Go.Proofs.Ytgjibcfkjaedfaa.Wire Go.Proofs.Ytgjibcfkjaedfaa.Crc Go.Proofs.Ytgjibcfkjaedfaa.Pr
open Go.Proofs.Ytgjibcfkjaedfaa.Back (AllB)
open Go.Proofs.Ytgjibcfkjaedfaa.Pure
set_option linter.unusedVariables false
set_option linter.unusedSimpArgs false
structure SR (w wr:World) (F:Nat→Prop) (g p:Nat) (lv lsn rt:Int) (high:ByteArray) (V4 V5 V6:Value) (s:NS):Prop where
 rd:RfAt wr g s.xs s.wg F
 ch:Below w.heap.size w wr
 eg:g=w.heap.size+1
 ep:p=w.heap.size+1+1
 low:∀ k,F k→k≠w.heap.size∧k < p
 rs:NdAt wr w.heap.size 0 0 0 ⟨#[]⟩ (.slice none 0 0) (.slice none 0 0) (.slice none 0 0)
 nd:NdAt wr p lv lsn rt high V4 V5 V6
 r4:Kd.R Kd.string 9 wr (p+1) (fun _=>True) V4 s.ks
 r5:Kd.R Kd.string 9 wr (p+1) (fun _=>True) V5 s.vs
 r6:Kd.R (Kd.int .i64) 3 wr (p+1) (fun _=>True) V6 s.ds
 o4:∀ k,V4.ownBlock=some k→p+1≤k∧V5.ownBlock≠some k∧V6.ownBlock≠some k
 o5:∀ k,V5.ownBlock=some k→p+1≤k∧V6.ownBlock≠some k
 o6:∀ k,V6.ownBlock=some k→p+1≤k
section
variable {w wr w1:World} {F:Nat→Prop} {g p:Nat} {lv lsn rt:Int} {high:ByteArray} {V4 V5 V6:Value} {s:NS}
theorem SR.read (h:SR w wr F g p lv lsn rt high V4 V5 V6 s) (hc:Chg wr w1 (At g)) {xs:List Int} {wg:Int} (hr:RfAt w1 g xs wg F):SR w w1 F g p lv lsn rt high V4 V5 V6 ⟨s.ks,s.vs,s.ds,xs,wg⟩:=by
 have hg:=h.eg
 have hp:=h.ep
 refine ⟨hr,h.ch.trans (hc.below h.ch.size (fun k hk=>by have e:k=g:=hk;omega)),h.eg,h.ep,h.low,h.rs.chg hc (fun e=>by have e:w.heap.size=g:=e;omega),h.nd.chg hc (fun e=>by have e:p=g:=e;omega),row_keep rfl h.r4 hc ?_,row_keep rfl h.r5 hc ?_,row_keep rfl h.r6 hc ?_,h.o4,h.o5,h.o6⟩
 ·intro k hk e;have e:k=g:=e;have:=(h.o4 k hk).1;omega
 ·intro k hk e;have e:k=g:=e;have:=(h.o5 k hk).1;omega
 ·intro k hk e;have e:k=g:=e;have:=h.o6 k hk;omega
theorem SR.below (h:SR w wr F g p lv lsn rt high V4 V5 V6 s) (hc:Below wr.heap.size wr w1):SR w w1 F g p lv lsn rt high V4 V5 V6 s :=
 h.read (Chg.of_below hc _) (h.rd.below hc)
theorem SR.upd (h:SR w wr F g p lv lsn rt high V4 V5 V6 s) (j:Nat) (u:Value) {lv' lsn' rt':Int} {high':ByteArray} (hn:NdAt (wr.setCell ⟨p,j,none⟩ u) p lv' lsn' rt' high' V4 V5 V6):SR w (wr.setCell ⟨p,j,none⟩ u) F g p lv' lsn' rt' high' V4 V5 V6 s:=by
 have c2:=Chg.setCell wr ⟨p,j,none⟩ u
 have hp:=h.ep
 exact ⟨h.rd.chg c2 (fun k hk e=>by have e:k=p:=e;have:=(h.low k hk).2;omega),h.ch.trans (c2.below h.ch.size (fun k e=>by have e:k=p:=e;omega)),h.eg,h.ep,h.low,h.rs.chg c2 (fun e=>by have e:w.heap.size=p:=e;omega),hn,row_keep rfl h.r4 c2 (fun k hk e=>by have e:k=p:=e;have:=(h.o4 k hk).1;omega),row_keep rfl h.r5 c2 (fun k hk e=>by have e:k=p:=e;have:=(h.o5 k hk).1;omega),row_keep rfl h.r6 c2 (fun k hk e=>by have e:k=p:=e;have:=h.o6 k hk;omega),h.o4,h.o5,h.o6⟩
theorem SR.set0 (h:SR w wr F g p lv lsn rt high V4 V5 V6 s) (x:Int):SR w (wr.setCell ⟨p,0,none⟩ (.int .i64 x)) F g p x lsn rt high V4 V5 V6 s:=by
 have hn:=h.nd
 unfold NdAt at hn
 exact h.upd 0 _ (blk_put (cs':=#[.int .i64 x,.int .i64 lsn,.int .i64 rt,.string high,V4,V5,V6]) hn 0 _ rfl)
theorem SR.set1 (h:SR w wr F g p lv lsn rt high V4 V5 V6 s) (x:Int):SR w (wr.setCell ⟨p,1,none⟩ (.int .i64 x)) F g p lv x rt high V4 V5 V6 s:=by
 have hn:=h.nd
 unfold NdAt at hn
 exact h.upd 1 _ (blk_put (cs':=#[.int .i64 lv,.int .i64 x,.int .i64 rt,.string high,V4,V5,V6]) hn 1 _ rfl)
theorem SR.set2 (h:SR w wr F g p lv lsn rt high V4 V5 V6 s) (x:Int):SR w (wr.setCell ⟨p,2,none⟩ (.int .i64 x)) F g p lv lsn x high V4 V5 V6 s:=by
 have hn:=h.nd
 unfold NdAt at hn
 exact h.upd 2 _ (blk_put (cs':=#[.int .i64 lv,.int .i64 lsn,.int .i64 x,.string high,V4,V5,V6]) hn 2 _ rfl)
theorem SR.set3 (h:SR w wr F g p lv lsn rt high V4 V5 V6 s) (x:ByteArray):SR w (wr.setCell ⟨p,3,none⟩ (.string x)) F g p lv lsn rt x V4 V5 V6 s:=by
 have hn:=h.nd
 unfold NdAt at hn
 exact h.upd 3 _ (blk_put (cs':=#[.int .i64 lv,.int .i64 lsn,.int .i64 rt,.string x,V4,V5,V6]) hn 3 _ rfl)
theorem SR.app4 (h:SR w wr F g p lv lsn rt high V4 V5 V6 s) {x:ByteArray} {v1:Value} (ho:Kd.R Kd.string 9 w1 (p+1) (fun _=>True) v1 (s.ks++[x])) (hg:wr.grownBy w1 V4.ownBlock) (hat:v1.ownBlock=V4.ownBlock∨∃ b,v1.ownBlock=some b∧wr.heap.size≤b) :
  NdAt w1 p lv lsn rt high V4 V5 V6∧SR w (w1.setCell ⟨p,4,none⟩ v1) F g p lv lsn rt high v1 V5 V6 ⟨s.ks++[x],s.vs,s.ds,s.xs,s.wg⟩:=by
 have hp:=h.ep
 have hpl:p < wr.heap.size:=h.nd.lt
 have c1:=Chg.of_grown hg
 have c2:=Chg.setCell w1 ⟨p,4,none⟩ v1
 have hs:=h.ch.size
 have n1:∀ k,k < p+1→¬ some k=V4.ownBlock:=fun k hk e=>by have:=(h.o4 k e.symm).1;omega
 have hv:∀ k,v1.ownBlock=some k→p+1≤k∧V5.ownBlock≠some k∧V6.ownBlock≠some k:=by
  intro k hk
  rcases hat with e|⟨b,e,hb⟩
  ·exact h.o4 k (by rw [← e];exact hk)
  ·rw [hk] at e
   injection e with e
   subst e
   refine ⟨(own_lt ho hk).1,fun e5=>?_,fun e6=>?_⟩
   ·have:=(own_lt h.r5 e5).2;omega
   ·have:=(own_lt h.r6 e6).2;omega
 have hn:=h.nd.chg c1 (n1 p (by omega))
 refine ⟨hn,(h.rd.chg c1 (fun k hk=>n1 k (by have:=(h.low k hk).2;omega))).chg c2 (fun k hk e=>by have e:k=p:=e;have:=(h.low k hk).2;omega),(h.ch.trans (c1.below hs (fun k e=>by have:=(h.o4 k e.symm).1;omega))).trans (c2.below (by have:=c1.size;omega) (fun k e=>by have e:k=p:=e;omega)),h.eg,h.ep,h.low,(h.rs.chg c1 (n1 _ (by omega))).chg c2 (fun e=>by have e:w.heap.size=p:=e;omega),(nd_put hn v1).1,row_keep rfl ho c2 (fun k hk e=>by have e:k=p:=e;have:=(hv k hk).1;omega),row_keep rfl (row_keep rfl h.r5 c1 ?_) c2 (fun k hk e=>by have e:k=p:=e;have:=(h.o5 k hk).1;omega),row_keep rfl (row_keep rfl h.r6 c1 ?_) c2 (fun k hk e=>by have e:k=p:=e;have:=h.o6 k hk;omega),hv,h.o5,h.o6⟩
 ·exact fun k hk e=>(h.o4 k e.symm).2.1 hk
 ·exact fun k hk e=>(h.o4 k e.symm).2.2 hk
theorem SR.app5 (h:SR w wr F g p lv lsn rt high V4 V5 V6 s) {x:ByteArray} {v1:Value} (ho:Kd.R Kd.string 9 w1 (p+1) (fun _=>True) v1 (s.vs++[x])) (hg:wr.grownBy w1 V5.ownBlock) (hat:v1.ownBlock=V5.ownBlock∨∃ b,v1.ownBlock=some b∧wr.heap.size≤b) :
  NdAt w1 p lv lsn rt high V4 V5 V6∧SR w (w1.setCell ⟨p,5,none⟩ v1) F g p lv lsn rt high V4 v1 V6 ⟨s.ks,s.vs++[x],s.ds,s.xs,s.wg⟩:=by
 have hp:=h.ep
 have hpl:p < wr.heap.size:=h.nd.lt
 have c1:=Chg.of_grown hg
 have c2:=Chg.setCell w1 ⟨p,5,none⟩ v1
 have hs:=h.ch.size
 have n1:∀ k,k < p+1→¬ some k=V5.ownBlock:=fun k hk e=>by have:=(h.o5 k e.symm).1;omega
 have hv:∀ k,v1.ownBlock=some k→p+1≤k∧V6.ownBlock≠some k∧V4.ownBlock≠some k:=by
  intro k hk
  rcases hat with e|⟨b,e,hb⟩
  ·have h5:=h.o5 k (by rw [← e];exact hk)
   exact ⟨h5.1,h5.2,fun e4=>(h.o4 k e4).2.1 (by rw [← e];exact hk)⟩
  ·rw [hk] at e
   injection e with e
   subst e
   refine ⟨(own_lt ho hk).1,fun e6=>?_,fun e4=>?_⟩
   ·have:=(own_lt h.r6 e6).2;omega
   ·have:=(own_lt h.r4 e4).2;omega
 have hn:=h.nd.chg c1 (n1 p (by omega))
 refine ⟨hn,(h.rd.chg c1 (fun k hk=>n1 k (by have:=(h.low k hk).2;omega))).chg c2 (fun k hk e=>by have e:k=p:=e;have:=(h.low k hk).2;omega),(h.ch.trans (c1.below hs (fun k e=>by have:=(h.o5 k e.symm).1;omega))).trans (c2.below (by have:=c1.size;omega) (fun k e=>by have e:k=p:=e;omega)),h.eg,h.ep,h.low,(h.rs.chg c1 (n1 _ (by omega))).chg c2 (fun e=>by have e:w.heap.size=p:=e;omega),(nd_put hn v1).2.1,row_keep rfl (row_keep rfl h.r4 c1 ?_) c2 (fun k hk e=>by have e:k=p:=e;have:=(h.o4 k hk).1;omega),row_keep rfl ho c2 (fun k hk e=>by have e:k=p:=e;have:=(hv k hk).1;omega),row_keep rfl (row_keep rfl h.r6 c1 ?_) c2 (fun k hk e=>by have e:k=p:=e;have:=h.o6 k hk;omega),fun k hk=>⟨(h.o4 k hk).1,fun e=>(hv k e).2.2 hk,(h.o4 k hk).2.2⟩,fun k hk=>⟨(hv k hk).1,(hv k hk).2.1⟩,h.o6⟩
 ·exact fun k hk e=>(h.o4 k hk).2.1 e.symm
 ·exact fun k hk e=>(h.o5 k e.symm).2 hk
theorem SR.app6 (h:SR w wr F g p lv lsn rt high V4 V5 V6 s) {x:Int} {v1:Value} (ho:Kd.R (Kd.int .i64) 3 w1 (p+1) (fun _=>True) v1 (s.ds++[x])) (hg:wr.grownBy w1 V6.ownBlock) (hat:v1.ownBlock=V6.ownBlock∨∃ b,v1.ownBlock=some b∧wr.heap.size≤b) :
  NdAt w1 p lv lsn rt high V4 V5 V6∧SR w (w1.setCell ⟨p,6,none⟩ v1) F g p lv lsn rt high V4 V5 v1 ⟨s.ks,s.vs,s.ds++[x],s.xs,s.wg⟩:=by
 have hp:=h.ep
 have hpl:p < wr.heap.size:=h.nd.lt
 have c1:=Chg.of_grown hg
 have c2:=Chg.setCell w1 ⟨p,6,none⟩ v1
 have hs:=h.ch.size
 have n1:∀ k,k < p+1→¬ some k=V6.ownBlock:=fun k hk e=>by have:=h.o6 k e.symm;omega
 have hv:∀ k,v1.ownBlock=some k→p+1≤k∧V4.ownBlock≠some k∧V5.ownBlock≠some k:=by
  intro k hk
  rcases hat with e|⟨b,e,hb⟩
  ·have h6:=h.o6 k (by rw [← e];exact hk)
   exact ⟨h6,fun e4=>(h.o4 k e4).2.2 (by rw [← e];exact hk),fun e5=>(h.o5 k e5).2 (by rw [← e];exact hk)⟩
  ·rw [hk] at e
   injection e with e
   subst e
   refine ⟨(own_lt ho hk).1,fun e4=>?_,fun e5=>?_⟩
   ·have:=(own_lt h.r4 e4).2;omega
   ·have:=(own_lt h.r5 e5).2;omega
 have hn:=h.nd.chg c1 (n1 p (by omega))
 refine ⟨hn,(h.rd.chg c1 (fun k hk=>n1 k (by have:=(h.low k hk).2;omega))).chg c2 (fun k hk e=>by have e:k=p:=e;have:=(h.low k hk).2;omega),(h.ch.trans (c1.below hs (fun k e=>by have:=h.o6 k e.symm;omega))).trans (c2.below (by have:=c1.size;omega) (fun k e=>by have e:k=p:=e;omega)),h.eg,h.ep,h.low,(h.rs.chg c1 (n1 _ (by omega))).chg c2 (fun e=>by have e:w.heap.size=p:=e;omega),(nd_put hn v1).2.2,row_keep rfl (row_keep rfl h.r4 c1 ?_) c2 (fun k hk e=>by have e:k=p:=e;have:=(h.o4 k hk).1;omega),row_keep rfl (row_keep rfl h.r5 c1 ?_) c2 (fun k hk e=>by have e:k=p:=e;have:=(h.o5 k hk).1;omega),row_keep rfl ho c2 (fun k hk e=>by have e:k=p:=e;have:=(hv k hk).1;omega),fun k hk=>⟨(h.o4 k hk).1,(h.o4 k hk).2.1,fun e=>(hv k e).2.1 hk⟩,fun k hk=>⟨(h.o5 k hk).1,fun e=>(hv k e).2.2 hk⟩,fun k hk=>(hv k hk).1⟩
 ·exact fun k hk e=>(h.o4 k hk).2.2 e.symm
 ·exact fun k hk e=>(h.o5 k hk).2 e.symm
theorem SR.start {w:World} {A:Option Addr} {c:Nat} {ys:List Int} (hC:Kd.C (Kd.int .u8) w A ys.length ys) (hl:ys.length=252) (hc:252≤c) (hold:∀ ad,A=some ad→ad.block < w.heap.size) :
  SR w (((w.alloc (.cells #[.int .i64 0,.int .i64 0,.int .i64 0,.string ⟨#[]⟩,.slice none 0 0,.slice none 0 0,.slice none 0 0] 113)).alloc (.cells #[.slice A 252 c,.int .i64 0] 136)).alloc (.cells #[.int .i64 0,.int .i64 0,.int .i64 0,.string ⟨#[]⟩,.slice none 0 0,.slice none 0 0,.slice none 0 0] 113)) (fun k=>k=w.heap.size+1∨∃ ad,A=some ad∧k=ad.block) (w.heap.size+1) (w.heap.size+1+1) 0 0 0 ⟨#[]⟩ (.slice none 0 0) (.slice none 0 0) (.slice none 0 0) ⟨[],[],[],ys,0⟩:=by
 have no:∀ k,Value.ownBlock (.slice none 0 0)=some k→False:=fun k hk=>by simp [Value.ownBlock] at hk
 have hlow:∀ k,(k=w.heap.size+1∨∃ ad,A=some ad∧k=ad.block)→k≠w.heap.size∧k < w.heap.size+1+1:=by
  intro k hk
  rcases hk with rfl|⟨ad,e,rfl⟩
  ·omega
  ·have:=hold ad e;omega
 have s1:(w.alloc (.cells #[.int .i64 0,.int .i64 0,.int .i64 0,.string ⟨#[]⟩,.slice none 0 0,.slice none 0 0,.slice none 0 0] 113)).heap.size=w.heap.size+1:=by simp
 have s2:((w.alloc (.cells #[.int .i64 0,.int .i64 0,.int .i64 0,.string ⟨#[]⟩,.slice none 0 0,.slice none 0 0,.slice none 0 0] 113)).alloc (.cells #[.slice A 252 c,.int .i64 0] 136)).heap.size=w.heap.size+1+1:=by simp
 have s3:(((w.alloc (.cells #[.int .i64 0,.int .i64 0,.int .i64 0,.string ⟨#[]⟩,.slice none 0 0,.slice none 0 0,.slice none 0 0] 113)).alloc (.cells #[.slice A 252 c,.int .i64 0] 136)).alloc (.cells #[.int .i64 0,.int .i64 0,.int .i64 0,.string ⟨#[]⟩,.slice none 0 0,.slice none 0 0,.slice none 0 0] 113)).heap.size=w.heap.size+1+1+1:=by simp
 have b1:Below w.heap.size w (w.alloc (.cells #[.int .i64 0,.int .i64 0,.int .i64 0,.string ⟨#[]⟩,.slice none 0 0,.slice none 0 0,.slice none 0 0] 113)):=below_alloc (Below.refl _ _) _
 have b2:Below (w.alloc (.cells #[.int .i64 0,.int .i64 0,.int .i64 0,.string ⟨#[]⟩,.slice none 0 0,.slice none 0 0,.slice none 0 0] 113)).heap.size (w.alloc (.cells #[.int .i64 0,.int .i64 0,.int .i64 0,.string ⟨#[]⟩,.slice none 0 0,.slice none 0 0,.slice none 0 0] 113)) ((w.alloc (.cells #[.int .i64 0,.int .i64 0,.int .i64 0,.string ⟨#[]⟩,.slice none 0 0,.slice none 0 0,.slice none 0 0] 113)).alloc (.cells #[.slice A 252 c,.int .i64 0] 136)):=below_alloc (Below.refl _ _) _
 have b3:Below ((w.alloc (.cells #[.int .i64 0,.int .i64 0,.int .i64 0,.string ⟨#[]⟩,.slice none 0 0,.slice none 0 0,.slice none 0 0] 113)).alloc (.cells #[.slice A 252 c,.int .i64 0] 136)).heap.size ((w.alloc (.cells #[.int .i64 0,.int .i64 0,.int .i64 0,.string ⟨#[]⟩,.slice none 0 0,.slice none 0 0,.slice none 0 0] 113)).alloc (.cells #[.slice A 252 c,.int .i64 0] 136)) (((w.alloc (.cells #[.int .i64 0,.int .i64 0,.int .i64 0,.string ⟨#[]⟩,.slice none 0 0,.slice none 0 0,.slice none 0 0] 113)).alloc (.cells #[.slice A 252 c,.int .i64 0] 136)).alloc (.cells #[.int .i64 0,.int .i64 0,.int .i64 0,.string ⟨#[]⟩,.slice none 0 0,.slice none 0 0,.slice none 0 0] 113)):=below_alloc (Below.refl _ _) _
 have hB:Below w.heap.size w (((w.alloc (.cells #[.int .i64 0,.int .i64 0,.int .i64 0,.string ⟨#[]⟩,.slice none 0 0,.slice none 0 0,.slice none 0 0] 113)).alloc (.cells #[.slice A 252 c,.int .i64 0] 136)).alloc (.cells #[.int .i64 0,.int .i64 0,.int .i64 0,.string ⟨#[]⟩,.slice none 0 0,.slice none 0 0,.slice none 0 0] 113)):=below_from2 (below_from2 b1 (Nat.le_refl _) b2) (Nat.le_refl _) b3
 have hrs:NdAt (((w.alloc (.cells #[.int .i64 0,.int .i64 0,.int .i64 0,.string ⟨#[]⟩,.slice none 0 0,.slice none 0 0,.slice none 0 0] 113)).alloc (.cells #[.slice A 252 c,.int .i64 0] 136)).alloc (.cells #[.int .i64 0,.int .i64 0,.int .i64 0,.string ⟨#[]⟩,.slice none 0 0,.slice none 0 0,.slice none 0 0] 113)) w.heap.size 0 0 0 ⟨#[]⟩ (.slice none 0 0) (.slice none 0 0) (.slice none 0 0):=NdAt.below (NdAt.below (blk_newN w _) b2) b3
 have hrd:((w.alloc (.cells #[.int .i64 0,.int .i64 0,.int .i64 0,.string ⟨#[]⟩,.slice none 0 0,.slice none 0 0,.slice none 0 0] 113)).alloc (.cells #[.slice A 252 c,.int .i64 0] 136)).heap[w.heap.size+1]?=some (.cells #[.slice A 252 c,.int .i64 0] 136 (0,0)):=by
  have h:=blk_newN (w.alloc (.cells #[.int .i64 0,.int .i64 0,.int .i64 0,.string ⟨#[]⟩,.slice none 0 0,.slice none 0 0,.slice none 0 0] 113)) (.cells #[.slice A 252 c,.int .i64 0] 136)
  rw [s1] at h
  exact h
 have hrd2:(((w.alloc (.cells #[.int .i64 0,.int .i64 0,.int .i64 0,.string ⟨#[]⟩,.slice none 0 0,.slice none 0 0,.slice none 0 0] 113)).alloc (.cells #[.slice A 252 c,.int .i64 0] 136)).alloc (.cells #[.int .i64 0,.int .i64 0,.int .i64 0,.string ⟨#[]⟩,.slice none 0 0,.slice none 0 0,.slice none 0 0] 113)).heap[w.heap.size+1]?=some (.cells #[.slice A 252 c,.int .i64 0] 136 (0,0)):=(b3.block _ (by omega)).trans hrd
 have hnd:NdAt (((w.alloc (.cells #[.int .i64 0,.int .i64 0,.int .i64 0,.string ⟨#[]⟩,.slice none 0 0,.slice none 0 0,.slice none 0 0] 113)).alloc (.cells #[.slice A 252 c,.int .i64 0] 136)).alloc (.cells #[.int .i64 0,.int .i64 0,.int .i64 0,.string ⟨#[]⟩,.slice none 0 0,.slice none 0 0,.slice none 0 0] 113)) (w.heap.size+1+1) 0 0 0 ⟨#[]⟩ (.slice none 0 0) (.slice none 0 0) (.slice none 0 0):=by
  have h:=blk_newN ((w.alloc (.cells #[.int .i64 0,.int .i64 0,.int .i64 0,.string ⟨#[]⟩,.slice none 0 0,.slice none 0 0,.slice none 0 0] 113)).alloc (.cells #[.slice A 252 c,.int .i64 0] 136)) (.cells #[.int .i64 0,.int .i64 0,.int .i64 0,.string ⟨#[]⟩,.slice none 0 0,.slice none 0 0,.slice none 0 0] 113)
  rw [s2] at h
  exact h
 exact ⟨⟨A,c,by rw [hl];exact hrd2,by rw [hl];exact hc,Kd.C_below hC hB,fun ad e _=>⟨.inr ⟨ad,e,rfl⟩,by have:=hold ad e;omega⟩,.inl rfl,fun k hk=>by have:=(hlow k hk).2;omega⟩,hB,rfl,rfl,hlow,hrs,hnd,Kd.R_nil _ _ _ _ _,Kd.R_nil _ _ _ _ _,Kd.R_nil _ _ _ _ _,fun k hk=>(no k hk).elim,fun k hk=>(no k hk).elim,fun k hk=>(no k hk).elim⟩
theorem num_at {W:World} {g:Nat} {xs:List Int} {wrong size v:Int} {R:(Int×Int)×(List Int×Int)} (e:rdNum xs wrong size=R) (hv:R.1.1=v) (hr:RfAt W g xs wrong F) (ho:Ok xs) :
  Calls Try.prog 84 #[.pointer (some ⟨g,0,none⟩),.int .i64 size] W fun e w'=>e=.returned (.tuple #[.int .i64 v,.int .i64 R.1.2])∧RfAt w' g R.2.1 R.2.2 F∧Chg W w' (At g):=by
 subst e hv
 exact rfnum_ok g xs wrong size F W hr ho.2 ho.1
theorem text_at {W:World} {g:Nat} {xs:List Int} {wrong:Int} {v:ByteArray} {R:(List Int×Int)×(List Int×Int)} (e:rdText xs wrong 256=R) (hv:strOfNums R.1.1=v) (hr:RfAt W g xs wrong F) (ho:Ok xs) :
  Calls Try.prog 85 #[.pointer (some ⟨g,0,none⟩),.int .i64 256] W fun e w'=>e=.returned (.tuple #[.string v,.int .i64 R.1.2])∧RfAt w' g R.2.1 R.2.2 F∧Chg W w' (At g):=by
 subst e hv
 exact rftext_ok g xs wrong 256 F W hr ho.2 ho.1
theorem pageF_ok (lv lsn rt:Int) (high:ByteArray) (keys vals:List ByteArray) (kids:List Int):AllB (pageF lv lsn rt high keys vals kids).1∧((pageF lv lsn rt high keys vals kids).2=0∨(pageF lv lsn rt high keys vals kids).2=60):=by
 unfold pageF
 split
 ·exact ⟨allB_append (padB_allB (bodyB_allB _ _ _ _ _ _ _)) (le_allB _ _),.inl rfl⟩
 ·exact ⟨fun x hx=>absurd hx (by simp),.inr rfl⟩
theorem rdText_few {M:Int} (hM:0≤M) (xs:List Int) (wg:Int):((rdText xs wg M).1.1.length:Int)≤M:=by
 unfold rdText
 split
 ·simpa using hM
 ·split
  ·simpa using hM
  ·split
   ·simpa using hM
   ·split
    ·simpa using hM
    ·split
     ·simpa using hM
     ·simp only [List.length_take]
      omega
theorem strOfNums_size (xs:List Int):(strOfNums xs).size=xs.length:=by
 show (strOfNums xs).data.size=xs.length
 rw [← Array.length_toList,Go.strOfNums_data,List.length_map]
theorem loopR_small (lv:Int):∀ (n:Nat) (s:NS),(∀ y ∈ s.ks,y.size≤256)→∀ y ∈ (loopR lv s n).ks,y.size≤256
 | 0,s,h=>h
 | n+1,s,h=>by
  rw [loopR]
  split
  ·refine loopR_small lv n _ ?_
   have hk:(stepM 256 lv s).ks=s.ks++[strOfNums (rdText s.xs s.wg 256).1.1]:=by
    unfold stepM
    split <;> rfl
   rw [hk]
   intro y hy
   rcases List.mem_append.1 hy with hy|hy
   ·exact h y hy
   ·have hy:=List.mem_singleton.1 hy
    subst hy
    rw [strOfNums_size]
    have:=rdText_few (M:=256) (by omega) s.xs s.wg
    omega
  ·exact h
theorem lt_succ2 {M i:Nat} {x:Int} (h:i < M) (hx:x=(i:Int)+1):M - (intOf (.int .i64 x)).toNat < M - (intOf (.int .i64 (i:Int))).toNat:=by
 subst hx
 show M - ((i:Int)+1).toNat < M - ((i:Int)).toNat
 omega
theorem Ok.num' {xs:List Int} {wrong size:Int} {R:(Int×Int)×(List Int×Int)} (h:Ok xs) (e:rdNum xs wrong size=R):Ok R.2.1:=by subst e;exact h.num _ _
theorem Ok.text' {xs:List Int} {wrong most:Int} {R:(List Int×Int)×(List Int×Int)} (h:Ok xs) (e:rdText xs wrong most=R):Ok R.2.1:=by subst e;exact h.text _ _
end
set_option maxHeartbeats 8000000 in
set_option maxRecDepth 100000 in
theorem refdec_ok (A:Option Addr) (c:Nat) (xs:List Int) (w:World) (hr:Kd.C (Kd.int .u8) w A xs.length xs) (hc:xs.length≤c) (hb:AllB xs) :
  Calls Try.prog 66 #[.slice A xs.length c] w fun e w'=>∃ u,e=.returned (.tuple #[u,.int .i64 (decR xs).2])∧NdRes w' u (decR xs).1∧Below w.heap.size w w':=by
 have hlen:xs.length≤9223372036854775807:=hr.2.1
 have HP0:Aside0 (NdAt (w.alloc (.cells #[.int .i64 0,.int .i64 0,.int .i64 0,.string ⟨#[]⟩,.slice none 0 0,.slice none 0 0,.slice none 0 0] 113)) w.heap.size 0 0 0 ⟨#[]⟩ (.slice none 0 0) (.slice none 0 0) (.slice none 0 0)):=⟨blk_newN _ _⟩
 have HB0:=Aside0.mk (below_alloc (Below.refl w.heap.size w) (.cells #[.int .i64 0,.int .i64 0,.int .i64 0,.string ⟨#[]⟩,.slice none 0 0,.slice none 0 0,.slice none 0 0] 113))
 unfold decR
 by_cases h256:xs.length=256
 ·rw [if_neg (by omega)]
  have e1:((xs.length:Int)=256)=True:=eq_true (by omega)
  have e2:(xs.length=256)=True:=eq_true h256
  have e3:((xs.length:Int)==256)=true:=by simp [h256]
  have hold:∀ ad,A=some ad→ad.block < w.heap.size:=by
   intro ad e
   obtain ⟨ad',e',hcc⟩:=C_cells hr (by omega)
   rw [e] at e'
   obtain rfl:=Option.some.inj e'
   have:=hcc 0 (.int .u8 (xs[0]'(by omega))) (by simp [nums])
   rw [Addr.add_zero'] at this
   exact World.block_lt_of_cell? w _ this
  have hcut:∀ W:World,(Instr.slice 67 (.slice A xs.length c) none (some (.int .i64 252)) none).run Try.prog W=.ok (.slice A 252 c) W:=by
   intro W
   exact cut_to (P:=Try.prog) 67 5 .i64 Try.underlying67 (info_parts info8).choose_spec.1 A xs.length c 252 (by omega) (by omega) hc W
  have hyl:(xs.take 252).length=252:=by rw [List.length_take];omega
  have hC252:=Kd.C_take hr (show 252≤xs.length by omega)
  have hOk:Ok (xs.take 252):=⟨fun x hx=>hb x (List.mem_of_mem_take hx),by omega⟩
  have HC0:=Aside0.mk hr
  have HCC:=Aside0.mk hc
  have HL:=Aside0.mk h256
  have HBX:=Aside0.mk hb
  have HS0:=Aside0.mk (SR.start (c:=c) hC252 hyl (by omega) hold)
  have HOK:=Aside0.mk hOk
  clear hr hc hb h256 hC252 hyl hold hOk
  generalize hys:xs.take 252=ys at HS0 HOK ⊢
  have HYS:=Aside0.mk hys
  clear hys
  have hmf:=many_few ys HOK.out.1
  obtain ⟨M,hM⟩:∃ M:Nat,(manyR ys).1.1=(M:Int):=⟨(manyR ys).1.1.toNat,by omega⟩
  have HM65:Aside0 (M≤65535):=⟨by omega⟩
  clear hmf
  obtain ⟨lv,hlv⟩:∃ lv,(lvR ys).1.1=lv:=⟨_,rfl⟩
  obtain ⟨lsn,hlsn⟩:∃ lsn,(lsnR ys).1.1=lsn:=⟨_,rfl⟩
  obtain ⟨rt,hrt⟩:∃ rt,(rtR ys).1.1=rt:=⟨_,rfl⟩
  obtain ⟨high,hhigh⟩:∃ high,strOfNums (highM 256 ys).1.1=high:=⟨_,rfl⟩
  have hE:loopR lv (startM 256 ys) M=endR ys:=by
   unfold endR
   rw [hlv,hM,Int.toNat_natCast]
  have hV:nodeR ys=(lv,lsn,rt,high,(endR ys).ks,(endR ys).vs,(endR ys).ds):=by
   unfold nodeR
   rw [hlv,hlsn,hrt,hhigh]
  have hO1:Ok (lvR ys).2.1:=HOK.out.num' rfl
  have hO2:Ok (lsnR ys).2.1:=hO1.num' rfl
  have hO3:Ok (rtR ys).2.1:=hO2.num' rfl
  have hO4:Ok (manyR ys).2.1:=hO3.num' rfl
  have hO5:Ok (highM 256 ys).2.1:=hO4.text' (most:=256) rfl
  have hstart:startM 256 ys=if 0 < lv then stepD ⟨[],[],[],(highM 256 ys).2.1,(highM 256 ys).2.2⟩ else ⟨[],[],[],(highM 256 ys).2.1,(highM 256 ys).2.2⟩:=by
   unfold startM
   rw [hlv]
  have HO1:=Aside0.mk hO1
  have HO2:=Aside0.mk hO2
  have HO3:=Aside0.mk hO3
  have HO4:=Aside0.mk hO4
  have HO5:=Aside0.mk hO5
  have HE:=Aside0.mk hE
  have HV:=Aside0.mk hV
  have HLV:=Aside0.mk hlv
  have HLSN:=Aside0.mk hlsn
  have HRT:=Aside0.mk hrt
  have HHI:=Aside0.mk hhigh
  have HMN:=Aside0.mk hM
  have HSTART:=Aside0.mk hstart
  clear hO1 hO2 hO3 hO4 hO5 hE hV hlv hlsn hrt hhigh hM hstart
  have HSM:Aside0 (∀ y ∈ (endR ys).ks,y.size≤256):=⟨by
   rw [← HE.out]
   refine loopR_small _ _ _ ?_
   rw [HSTART.out]
   split <;> simp [stepD]⟩
  generalize endR ys=E at HE HV HSM ⊢
  generalize nodeR ys=NV at HV ⊢
  generalize startM 256 ys=s0 at HE HSTART
  generalize hD:(if E.wg=0∧pageV NV=(xs,0) then (NV,(0:Int)) else (zeroV,60))=D
  have HD:=Aside0.mk hD
  clear hD
  go_enter Try.func66,Try.ntmps66
  go_upto_region 5 with (fail)
  generalize (((w.alloc (.cells #[.int .i64 0,.int .i64 0,.int .i64 0,.string ⟨#[]⟩,.slice none 0 0,.slice none 0 0,.slice none 0 0] 113)).alloc (.cells #[.slice A 252 c,.int .i64 0] 136)).alloc (.cells #[.int .i64 0,.int .i64 0,.int .i64 0,.string ⟨#[]⟩,.slice none 0 0,.slice none 0 0,.slice none 0 0] 113))=W1 at HS0 ⊢
  generalize (fun k=>k=w.heap.size+1∨∃ ad,A=some ad∧k=ad.block)=F at HS0
  generalize hp:w.heap.size+1+1=p at HS0 ⊢
  generalize hg:w.heap.size+1=g at HS0 ⊢
  clear hp hg
  have hn1:=num_at (size:=1) (R:=lvR ys) rfl HLV.out HS0.out.rd HOK.out
  go_upto_if 59 with (first
   | (go_at_call 84;(with_reducible refine hn1.mono ?_);rintro e w1 ⟨rfl,hr1,hc1⟩;(have hs1:=HS0.out.read hc1 hr1);(have HS1:=Aside0.mk (hs1.set0 lv));obtain ⟨⟨n0,n1,n2,n3,n4,n5,n6⟩,⟨m0,m1,m2,m3,m4,m5,m6⟩⟩:=hs1.nd.cells;(have hn2:=num_at (size:=8) (R:=lsnR ys) rfl HLSN.out HS1.out.rd HO1.out);clear hr1 hc1 hs1 hn1)
   | (go_at_call 84;(with_reducible refine hn2.mono ?_);rintro e w2 ⟨rfl,hr1,hc1⟩;clear n0 n1 n2 n3 n4 n5 n6 m0 m1 m2 m3 m4 m5 m6;(have hs1:=HS1.out.read hc1 hr1);(have HS2:=Aside0.mk (hs1.set1 lsn));obtain ⟨⟨n0,n1,n2,n3,n4,n5,n6⟩,⟨m0,m1,m2,m3,m4,m5,m6⟩⟩:=hs1.nd.cells;(have hn3:=num_at (size:=4) (R:=rtR ys) rfl HRT.out HS2.out.rd HO2.out);clear hr1 hc1 hs1 hn2)
   | (go_at_call 84;(with_reducible refine hn3.mono ?_);rintro e w3 ⟨rfl,hr1,hc1⟩;clear n0 n1 n2 n3 n4 n5 n6 m0 m1 m2 m3 m4 m5 m6;(have hs1:=HS2.out.read hc1 hr1);(have HS3:=Aside0.mk (hs1.set2 rt));obtain ⟨⟨n0,n1,n2,n3,n4,n5,n6⟩,⟨m0,m1,m2,m3,m4,m5,m6⟩⟩:=hs1.nd.cells;(have hn4:=num_at (size:=2) (R:=manyR ys) rfl HMN.out HS3.out.rd HO3.out);clear hr1 hc1 hs1 hn3)
   | (go_at_call 84;(with_reducible refine hn4.mono ?_);rintro e w4 ⟨rfl,hr1,hc1⟩;clear n0 n1 n2 n3 n4 n5 n6 m0 m1 m2 m3 m4 m5 m6;(have HS4:=Aside0.mk (HS3.out.read hc1 hr1));(have hn5:=text_at (R:=highM 256 ys) rfl HHI.out HS4.out.rd HO4.out);clear hr1 hc1 hn4)
   | (go_at_call 85;(with_reducible refine hn5.mono ?_);rintro e w5 ⟨rfl,hr1,hc1⟩;(have hs1:=HS4.out.read hc1 hr1);(have HS5:=Aside0.mk (hs1.set3 high));obtain ⟨⟨n0,n1,n2,n3,n4,n5,n6⟩,⟨m0,m1,m2,m3,m4,m5,m6⟩⟩:=hs1.nd.cells;clear hr1 hc1 hs1 hn5))
  clear n0 n1 n2 n3 n4 n5 n6 m0 m1 m2 m3 m4 m5 m6 HS0 HS1 HS2 HS3 HS4
  generalize w5.setCell ⟨p,3,none⟩ (.string high)=W6 at HS5 ⊢
  obtain ⟨⟨n0,n1,n2,n3,n4,n5,n6⟩,⟨m0,m1,m2,m3,m4,m5,m6⟩⟩:=HS5.out.nd.cells
  go_cut [] (fun wx=>∃ V6,Aside0 (SR w wx F g p lv lsn rt high (.slice none 0 0) (.slice none 0 0) V6 s0))
  case first =>
   have hn6:=num_at (size:=4) (R:=rdNum (highM 256 ys).2.1 (highM 256 ys).2.2 4) rfl rfl HS5.out.rd HO5.out
   go_wp2_with (first
    | ((with_reducible refine gate_builtin (b:=.append) (xs:=#[.tmp 66,.tmp 68]) rfl ?_);at_builtin;refine Kd.R_append (Kd.int .i64) (w0:=w7) (p+1) rfl (.tmp 66) (.tmp 68) 68 3 (.int .i64 0) 8 rfl Try.underlying68 infoInt rfl (by decide) (by decide) (.slice none 0 0) [] (rdNum (highM 256 ys).2.1 (highM 256 ys).2.2 4).1.1 [.int .i64 (rdNum (highM 256 ys).2.1 (highM 256 ys).2.2 4).1.1] (fun _=>True) (fun _=>False) rfl rfl rfl (fun _ hk=>hk.elim) (fun _ _=>trivial) HS7.out.r6 (Below.refl _ _) (by have:=HS7.out.nd.lt;omega) (by decide) ?_;intro v1 w8 ho hb hg hat;clear n0 n1 n2 n3 n4 n5 n6 m0 m1 m2 m3 m4 m5 m6;(have hap:=HS7.out.app6 ho hg hat);obtain ⟨A1,q1,rfl⟩:=Kd.R_slice ho;(rw [List.length_append,List.length_singleton] at hap);(have hst:=hap.2);obtain ⟨⟨n0,n1,n2,n3,n4,n5,n6⟩,⟨m0,m1,m2,m3,m4,m5,m6⟩⟩:=hap.1.cells;(have HS8:=Aside0.mk hst);clear ho hb hg hat hap hst)
    | (go_at_call 84;(with_reducible refine hn6.mono ?_);rintro e w7 ⟨rfl,hr1,hc1⟩;clear n0 n1 n2 n3 n4 n5 n6 m0 m1 m2 m3 m4 m5 m6;(have HS7:=Aside0.mk (HS5.out.read hc1 hr1));obtain ⟨⟨n0,n1,n2,n3,n4,n5,n6⟩,⟨m0,m1,m2,m3,m4,m5,m6⟩⟩:=HS7.out.nd.cells;(have hnl:=HS7.out.nd.lt);clear hr1 hc1 hn6))
   ·go_meet
    case rel =>
     have hl0:0 < lv:=by assumption
     have hs:=HSTART.out
     rw [if_pos hl0] at hs
     exact ⟨(.slice A1 1 q1),⟨hs ▸ HS8.out⟩⟩
   ·go_meet
    case rel =>
     have hl0:¬ 0 < lv:=Int.not_lt.2 (by assumption)
     have hs:=HSTART.out
     rw [if_neg hl0] at hs
     exact ⟨(.slice none 0 0),⟨hs ▸ HS5.out⟩⟩
  case rest =>
   clear HS5
   obtain ⟨V6,HS⟩:=hcut
   have hI0:0≤M∧loopR lv s0 (M - 0)=E∧Ok s0.xs∧s0.ks.length≤0∧s0.vs.length≤0∧s0.ds.length≤0+1:=by
    refine ⟨Nat.zero_le _,HE.out,?_⟩
    rw [HSTART.out]
    split
    ·exact ⟨HO5.out.num' (size:=4) rfl,by simp [stepD],by simp [stepD],by simp [stepD]⟩
    ·exact ⟨HO5.out,by simp,by simp,by simp⟩
   have HI0:=Aside0.mk hI0
   clear hI0 n0 n1 n2 n3 n4 n5 n6 m0 m1 m2 m3 m4 m5 m6
   go_wp2
   go_loopw [10] (fun v10 wr=>∃ (i:Nat) (s:NS) (V4 V5 V6:Value),v10=.int .i64 (i:Int)∧Aside0 (i≤M∧loopR lv s (M - i)=E∧Ok s.xs∧s.ks.length≤i∧s.vs.length≤i∧s.ds.length≤i+1)∧Aside0 (SR w wr F g p lv lsn rt high V4 V5 V6 s)) (fun v10 _=>M - (intOf v10).toNat)
   case atStart=>exact ⟨0,s0,_,_,_,rfl,HI0,HS⟩
   case round =>
    clear HS HI0
    obtain ⟨i,s,V4,V5,V6,rfl,HI,HS⟩:=hrel
    obtain ⟨⟨n0,n1,n2,n3,n4,n5,n6⟩,⟨m0,m1,m2,m3,m4,m5,m6⟩⟩:=HS.out.nd.cells
    obtain ⟨A0,c0,hrb,_⟩:=HS.out.rd
    obtain ⟨_,hw1,_,_⟩:=two_cells hrb
    clear hrb
    by_cases hgo:i < M∧s.wg=0
    ·have HLT:=Aside0.mk hgo.1
     have d1:decide ((i:Int) < (M:Int))=true:=decide_eq_true (by omega)
     have d2:((i:Int) < (M:Int))=True:=eq_true (by omega)
     have d3:(s.wg==0)=true:=by simp [hgo.2]
     have d4:=eq_true hgo.2
     have hstep:loopR lv (stepM 256 lv s) (M - (i+1))=E:=by
      have h:=HI.out.2.1
      rw [show M - i=(M - (i+1))+1 by omega,loopR,if_pos hgo.2] at h
      exact h
     have HSTEP:=Aside0.mk hstep
     have HW:=Aside0.mk hgo.2
     have hn1:=text_at (R:=rdText s.xs s.wg 256) rfl rfl HS.out.rd HI.out.2.2.1
     clear hgo hstep
     by_cases hl0:0 < lv
     ·have e1:decide (lv > 0)=true:=decide_eq_true hl0
      have e2:(0 < lv)=True:=eq_true hl0
      have hw64:wrap64 ((i:Int)+1)=(i:Int)+1:=by
       have h1:=HLT.out
       have h2:=HM65.out
       unfold wrap64
       omega
      have HW64:=Aside0.mk hw64
      have HL0:=Aside0.mk hl0
      clear hl0 hw64
      go_wp2_with (first
       | ((with_reducible refine gate_builtin (b:=.append) (xs:=#[.tmp 89,.tmp 91]) rfl ?_);at_builtin;refine Kd.R_append Kd.string (w0:=w1) (p+1) rfl (.tmp 89) (.tmp 91) 111 9 (.string ⟨#[]⟩) 16 rfl Try.underlying111 infoStr rfl (by decide) (by decide) V4 s.ks (strOfNums (rdText s.xs s.wg 256).1.1) [.string (strOfNums (rdText s.xs s.wg 256).1.1)] (fun _=>True) (fun _=>False) rfl rfl rfl (fun _ hk=>hk.elim) (fun _ _=>trivial) HS1.out.r4 (Below.refl _ _) (by have:=HS1.out.nd.lt;omega) (by have:=HI.out.2.2.2.1;have:=HM65.out;have:=HLT.out;omega) ?_;intro v1 w2 ho hb hg hat;clear n0 n1 n2 n3 n4 n5 n6 m0 m1 m2 m3 m4 m5 m6;(have hap:=HS1.out.app4 ho hg hat);obtain ⟨A1,q1,rfl⟩:=Kd.R_slice ho;(rw [List.length_append,List.length_singleton] at hap);(have hst:=hap.2);obtain ⟨⟨n0,n1,n2,n3,n4,n5,n6⟩,⟨m0,m1,m2,m3,m4,m5,m6⟩⟩:=hap.1.cells;(have HS2:=Aside0.mk hst);clear ho hb hg hat hap hst;(have hn3:=num_at (size:=4) (R:=(rdNum (rdText s.xs s.wg 256).2.1 (rdText s.xs s.wg 256).2.2 4)) rfl rfl HS2.out.rd (HI.out.2.2.1.text' (most:=256) rfl)))
       | ((with_reducible refine gate_builtin (b:=.append) (xs:=#[.tmp 103,.tmp 105]) rfl ?_);at_builtin;refine Kd.R_append (Kd.int .i64) (w0:=w3) (p+1) rfl (.tmp 103) (.tmp 105) 68 3 (.int .i64 0) 8 rfl Try.underlying68 infoInt rfl (by decide) (by decide) V6 s.ds (rdNum (rdText s.xs s.wg 256).2.1 (rdText s.xs s.wg 256).2.2 4).1.1 [.int .i64 (rdNum (rdText s.xs s.wg 256).2.1 (rdText s.xs s.wg 256).2.2 4).1.1] (fun _=>True) (fun _=>False) rfl rfl rfl (fun _ hk=>hk.elim) (fun _ _=>trivial) HS3.out.r6 (Below.refl _ _) (by have:=HS3.out.nd.lt;omega) (by have:=HI.out.2.2.2.2.2;have:=HM65.out;have:=HLT.out;omega) ?_;intro v1 w4 ho hb hg hat;clear n0 n1 n2 n3 n4 n5 n6 m0 m1 m2 m3 m4 m5 m6;(have hap:=HS3.out.app6 ho hg hat);obtain ⟨A2,q2,rfl⟩:=Kd.R_slice ho;(rw [List.length_append,List.length_singleton] at hap);(have hst:=hap.2);obtain ⟨⟨n0,n1,n2,n3,n4,n5,n6⟩,⟨m0,m1,m2,m3,m4,m5,m6⟩⟩:=hap.1.cells;(have HS4:=Aside0.mk hst);clear ho hb hg hat hap hst)
       | (go_at_call 85;(with_reducible refine hn1.mono ?_);rintro e w1 ⟨rfl,hr1,hc1⟩;clear n0 n1 n2 n3 n4 n5 n6 m0 m1 m2 m3 m4 m5 m6;(have HS1:=Aside0.mk (HS.out.read hc1 hr1));obtain ⟨⟨n0,n1,n2,n3,n4,n5,n6⟩,⟨m0,m1,m2,m3,m4,m5,m6⟩⟩:=HS1.out.nd.cells;(have hnlw1:=HS1.out.nd.lt);clear hr1 hc1 hn1)
       | (go_at_call 84;(with_reducible refine hn3.mono ?_);rintro e w3 ⟨rfl,hr1,hc1⟩;clear n0 n1 n2 n3 n4 n5 n6 m0 m1 m2 m3 m4 m5 m6;(have HS3:=Aside0.mk (HS2.out.read hc1 hr1));obtain ⟨⟨n0,n1,n2,n3,n4,n5,n6⟩,⟨m0,m1,m2,m3,m4,m5,m6⟩⟩:=HS3.out.nd.cells;(have hnlw3:=HS3.out.nd.lt);clear hr1 hc1 hn3))
      have hst:stepM 256 lv s=⟨s.ks++[strOfNums (rdText s.xs s.wg 256).1.1],s.vs,s.ds++[(rdNum (rdText s.xs s.wg 256).2.1 (rdText s.xs s.wg 256).2.2 4).1.1],(rdNum (rdText s.xs s.wg 256).2.1 (rdText s.xs s.wg 256).2.2 4).2.1,(rdNum (rdText s.xs s.wg 256).2.1 (rdText s.xs s.wg 256).2.2 4).2.2⟩:=by
       unfold stepM
       rw [if_pos HL0.out]
       rfl
      have hok:Ok (stepM 256 lv s).xs:=by
       rw [hst]
       exact (HI.out.2.2.1.text' (R:=(rdText s.xs s.wg 256)) rfl).num' (size:=4) rfl
      have hl1:(stepM 256 lv s).ks.length≤i+1∧(stepM 256 lv s).vs.length≤i+1∧(stepM 256 lv s).ds.length≤i+1+1:=by
       rw [hst]
       have h:=HI.out.2.2.2
       simp only [List.length_append,List.length_singleton]
       omega
      have HS9:Aside0 (SR w _ F g p lv lsn rt high _ _ _ (stepM 256 lv s)):=⟨hst.symm ▸ HS4.out⟩
      have HI9:Aside0 (i+1≤M∧loopR lv (stepM 256 lv s) (M - (i+1))=E∧Ok (stepM 256 lv s).xs∧(stepM 256 lv s).ks.length≤i+1∧(stepM 256 lv s).vs.length≤i+1∧(stepM 256 lv s).ds.length≤i+1+1):=⟨HLT.out,HSTEP.out,hok,hl1⟩
      clear hst hok hl1
      exact ⟨⟨i+1,stepM 256 lv s,_,_,_,(congrArg (Value.int .i64) HW64.out).trans (cast_succ i),HI9,HS9⟩,lt_succ2 HLT.out HW64.out⟩
     ·have e1:decide (lv > 0)=false:=decide_eq_false hl0
      have e2:(0 < lv)=False:=eq_false hl0
      have hw64:wrap64 ((i:Int)+1)=(i:Int)+1:=by
       have h1:=HLT.out
       have h2:=HM65.out
       unfold wrap64
       omega
      have HW64:=Aside0.mk hw64
      have HL0:=Aside0.mk (Int.not_lt.1 hl0)
      clear hl0 hw64
      go_wp2_with (first
       | ((with_reducible refine gate_builtin (b:=.append) (xs:=#[.tmp 89,.tmp 91]) rfl ?_);at_builtin;refine Kd.R_append Kd.string (w0:=w1) (p+1) rfl (.tmp 89) (.tmp 91) 111 9 (.string ⟨#[]⟩) 16 rfl Try.underlying111 infoStr rfl (by decide) (by decide) V4 s.ks (strOfNums (rdText s.xs s.wg 256).1.1) [.string (strOfNums (rdText s.xs s.wg 256).1.1)] (fun _=>True) (fun _=>False) rfl rfl rfl (fun _ hk=>hk.elim) (fun _ _=>trivial) HS1.out.r4 (Below.refl _ _) (by have:=HS1.out.nd.lt;omega) (by have:=HI.out.2.2.2.1;have:=HM65.out;have:=HLT.out;omega) ?_;intro v1 w2 ho hb hg hat;clear n0 n1 n2 n3 n4 n5 n6 m0 m1 m2 m3 m4 m5 m6;(have hap:=HS1.out.app4 ho hg hat);obtain ⟨A1,q1,rfl⟩:=Kd.R_slice ho;(rw [List.length_append,List.length_singleton] at hap);(have hst:=hap.2);obtain ⟨⟨n0,n1,n2,n3,n4,n5,n6⟩,⟨m0,m1,m2,m3,m4,m5,m6⟩⟩:=hap.1.cells;(have HS2:=Aside0.mk hst);clear ho hb hg hat hap hst;(have hn3:=text_at (R:=(rdText (rdText s.xs s.wg 256).2.1 (rdText s.xs s.wg 256).2.2 256)) rfl rfl HS2.out.rd (HI.out.2.2.1.text' (most:=256) rfl)))
       | ((with_reducible refine gate_builtin (b:=.append) (xs:=#[.tmp 114,.tmp 116]) rfl ?_);at_builtin;refine Kd.R_append Kd.string (w0:=w3) (p+1) rfl (.tmp 114) (.tmp 116) 111 9 (.string ⟨#[]⟩) 16 rfl Try.underlying111 infoStr rfl (by decide) (by decide) V5 s.vs (strOfNums (rdText (rdText s.xs s.wg 256).2.1 (rdText s.xs s.wg 256).2.2 256).1.1) [.string (strOfNums (rdText (rdText s.xs s.wg 256).2.1 (rdText s.xs s.wg 256).2.2 256).1.1)] (fun _=>True) (fun _=>False) rfl rfl rfl (fun _ hk=>hk.elim) (fun _ _=>trivial) HS3.out.r5 (Below.refl _ _) (by have:=HS3.out.nd.lt;omega) (by have:=HI.out.2.2.2.2.1;have:=HM65.out;have:=HLT.out;omega) ?_;intro v1 w4 ho hb hg hat;clear n0 n1 n2 n3 n4 n5 n6 m0 m1 m2 m3 m4 m5 m6;(have hap:=HS3.out.app5 ho hg hat);obtain ⟨A2,q2,rfl⟩:=Kd.R_slice ho;(rw [List.length_append,List.length_singleton] at hap);(have hst:=hap.2);obtain ⟨⟨n0,n1,n2,n3,n4,n5,n6⟩,⟨m0,m1,m2,m3,m4,m5,m6⟩⟩:=hap.1.cells;(have HS4:=Aside0.mk hst);clear ho hb hg hat hap hst)
       | (go_at_call 85;(with_reducible refine hn1.mono ?_);rintro e w1 ⟨rfl,hr1,hc1⟩;clear n0 n1 n2 n3 n4 n5 n6 m0 m1 m2 m3 m4 m5 m6;(have HS1:=Aside0.mk (HS.out.read hc1 hr1));obtain ⟨⟨n0,n1,n2,n3,n4,n5,n6⟩,⟨m0,m1,m2,m3,m4,m5,m6⟩⟩:=HS1.out.nd.cells;(have hnlw1:=HS1.out.nd.lt);clear hr1 hc1 hn1)
       | (go_at_call 85;(with_reducible refine hn3.mono ?_);rintro e w3 ⟨rfl,hr1,hc1⟩;clear n0 n1 n2 n3 n4 n5 n6 m0 m1 m2 m3 m4 m5 m6;(have HS3:=Aside0.mk (HS2.out.read hc1 hr1));obtain ⟨⟨n0,n1,n2,n3,n4,n5,n6⟩,⟨m0,m1,m2,m3,m4,m5,m6⟩⟩:=HS3.out.nd.cells;(have hnlw3:=HS3.out.nd.lt);clear hr1 hc1 hn3))
      have hst:stepM 256 lv s=⟨s.ks++[strOfNums (rdText s.xs s.wg 256).1.1],s.vs++[strOfNums (rdText (rdText s.xs s.wg 256).2.1 (rdText s.xs s.wg 256).2.2 256).1.1],s.ds,(rdText (rdText s.xs s.wg 256).2.1 (rdText s.xs s.wg 256).2.2 256).2.1,(rdText (rdText s.xs s.wg 256).2.1 (rdText s.xs s.wg 256).2.2 256).2.2⟩:=by
       unfold stepM
       rw [if_neg (Int.not_lt.2 HL0.out)]
       rfl
      have hok:Ok (stepM 256 lv s).xs:=by
       rw [hst]
       exact (HI.out.2.2.1.text' (R:=(rdText s.xs s.wg 256)) rfl).text' (most:=256) rfl
      have hl1:(stepM 256 lv s).ks.length≤i+1∧(stepM 256 lv s).vs.length≤i+1∧(stepM 256 lv s).ds.length≤i+1+1:=by
       rw [hst]
       have h:=HI.out.2.2.2
       simp only [List.length_append,List.length_singleton]
       omega
      have HS9:Aside0 (SR w _ F g p lv lsn rt high _ _ _ (stepM 256 lv s)):=⟨hst.symm ▸ HS4.out⟩
      have HI9:Aside0 (i+1≤M∧loopR lv (stepM 256 lv s) (M - (i+1))=E∧Ok (stepM 256 lv s).xs∧(stepM 256 lv s).ks.length≤i+1∧(stepM 256 lv s).vs.length≤i+1∧(stepM 256 lv s).ds.length≤i+1+1):=⟨HLT.out,HSTEP.out,hok,hl1⟩
      clear hst hok hl1
      exact ⟨⟨i+1,stepM 256 lv s,_,_,_,(congrArg (Value.int .i64) HW64.out).trans (cast_succ i),HI9,HS9⟩,lt_succ2 HLT.out HW64.out⟩
    ·have hes:s=E:=by
      have h:=HI.out.2.1
      rcases Nat.lt_or_ge i M with hi|hi
      ·rw [show M - i=(M - (i+1))+1 by omega,loopR,if_neg (fun e=>hgo ⟨hi,e⟩)] at h
       exact h
      ·rw [show M - i=0 by omega,loopR] at h
       exact h
     subst hes
     have hfew:s.ks.length≤65536∧s.vs.length≤65536∧s.ds.length≤65536:=by
      have h:=HI.out.2.2.2
      have h2:=HM65.out
      have h3:=HI.out.1
      omega
     have hbig:∀ y ∈ s.ks,y.size≤140737488351232:=fun y hy=>by have:=HSM.out y hy;omega
     obtain ⟨A4,c4,rfl,hc4,hC4⟩:=Kd.R_reads HS.out.r4
     obtain ⟨A5,c5,rfl,hc5,hC5⟩:=Kd.R_reads HS.out.r5
     obtain ⟨A6,c6,rfl,hc6,hC6⟩:=Kd.R_reads HS.out.r6
     have hen:=refenc_ok lv lsn rt high A4 c4 s.ks A5 c5 s.vs A6 c6 s.ds wr hC4 hc4 hC5 hc5 hC6 hc6 (by omega) (by omega) (by omega) hbig
     have hl4:s.ks.length≤9223372036854775807:=hC4.2.1
     have hl5:s.vs.length≤9223372036854775807:=hC5.2.1
     have hl6:s.ds.length≤9223372036854775807:=hC6.2.1
     have hpv:pageV NV=pageF lv lsn rt high s.ks s.vs s.ds:=by rw [HV.out];rfl
     have HPB:Aside0 (AllB (pageF lv lsn rt high s.ks s.vs s.ds).1∧((pageF lv lsn rt high s.ks s.vs s.ds).2=0∨(pageF lv lsn rt high s.ks s.vs s.ds).2=60)):=⟨pageF_ok _ _ _ _ _ _ _⟩
     have HPV:=Aside0.mk hpv
     generalize pageF lv lsn rt high s.ks s.vs s.ds=P at hen HPB HPV
     clear hC4 hc4 hC5 hc5 hC6 hc6 hfew hpv hbig
     have hcond:(decide ((i:Int) < (M:Int))=false∧((i:Int) < (M:Int))=False)∨(decide ((i:Int) < (M:Int))=true∧((i:Int) < (M:Int))=True∧¬ s.wg=0):=by
      rcases Nat.lt_or_ge i M with hi|hi
      ·exact .inr ⟨decide_eq_true (by omega),eq_true (by omega),fun e=>hgo ⟨hi,e⟩⟩
      ·exact .inl ⟨decide_eq_false (by omega),eq_false (by omega)⟩
     clear hgo
     by_cases hwz:s.wg=0
     ·have d3:(s.wg != 0)=false:=by simp [hwz]
      have d4:(s.wg==0)=true:=by simp [hwz]
      obtain ⟨f1,f2⟩:decide ((i:Int) < (M:Int))=false∧((i:Int) < (M:Int))=False:=hcond.elim id (fun h=>absurd hwz h.2.2)
      clear hcond
      have HWZ:=Aside0.mk hwz
      have d5:=eq_true hwz
      by_cases hp2:P.2=0
      ·have g1:(P.2 != 0)=false:=by simp [hp2]
       have g2:=eq_true hp2
       have HP2:=Aside0.mk hp2
       by_cases hp1:P.1=xs
       ·have HFIN:Aside0 (s.wg=0∧pageV NV=(xs,0)):=⟨hwz,by rw [HPV.out];exact Prod.ext hp1 hp2⟩
        clear hwz hp2
        subst hp1
        go_wp2_with (go_at_call 87;(with_reducible refine hen.mono ?_);rintro e w6 ⟨v6,rfl,hR6,hB6⟩;obtain ⟨A7,c7,rfl,l7,k7⟩:=Kd.R_reads hR6;(have HS6:=Aside0.mk (HS.out.below hB6));clear n0 n1 n2 n3 n4 n5 n6 m0 m1 m2 m3 m4 m5 m6 hw1;obtain ⟨⟨n0,n1,n2,n3,n4,n5,n6⟩,⟨m0,m1,m2,m3,m4,m5,m6⟩⟩:=HS6.out.nd.cells;obtain ⟨⟨z0,z1,z2,z3,z4,z5,z6⟩,⟨t0,t1,t2,t3,t4,t5,t6⟩⟩:=HS6.out.rs.cells;obtain ⟨A0,c0,hrb,_⟩:=HS6.out.rd;obtain ⟨_,hw1,_,_⟩:=two_cells hrb;(have cv1:=Kd.C_string (P:=Try.prog) (c:=c7) Try.underlying67 Try.underlying5 Try.underlying9 k7);(have cv2:=Kd.C_string (P:=Try.prog) (c:=c) Try.underlying67 Try.underlying5 Try.underlying9 (Kd.C_below HC0.out HS6.out.ch));clear hR6 hB6 hen l7 k7 hrb)
        have hrz:=HS6.out.rs.set7 lv lsn rt high (.slice A4 s.ks.length c4) (.slice A5 s.vs.length c5) (.slice A6 s.ds.length c6)
        refine bodyPost_ret (results_ct rfl _ _ w.heap.size 113 #[.int .i64 lv,.int .i64 lsn,.int .i64 rt,.string high,.slice A4 s.ks.length c4,.slice A5 s.vs.length c5,.slice A6 s.ds.length c6] (0,0) _ rfl hrz Try.underlying113 rfl (by kernel_rfl)) rfl ?_
        have hD:=HD.out
        rw [if_pos HFIN.out,HV.out] at hD
        subst hD
        have c7:=set7_chg w6 w.heap.size (.int .i64 lv) (.int .i64 lsn) (.int .i64 rt) (.string high) (.slice A4 s.ks.length c4) (.slice A5 s.vs.length c5) (.slice A6 s.ds.length c6)
        have hpe:=HS6.out.ep
        have k4:=C_of_R (row_keep rfl HS6.out.r4 c7 (fun k hk e=>by have e:k=w.heap.size:=e;have:=(own_lt HS6.out.r4 hk).1;omega))
        have k5:=C_of_R (row_keep rfl HS6.out.r5 c7 (fun k hk e=>by have e:k=w.heap.size:=e;have:=(own_lt HS6.out.r5 hk).1;omega))
        have k6:=C_of_R (row_keep rfl HS6.out.r6 c7 (fun k hk e=>by have e:k=w.heap.size:=e;have:=(own_lt HS6.out.r6 hk).1;omega))
        exact ⟨_,rfl,⟨A4,_,A5,_,A6,_,rfl,k4.2,k4.1,k5.2,k5.1,k6.2,k6.1⟩,below_set7 HS6.out.ch (Nat.le_refl _)⟩
       ·have HFIN:Aside0 (¬ (s.wg=0∧pageV NV=(xs,0))):=⟨fun h=>hp1 (by rw [← HPV.out,h.2])⟩
        have hne:strOfNums P.1≠strOfNums xs:=fun h=>hp1 (strOfNums_inj HPB.out.1 HBX.out h)
        obtain ⟨sa,hsa⟩:∃ sa,strOfNums P.1=sa:=⟨_,rfl⟩
        obtain ⟨sb,hsb⟩:∃ sb,strOfNums xs=sb:=⟨_,rfl⟩
        rw [hsa,hsb] at hne
        have hnl:sa.toList≠sb.toList:=fun h=>hne (by
         rw [Go.ByteArray.toList_eq,Go.ByteArray.toList_eq] at h
         exact ByteArray.ext (Array.toList_inj.1 h))
        have y1:=eq_false hnl
        have y2:(sa.toList==sb.toList)=false:=beq_eq_false_iff_ne.mpr hnl
        have y3:(sa.toList != sb.toList)=true:=bne_iff_ne.mpr hnl
        have HSA:=Aside0.mk hsa
        have HSB:=Aside0.mk hsb
        clear hwz hp2 hp1 hne hnl hsa hsb
        go_wp2_with (go_at_call 87;(with_reducible refine hen.mono ?_);rintro e w6 ⟨v6,rfl,hR6,hB6⟩;obtain ⟨A7,c7,rfl,l7,k7⟩:=Kd.R_reads hR6;(have HS6:=Aside0.mk (HS.out.below hB6));clear n0 n1 n2 n3 n4 n5 n6 m0 m1 m2 m3 m4 m5 m6 hw1;obtain ⟨⟨n0,n1,n2,n3,n4,n5,n6⟩,⟨m0,m1,m2,m3,m4,m5,m6⟩⟩:=HS6.out.nd.cells;obtain ⟨⟨z0,z1,z2,z3,z4,z5,z6⟩,⟨t0,t1,t2,t3,t4,t5,t6⟩⟩:=HS6.out.rs.cells;obtain ⟨A0,c0,hrb,_⟩:=HS6.out.rd;obtain ⟨_,hw1,_,_⟩:=two_cells hrb;(have cv1:=Kd.C_string (P:=Try.prog) (c:=c7) Try.underlying67 Try.underlying5 Try.underlying9 k7);(have cv2:=Kd.C_string (P:=Try.prog) (c:=c) Try.underlying67 Try.underlying5 Try.underlying9 (Kd.C_below HC0.out HS6.out.ch));rw [HSA.out] at cv1;rw [HSB.out] at cv2;clear hR6 hB6 hen l7 k7 hrb)
        have hrz:=HS6.out.rs.set7 0 0 0 ⟨#[]⟩ (.slice none 0 0) (.slice none 0 0) (.slice none 0 0)
        refine bodyPost_ret (results_ct rfl _ _ w.heap.size 113 #[.int .i64 0,.int .i64 0,.int .i64 0,.string ⟨#[]⟩,.slice none 0 0,.slice none 0 0,.slice none 0 0] (0,0) _ rfl hrz Try.underlying113 rfl (by kernel_rfl)) rfl ?_
        have hD:=HD.out
        rw [if_neg HFIN.out] at hD
        subst hD
        exact ⟨_,rfl,NdRes.zero _,below_set7 HS6.out.ch (Nat.le_refl _)⟩
      ·have HFIN:Aside0 (¬ (s.wg=0∧pageV NV=(xs,0))):=⟨fun h=>hp2 (by rw [← HPV.out,h.2])⟩
       have g1:(P.2 != 0)=true:=by simp [hp2]
       have g2:=eq_false hp2
       clear hwz hp2
       go_wp2_with (go_at_call 87;(with_reducible refine hen.mono ?_);rintro e w6 ⟨v6,rfl,hR6,hB6⟩;obtain ⟨A7,c7,rfl,l7,k7⟩:=Kd.R_reads hR6;(have HS6:=Aside0.mk (HS.out.below hB6));clear n0 n1 n2 n3 n4 n5 n6 m0 m1 m2 m3 m4 m5 m6 hw1;obtain ⟨⟨n0,n1,n2,n3,n4,n5,n6⟩,⟨m0,m1,m2,m3,m4,m5,m6⟩⟩:=HS6.out.nd.cells;obtain ⟨⟨z0,z1,z2,z3,z4,z5,z6⟩,⟨t0,t1,t2,t3,t4,t5,t6⟩⟩:=HS6.out.rs.cells;obtain ⟨A0,c0,hrb,_⟩:=HS6.out.rd;obtain ⟨_,hw1,_,_⟩:=two_cells hrb;(have cv1:=Kd.C_string (P:=Try.prog) (c:=c7) Try.underlying67 Try.underlying5 Try.underlying9 k7);(have cv2:=Kd.C_string (P:=Try.prog) (c:=c) Try.underlying67 Try.underlying5 Try.underlying9 (Kd.C_below HC0.out HS6.out.ch));clear hR6 hB6 hen l7 k7 hrb)
       have hrz:=HS6.out.rs.set7 0 0 0 ⟨#[]⟩ (.slice none 0 0) (.slice none 0 0) (.slice none 0 0)
       refine bodyPost_ret (results_ct rfl _ _ w.heap.size 113 #[.int .i64 0,.int .i64 0,.int .i64 0,.string ⟨#[]⟩,.slice none 0 0,.slice none 0 0,.slice none 0 0] (0,0) _ rfl hrz Try.underlying113 rfl (by kernel_rfl)) rfl ?_
       have hD:=HD.out
       rw [if_neg HFIN.out] at hD
       subst hD
       exact ⟨_,rfl,NdRes.zero _,below_set7 HS6.out.ch (Nat.le_refl _)⟩
     ·have HFIN:Aside0 (¬ (s.wg=0∧pageV NV=(xs,0))):=⟨fun h=>hwz h.1⟩
      have d3:(s.wg != 0)=true:=by simp [hwz]
      have d4:(s.wg==0)=false:=by simp [hwz]
      have d5:=eq_false hwz
      clear hwz
      rcases hcond with ⟨f1,f2⟩|⟨f1,f2,_⟩
      all_goals
       go_wp2_with (go_at_call 87;(with_reducible refine hen.mono ?_);rintro e w6 ⟨v6,rfl,hR6,hB6⟩;obtain ⟨A7,c7,rfl,l7,k7⟩:=Kd.R_reads hR6;(have HS6:=Aside0.mk (HS.out.below hB6));clear n0 n1 n2 n3 n4 n5 n6 m0 m1 m2 m3 m4 m5 m6 hw1;obtain ⟨⟨n0,n1,n2,n3,n4,n5,n6⟩,⟨m0,m1,m2,m3,m4,m5,m6⟩⟩:=HS6.out.nd.cells;obtain ⟨⟨z0,z1,z2,z3,z4,z5,z6⟩,⟨t0,t1,t2,t3,t4,t5,t6⟩⟩:=HS6.out.rs.cells;obtain ⟨A0,c0,hrb,_⟩:=HS6.out.rd;obtain ⟨_,hw1,_,_⟩:=two_cells hrb;(have cv1:=Kd.C_string (P:=Try.prog) (c:=c7) Try.underlying67 Try.underlying5 Try.underlying9 k7);(have cv2:=Kd.C_string (P:=Try.prog) (c:=c) Try.underlying67 Try.underlying5 Try.underlying9 (Kd.C_below HC0.out HS6.out.ch));clear hR6 hB6 hen l7 k7 hrb)
       have hrz:=HS6.out.rs.set7 0 0 0 ⟨#[]⟩ (.slice none 0 0) (.slice none 0 0) (.slice none 0 0)
       refine bodyPost_ret (results_ct rfl _ _ w.heap.size 113 #[.int .i64 0,.int .i64 0,.int .i64 0,.string ⟨#[]⟩,.slice none 0 0,.slice none 0 0,.slice none 0 0] (0,0) _ rfl hrz Try.underlying113 rfl (by kernel_rfl)) rfl ?_
       have hD:=HD.out
       rw [if_neg HFIN.out] at hD
       subst hD
       exact ⟨_,rfl,NdRes.zero _,below_set7 HS6.out.ch (Nat.le_refl _)⟩
 ·rw [if_pos h256]
  have e1:((xs.length:Int)=256)=False:=eq_false (by omega)
  have e2:(xs.length=256)=False:=eq_false h256
  have e3:((xs.length:Int)==256)=false:=by simp;omega
  clear hr hb hc h256
  go_enter Try.func66,Try.ntmps66
  go_wp2
  refine bodyPost_ret (results_ct rfl _ _ w.heap.size 113 #[.int .i64 0,.int .i64 0,.int .i64 0,.string ⟨#[]⟩,.slice none 0 0,.slice none 0 0,.slice none 0 0] (0,0) _ rfl HP0.out Try.underlying113 rfl (by kernel_rfl)) rfl ?_
  exact ⟨_,rfl,NdRes.zero _,HB0.out⟩
end Go.Proofs.Ytgjibcfkjaedfaa.Page
