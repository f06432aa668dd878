-- A part of the text PageRd, thinned by a program of this session.
import Derived.Test.YtgjibcfkjaedfaaTHPageFit
namespace Go.Proofs.Ytgjibcfkjaedfaa.Page
open Go.RowKit Go.Proofs.YtgjibcfkjaedfaaW.PrintWords Go.Proofs.YtgjibcfkjaedfaaW.PrintLast Go.Proofs.YtgjibcfkjaedfaaW.PrintMore Go.Proofs.Ytgjibcfkjaedfaa.Wire Go.Proofs.Ytgjibcfkjaedfaa.Crc Go.Proofs.Ytgjibcfkjaedfaa.Pr
open Go.Proofs.Ytgjibcfkjaedfaa.Back (AllB numB numB_small)
open Go.Proofs.Ytgjibcfkjaedfaa.Pure
set_option linter.unusedVariables false
set_option linter.unusedSimpArgs false
theorem row_keep {α:Type} {d:Kd α} {e base:Nat} {w w1:World} {v:Value} {xs:List α} {S:Nat→Prop} (hE:d.E=[]) (h:d.R e w base (fun _=>True) v xs) (hc:Chg w w1 S) (hn:∀ k,v.ownBlock=some k→¬ S k):d.R e w1 base (fun _=>True) v xs :=
 Kd.R_reok hE (R_chg (Kd.R_reok hE h (ok:=fun k=>some k=v.ownBlock) (fun k hk=>hk.symm)) hc (fun k hk=>hn k hk.symm)) (fun _ _=>trivial)
theorem infoStr:(Try.prog.info? 9).map (fun i=>(i.zero,i.size,i.bytes))=some (some (.string ⟨#[]⟩),1,16):=by kernel_rfl
theorem infoInt:(Try.prog.info? 3).map (fun i=>(i.zero,i.size,i.bytes))=some (some (.int .i64 0),1,8):=by kernel_rfl
theorem num_sub (xs:List Int) (wrong size:Int):∃ m,(rdNum xs wrong size).2.1=xs.drop m:=by
 unfold rdNum
 split
 ·exact ⟨0,rfl⟩
 ·split
  ·exact ⟨0,rfl⟩
  ·split
   ·exact ⟨0,rfl⟩
   ·split
    ·exact ⟨0,rfl⟩
    ·exact ⟨_,rfl⟩
theorem text_sub (xs:List Int) (wrong most:Int):∃ m,(rdText xs wrong most).2.1=xs.drop m:=by
 unfold rdText
 split
 ·exact ⟨0,rfl⟩
 ·split
  ·exact ⟨0,rfl⟩
  ·split
   ·exact ⟨0,rfl⟩
   ·split
    ·exact ⟨0,rfl⟩
    ·split
     ·exact ⟨0,rfl⟩
     ·exact ⟨_,rfl⟩
def Ok (xs:List Int):Prop:=AllB xs∧xs.length≤140737488355328
theorem Ok.drop {xs:List Int} (h:Ok xs) (m:Nat):Ok (xs.drop m):=⟨fun x hx=>h.1 x (List.mem_of_mem_drop hx),by have:=h.2;rw [List.length_drop];omega⟩
theorem Ok.num {xs:List Int} (h:Ok xs) (wrong size:Int):Ok (rdNum xs wrong size).2.1:=by
 obtain ⟨m,e⟩:=num_sub xs wrong size
 rw [e];exact h.drop m
theorem Ok.text {xs:List Int} (h:Ok xs) (wrong most:Int):Ok (rdText xs wrong most).2.1:=by
 obtain ⟨m,e⟩:=text_sub xs wrong most
 rw [e];exact h.drop m
structure NS where
 ks:List ByteArray
 vs:List ByteArray
 ds:List Int
 xs:List Int
 wg:Int
def stepK (s:NS):NS:=⟨s.ks++[strOfNums (rdText s.xs s.wg 252).1.1],s.vs,s.ds,(rdText s.xs s.wg 252).2.1,(rdText s.xs s.wg 252).2.2⟩
def stepD (s:NS):NS:=⟨s.ks,s.vs,s.ds++[(rdNum s.xs s.wg 4).1.1],(rdNum s.xs s.wg 4).2.1,(rdNum s.xs s.wg 4).2.2⟩
def stepV (s:NS):NS:=⟨s.ks,s.vs++[strOfNums (rdText s.xs s.wg 252).1.1],s.ds,(rdText s.xs s.wg 252).2.1,(rdText s.xs s.wg 252).2.2⟩
def stepN (lv:Int) (s:NS):NS:=if 0 < lv then stepD (stepK s) else stepV (stepK s)
def iterN (lv:Int) (s:NS):Nat→NS
 | 0=>s
 | n+1=>stepN lv (iterN lv s n)
def lvR (xs:List Int):(Int×Int)×(List Int×Int):=rdNum xs 0 1
def lsnR (xs:List Int):(Int×Int)×(List Int×Int):=rdNum (lvR xs).2.1 (lvR xs).2.2 8
def rtR (xs:List Int):(Int×Int)×(List Int×Int):=rdNum (lsnR xs).2.1 (lsnR xs).2.2 4
def manyR (xs:List Int):(Int×Int)×(List Int×Int):=rdNum (rtR xs).2.1 (rtR xs).2.2 2
def highR (xs:List Int):(List Int×Int)×(List Int×Int):=rdText (manyR xs).2.1 (manyR xs).2.2 252
def startN (xs:List Int):NS:=if 0 < (lvR xs).1.1 then stepD ⟨[],[],[],(highR xs).2.1,(highR xs).2.2⟩ else ⟨[],[],[],(highR xs).2.1,(highR xs).2.2⟩
def endN (xs:List Int):NS:=iterN (lvR xs).1.1 (startN xs) (min (manyR xs).1.1 252).toNat
theorem lens (lv:Int) (s:NS):∀ n,(iterN lv s n).ks.length=s.ks.length+n∧(iterN lv s n).vs.length≤s.vs.length+n∧(iterN lv s n).ds.length≤s.ds.length+n
 | 0=>⟨rfl,Nat.le_refl _,Nat.le_refl _⟩
 | n+1=>by
  obtain ⟨h1,h2,h3⟩:=lens lv s n
  rw [iterN]
  unfold stepN
  split <;> simp [stepD,stepK,stepV] <;> omega
structure St (w wr:World) (g p3:Nat) (F:Nat→Prop) (lv lsn rt:Int) (high:ByteArray) (V4 V5 V6:Value) (s:NS):Prop where
 rd:RdAt wr g s.xs s.wg F
 ch:Chg w wr (At g)
 low:∀ k,F k→k < w.heap.size
 bx:wr.heap[w.heap.size]?=some (.cells #[.pointer (some ⟨g,0,none⟩)] 159 (0,0))
 rs:NdAt wr (w.heap.size+1) 0 0 0 ⟨#[]⟩ (.slice none 0 0) (.slice none 0 0) (.slice none 0 0)
 nd:NdAt wr p3 lv lsn rt high V4 V5 V6
 pp:w.heap.size+2≤p3
 r4:Kd.R Kd.string 9 wr (w.heap.size+2) (fun _=>True) V4 s.ks
 r5:Kd.R Kd.string 9 wr (w.heap.size+2) (fun _=>True) V5 s.vs
 r6:Kd.R (Kd.int .i64) 3 wr (w.heap.size+2) (fun _=>True) V6 s.ds
 o4:∀ k,V4.ownBlock=some k→w.heap.size+2≤k∧k≠p3∧V5.ownBlock≠some k∧V6.ownBlock≠some k
 o5:∀ k,V5.ownBlock=some k→w.heap.size+2≤k∧k≠p3∧V6.ownBlock≠some k
 o6:∀ k,V6.ownBlock=some k→w.heap.size+2≤k∧k≠p3
section
variable {w wr w1:World} {g p3:Nat} {F:Nat→Prop} {lv lsn rt:Int} {high:ByteArray} {V4 V5 V6:Value} {s:NS}
theorem _root_.Go.Proofs.Ytgjibcfkjaedfaa.Pr.NdAt.chg {w w1:World} {g:Nat} {S:Nat→Prop} {x0 x1 x2:Int} {x3:ByteArray} {x4 x5 x6:Value} (h:NdAt w g x0 x1 x2 x3 x4 x5 x6) (hc:Chg w w1 S) (hn:¬ S g):NdAt w1 g x0 x1 x2 x3 x4 x5 x6:=hc.blk h hn
theorem St.gw (h:St w wr g p3 F lv lsn rt high V4 V5 V6 s):g < w.heap.size:=h.low g h.rd.mine
theorem St.read (h:St w wr g p3 F lv lsn rt high V4 V5 V6 s) (hc:Chg wr w1 (At g)) {xs:List Int} {wg:Int} (hr:RdAt w1 g xs wg F):St w w1 g p3 F lv lsn rt high V4 V5 V6 ⟨s.ks,s.vs,s.ds,xs,wg⟩:=by
 have hg:=h.gw
 have hp:=h.pp
 refine ⟨hr,h.ch.trans hc (fun k hk=>.inl hk),h.low,hc.blk h.bx (fun e=>by have e:w.heap.size=g:=e;omega),h.rs.chg hc (fun e=>by have e:w.heap.size+1=g:=e;omega),h.nd.chg hc (fun e=>by have e:p3=g:=e;omega),h.pp,row_keep rfl h.r4 hc ?_,row_keep rfl h.r5 hc ?_,row_keep rfl h.r6 hc ?_,h.o4,h.o5,h.o6⟩
 ·intro k hk e;have e:k=g:=e;have:=(h.o4 k hk).1;omega
 ·intro k hk e;have e:k=g:=e;have:=(h.o5 k hk).1;omega
 ·intro k hk e;have e:k=g:=e;have:=(h.o6 k hk).1;omega
theorem St.below (h:St w wr g p3 F lv lsn rt high V4 V5 V6 s) (hc:Below wr.heap.size wr w1):St w w1 g p3 F lv lsn rt high V4 V5 V6 s :=
 h.read (Chg.of_below hc _) (h.rd.below hc)
theorem own_lt {v:Value} {base k:Nat} {W:World} {α:Type} {d:Kd α} {e:Nat} {xs:List α} (h:d.R e W base (fun _=>True) v xs) (hk:v.ownBlock=some k):base≤k∧k < W.heap.size:=by
 have:=(Kd.R_bound h).1 k hk
 exact ⟨this.2.1,this.2.2.1⟩
theorem nd_put {w:World} {g:Nat} {x0 x1 x2:Int} {x3:ByteArray} {x4 x5 x6:Value} (h:NdAt w g x0 x1 x2 x3 x4 x5 x6) (y:Value):NdAt (w.setCell ⟨g,4,none⟩ y) g x0 x1 x2 x3 y x5 x6∧NdAt (w.setCell ⟨g,5,none⟩ y) g x0 x1 x2 x3 x4 y x6∧NdAt (w.setCell ⟨g,6,none⟩ y) g x0 x1 x2 x3 x4 x5 y:=by
 unfold NdAt at *
 exact ⟨blk_put (cs':=#[.int .i64 x0,.int .i64 x1,.int .i64 x2,.string x3,y,x5,x6]) h 4 y rfl,blk_put (cs':=#[.int .i64 x0,.int .i64 x1,.int .i64 x2,.string x3,x4,y,x6]) h 5 y rfl,blk_put (cs':=#[.int .i64 x0,.int .i64 x1,.int .i64 x2,.string x3,x4,x5,y]) h 6 y rfl⟩
theorem St.app4 (h:St w wr g p3 F lv lsn rt high V4 V5 V6 s) {x:ByteArray} {v1:Value} (ho:Kd.R Kd.string 9 w1 (w.heap.size+2) (fun _=>True) v1 (s.ks++[x])) (hg:wr.grownBy w1 V4.ownBlock) (hat:v1.ownBlock=V4.ownBlock∨∃ b,v1.ownBlock=some b∧wr.heap.size≤b) :
  St w (w1.setCell ⟨p3,4,none⟩ v1) g p3 F lv lsn rt high v1 V5 V6 ⟨s.ks++[x],s.vs,s.ds,s.xs,s.wg⟩:=by
 have hgw:=h.gw
 have hp:=h.pp
 have hpl:p3 < wr.heap.size:=h.nd.lt
 have c1:=Chg.of_grown hg
 have c2:=Chg.setCell w1 ⟨p3,4,none⟩ v1
 have hs:=h.ch.size
 have n1:∀ k,k < w.heap.size+2→¬ some k=V4.ownBlock:=fun k hk e=>by have:=(h.o4 k e.symm).1;omega
 have n2:∀ k,k < w.heap.size+2→¬ k=p3:=fun k hk e=>by omega
 have hv:∀ k,v1.ownBlock=some k→w.heap.size+2≤k∧k≠p3∧V5.ownBlock≠some k∧V6.ownBlock≠some k:=by
  intro k hk
  rcases hat with e|⟨b,e,hb⟩
  ·exact h.o4 k (by rw [← e];exact hk)
  ·rw [hk] at e
   injection e with e
   subst e
   refine ⟨(own_lt ho hk).1,by omega,fun e5=>?_,fun e6=>?_⟩
   ·have:=(own_lt h.r5 e5).2;omega
   ·have:=(own_lt h.r6 e6).2;omega
 refine ⟨(h.rd.chg c1 (fun k hk=>n1 k (by have:=h.low k hk;omega))).chg c2 (fun k hk=>n2 k (by have:=h.low k hk;omega)),(h.ch.trans c1 (fun k e=>.inr (by have:=(h.o4 k e.symm).1;omega))).trans c2 (fun k e=>.inr (by have e:k=p3:=e;omega)),h.low,c2.blk (c1.blk h.bx (n1 _ (by omega))) (n2 _ (by omega)),(h.rs.chg c1 (n1 _ (by omega))).chg c2 (n2 _ (by omega)),(nd_put (h.nd.chg c1 (fun e=>(h.o4 p3 e.symm).2.1 rfl)) v1).1,h.pp,row_keep rfl ho c2 (fun k hk e=>(hv k hk).2.1 e),row_keep rfl (row_keep rfl h.r5 c1 ?_) c2 (fun k hk e=>(h.o5 k hk).2.1 e),row_keep rfl (row_keep rfl h.r6 c1 ?_) c2 (fun k hk e=>(h.o6 k hk).2 e),hv,h.o5,h.o6⟩
 ·exact fun k hk e=>(h.o4 k e.symm).2.2.1 hk
 ·exact fun k hk e=>(h.o4 k e.symm).2.2.2 hk
theorem St.app5 (h:St w wr g p3 F lv lsn rt high V4 V5 V6 s) {x:ByteArray} {v1:Value} (ho:Kd.R Kd.string 9 w1 (w.heap.size+2) (fun _=>True) v1 (s.vs++[x])) (hg:wr.grownBy w1 V5.ownBlock) (hat:v1.ownBlock=V5.ownBlock∨∃ b,v1.ownBlock=some b∧wr.heap.size≤b) :
  St w (w1.setCell ⟨p3,5,none⟩ v1) g p3 F lv lsn rt high V4 v1 V6 ⟨s.ks,s.vs++[x],s.ds,s.xs,s.wg⟩:=by
 have hgw:=h.gw
 have hp:=h.pp
 have hpl:p3 < wr.heap.size:=h.nd.lt
 have c1:=Chg.of_grown hg
 have c2:=Chg.setCell w1 ⟨p3,5,none⟩ v1
 have hs:=h.ch.size
 have n1:∀ k,k < w.heap.size+2→¬ some k=V5.ownBlock:=fun k hk e=>by have:=(h.o5 k e.symm).1;omega
 have n2:∀ k,k < w.heap.size+2→¬ k=p3:=fun k hk e=>by omega
 have hv:∀ k,v1.ownBlock=some k→w.heap.size+2≤k∧k≠p3∧V6.ownBlock≠some k∧V4.ownBlock≠some k:=by
  intro k hk
  rcases hat with e|⟨b,e,hb⟩
  ·have h5:=h.o5 k (by rw [← e];exact hk)
   exact ⟨h5.1,h5.2.1,h5.2.2,fun e4=>(h.o4 k e4).2.2.1 (by rw [← e];exact hk)⟩
  ·rw [hk] at e
   injection e with e
   subst e
   refine ⟨(own_lt ho hk).1,by omega,fun e6=>?_,fun e4=>?_⟩
   ·have:=(own_lt h.r6 e6).2;omega
   ·have:=(own_lt h.r4 e4).2;omega
 refine ⟨(h.rd.chg c1 (fun k hk=>n1 k (by have:=h.low k hk;omega))).chg c2 (fun k hk=>n2 k (by have:=h.low k hk;omega)),(h.ch.trans c1 (fun k e=>.inr (by have:=(h.o5 k e.symm).1;omega))).trans c2 (fun k e=>.inr (by have e:k=p3:=e;omega)),h.low,c2.blk (c1.blk h.bx (n1 _ (by omega))) (n2 _ (by omega)),(h.rs.chg c1 (n1 _ (by omega))).chg c2 (n2 _ (by omega)),(nd_put (h.nd.chg c1 (fun e=>(h.o5 p3 e.symm).2.1 rfl)) v1).2.1,h.pp,row_keep rfl (row_keep rfl h.r4 c1 ?_) c2 (fun k hk e=>(h.o4 k hk).2.1 e),row_keep rfl ho c2 (fun k hk e=>(hv k hk).2.1 e),row_keep rfl (row_keep rfl h.r6 c1 ?_) c2 (fun k hk e=>(h.o6 k hk).2 e),fun k hk=>⟨(h.o4 k hk).1,(h.o4 k hk).2.1,fun e=>(hv k e).2.2.2 hk,(h.o4 k hk).2.2.2⟩,fun k hk=>⟨(hv k hk).1,(hv k hk).2.1,(hv k hk).2.2.1⟩,h.o6⟩
 ·exact fun k hk e=>(h.o4 k hk).2.2.1 e.symm
 ·exact fun k hk e=>(h.o5 k e.symm).2.2 hk
theorem St.app6 (h:St w wr g p3 F lv lsn rt high V4 V5 V6 s) {x:Int} {v1:Value} (ho:Kd.R (Kd.int .i64) 3 w1 (w.heap.size+2) (fun _=>True) v1 (s.ds++[x])) (hg:wr.grownBy w1 V6.ownBlock) (hat:v1.ownBlock=V6.ownBlock∨∃ b,v1.ownBlock=some b∧wr.heap.size≤b) :
  St w (w1.setCell ⟨p3,6,none⟩ v1) g p3 F lv lsn rt high V4 V5 v1 ⟨s.ks,s.vs,s.ds++[x],s.xs,s.wg⟩:=by
 have hgw:=h.gw
 have hp:=h.pp
 have hpl:p3 < wr.heap.size:=h.nd.lt
 have c1:=Chg.of_grown hg
 have c2:=Chg.setCell w1 ⟨p3,6,none⟩ v1
 have hs:=h.ch.size
 have n1:∀ k,k < w.heap.size+2→¬ some k=V6.ownBlock:=fun k hk e=>by have:=(h.o6 k e.symm).1;omega
 have n2:∀ k,k < w.heap.size+2→¬ k=p3:=fun k hk e=>by omega
 have hv:∀ k,v1.ownBlock=some k→w.heap.size+2≤k∧k≠p3∧V4.ownBlock≠some k∧V5.ownBlock≠some k:=by
  intro k hk
  rcases hat with e|⟨b,e,hb⟩
  ·have h6:=h.o6 k (by rw [← e];exact hk)
   exact ⟨h6.1,h6.2,fun e4=>(h.o4 k e4).2.2.2 (by rw [← e];exact hk),fun e5=>(h.o5 k e5).2.2 (by rw [← e];exact hk)⟩
  ·rw [hk] at e
   injection e with e
   subst e
   refine ⟨(own_lt ho hk).1,by omega,fun e4=>?_,fun e5=>?_⟩
   ·have:=(own_lt h.r4 e4).2;omega
   ·have:=(own_lt h.r5 e5).2;omega
 refine ⟨(h.rd.chg c1 (fun k hk=>n1 k (by have:=h.low k hk;omega))).chg c2 (fun k hk=>n2 k (by have:=h.low k hk;omega)),(h.ch.trans c1 (fun k e=>.inr (by have:=(h.o6 k e.symm).1;omega))).trans c2 (fun k e=>.inr (by have e:k=p3:=e;omega)),h.low,c2.blk (c1.blk h.bx (n1 _ (by omega))) (n2 _ (by omega)),(h.rs.chg c1 (n1 _ (by omega))).chg c2 (n2 _ (by omega)),(nd_put (h.nd.chg c1 (fun e=>(h.o6 p3 e.symm).2 rfl)) v1).2.2,h.pp,row_keep rfl (row_keep rfl h.r4 c1 ?_) c2 (fun k hk e=>(h.o4 k hk).2.1 e),row_keep rfl (row_keep rfl h.r5 c1 ?_) c2 (fun k hk e=>(h.o5 k hk).2.1 e),row_keep rfl ho c2 (fun k hk e=>(hv k hk).2.1 e),fun k hk=>⟨(h.o4 k hk).1,(h.o4 k hk).2.1,(h.o4 k hk).2.2.1,fun e=>(hv k e).2.2.1 hk⟩,fun k hk=>⟨(h.o5 k hk).1,(h.o5 k hk).2.1,fun e=>(hv k e).2.2.2 hk⟩,fun k hk=>⟨(hv k hk).1,(hv k hk).2.1⟩⟩
 ·exact fun k hk e=>(h.o4 k hk).2.2.2 e.symm
 ·exact fun k hk e=>(h.o5 k hk).2.2 e.symm
end
set_option maxHeartbeats 4000000 in
theorem num_ok {g:Nat} {xs:List Int} {wrong:Int} {F:Nat→Prop} {w:World} (size:Int) (hr:RdAt w g xs wrong F) (hl:xs.length≤140737488355328) :
  Calls Try.prog 110 #[.agg #[.pointer (some ⟨g,0,none⟩)],.int .i64 size] w fun e w'=>e=.returned (.int .i64 (rdNum xs wrong size).1.1)∧RdAt w' g (rdNum xs wrong size).2.1 (rdNum xs wrong size).2.2 F∧Chg w w' (At g):=by
 have hBa:Below w.heap.size w (w.alloc (.cells #[.pointer (some ⟨g,0,none⟩)] 159)):=below_alloc (Below.refl _ _) _
 have HBa:=Aside0.mk (Chg.of_below hBa (At g))
 have hbl:(w.alloc (.cells #[.pointer (some ⟨g,0,none⟩)] 159)).heap[w.heap.size]?=some (.cells #[.pointer (some ⟨g,0,none⟩)] 159 (0,0)):=blk_newN _ _
 have hc0:=cell_of_one hbl
 have hn:=rdnum_ok g xs wrong size F _ (hr.below hBa) hl
 clear hBa hr hl
 go_enter Try.func110,Try.ntmps110
 go_wp2_with (go_at_call 97;(with_reducible refine hn.mono ?_);rintro e w2 ⟨rfl,hr2,hB2⟩;(have HR2:=Aside0.mk hr2);(have HB2:=Aside0.mk (HBa.out.trans hB2 (fun k hk=>.inl hk)));clear hr2 hB2 hn)
 go_ret
 exact ⟨rfl,HR2.out,HB2.out⟩
set_option maxHeartbeats 4000000 in
theorem text_ok {g:Nat} {xs:List Int} {wrong:Int} {F:Nat→Prop} {w:World} (hr:RdAt w g xs wrong F) (hx:Ok xs) :
  Calls Try.prog 111 #[.agg #[.pointer (some ⟨g,0,none⟩)]] w fun e w'=>e=.returned (.string (strOfNums (rdText xs wrong 252).1.1))∧RdAt w' g (rdText xs wrong 252).2.1 (rdText xs wrong 252).2.2 F∧Chg w w' (At g):=by
 have hBa:Below w.heap.size w (w.alloc (.cells #[.pointer (some ⟨g,0,none⟩)] 159)):=below_alloc (Below.refl _ _) _
 have HBa:=Aside0.mk (Chg.of_below hBa (At g))
 have hbl:(w.alloc (.cells #[.pointer (some ⟨g,0,none⟩)] 159)).heap[w.heap.size]?=some (.cells #[.pointer (some ⟨g,0,none⟩)] 159 (0,0)):=blk_newN _ _
 have hc0:=cell_of_one hbl
 have hn:=rdtext_ok g xs wrong 252 F _ (hr.below hBa) (Nat.le_trans hx.2 (by decide)) (take2_ok hx.1)
 clear hBa hr hx
 go_enter Try.func111,Try.ntmps111
 go_wp2_with (go_at_call 79;(with_reducible refine hn.mono ?_);rintro e w2 ⟨rfl,hr2,hB2⟩;(have HR2:=Aside0.mk hr2);(have HB2:=Aside0.mk (HBa.out.trans hB2 (fun k hk=>.inl hk)));clear hr2 hB2 hn)
 go_ret
 exact ⟨rfl,HR2.out,HB2.out⟩
end Go.Proofs.Ytgjibcfkjaedfaa.Page
