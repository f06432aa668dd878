-- A part of the text RecRefDec, thinned by a program of this session.
import Derived.Test.YtgjibcfkjaedfaaTHRecDec
import Derived.Test.YtgjibcfkjaedfaaTHRecRight
import Derived.Test.YtgjibcfkjaedfaaTHRefRd
import Derived.Test.YtgjibcfkjaedfaaTHCrcR
namespace Go.Proofs.Ytgjibcfkjaedfaa.Rec
open Go.RowKit Go.Proofs.YtgjibcfkjaedfaaW.PrintWords Go.Proofs.YtgjibcfkjaedfaaW.PrintLast Go.Proofs.YtgjibcfkjaedfaaW.PrintMore Go.Proofs.Ytgjibcfkjaedfaa.Wire Go.Proofs.Ytgjibcfkjaedfaa.Crc Go.Proofs.Ytgjibcfkjaedfaa.Pr Go.Proofs.Ytgjibcfkjaedfaa.Page
open Go.Proofs.Ytgjibcfkjaedfaa.Back (AllB numB numB_small hor hor_lt)
open Go.Proofs.Ytgjibcfkjaedfaa.Pure
set_option linter.unusedVariables false
set_option linter.unusedSimpArgs false
structure SF (w W:World) (g p:Nat) (F:Nat→Prop) (xs:List Int) (wg:Int):Prop where
 rd:RfAt W g xs wg F
 bl:Below w.heap.size w W
 rs:RcAt W w.heap.size 0 0 0 0 0 0 ⟨#[]⟩ ⟨#[]⟩
 rc:RcAt W p 0 0 0 0 0 0 ⟨#[]⟩ ⟨#[]⟩
 lo:w.heap.size < g∧w.heap.size < p∧p≠g
 nf:∀ k,F k→k≠p∧k≠w.heap.size
 ok:Ok xs
theorem SF.read {w W w1:World} {g p:Nat} {F:Nat→Prop} {xs xs':List Int} {wg wg':Int} (h:SF w W g p F xs wg) (hc:Chg W w1 (At g)) (hr:RfAt w1 g xs' wg' F) (ho:Ok xs'):SF w w1 g p F xs' wg' :=
 ⟨hr,h.bl.trans (hc.below h.bl.size (fun k hk=>by have e:k=g:=hk;have:=h.lo;omega)),h.rs.chg hc (fun e=>by have e:w.heap.size=g:=e;have:=h.lo;omega),h.rc.chg hc (fun e=>h.lo.2.2 e),h.lo,h.nf,ho⟩
theorem SF.num {w W:World} {g p:Nat} {F:Nat→Prop} {xs:List Int} {wg size v:Int} {R:(Int×Int)×(List Int×Int)} (h:SF w W g p F xs wg) (e:rdNum xs wg size=R) (hv:R.1.1=v) :
  Calls Try.prog 84 #[.pointer (some ⟨g,0,none⟩),.int .i64 size] W fun e w'=>e=.returned (.tuple #[.int .i64 v,.int .i64 R.1.2])∧SF w w' g p F R.2.1 R.2.2:=by
 subst e hv
 refine (rfnum_ok g xs wg size F W h.rd h.ok.2 h.ok.1).mono ?_
 rintro e w' ⟨rfl,hr,hc⟩
 exact ⟨rfl,h.read hc hr (h.ok.num _ _)⟩
theorem SF.text {w W:World} {g p:Nat} {F:Nat→Prop} {xs:List Int} {wg:Int} {v:ByteArray} {R:(List Int×Int)×(List Int×Int)} (h:SF w W g p F xs wg) (e:rdText xs wg 65535=R) (hv:strOfNums R.1.1=v) :
  Calls Try.prog 85 #[.pointer (some ⟨g,0,none⟩),.int .i64 65535] W fun e w'=>e=.returned (.tuple #[.string v,.int .i64 R.1.2])∧SF w w' g p F R.2.1 R.2.2:=by
 subst e hv
 refine (rftext_ok g xs wg 65535 F W h.rd h.ok.2 h.ok.1).mono ?_
 rintro e w' ⟨rfl,hr,hc⟩
 exact ⟨rfl,h.read hc hr (h.ok.text _ _)⟩
theorem SF.start {w W:World} {A3:Option Addr} {n c3:Nat} {ms:List Int} (hC:Kd.C (Kd.int .u8) w A3 n ms) (hn:ms.length=n) (hc:n≤c3) (hold:∀ ad,A3=some ad→ad.block < w.heap.size) (hbl:Below w.heap.size w W) (hrs:RcAt W w.heap.size 0 0 0 0 0 0 ⟨#[]⟩ ⟨#[]⟩) (ho:Ok ms) :
  SF w ((W.alloc (.cells #[.slice A3 n c3,.int .i64 0] 136)).alloc (.cells #[.int .i64 0,.int .i64 0,.int .i64 0,.int .i64 0,.int .i64 0,.int .i64 0,.string ⟨#[]⟩,.string ⟨#[]⟩] 53)) W.heap.size (W.heap.size+1) (fun k=>k=W.heap.size∨∃ ad,A3=some ad∧k=ad.block) ms 0:=by
 have s1:(W.alloc (.cells #[.slice A3 n c3,.int .i64 0] 136)).heap.size=W.heap.size+1:=by simp
 have s2:((W.alloc (.cells #[.slice A3 n c3,.int .i64 0] 136)).alloc (.cells #[.int .i64 0,.int .i64 0,.int .i64 0,.int .i64 0,.int .i64 0,.int .i64 0,.string ⟨#[]⟩,.string ⟨#[]⟩] 53)).heap.size=W.heap.size+1+1:=by simp
 have b1:Below W.heap.size W (W.alloc (.cells #[.slice A3 n c3,.int .i64 0] 136)):=below_alloc (Below.refl _ _) _
 have b2:Below (W.alloc (.cells #[.slice A3 n c3,.int .i64 0] 136)).heap.size (W.alloc (.cells #[.slice A3 n c3,.int .i64 0] 136)) ((W.alloc (.cells #[.slice A3 n c3,.int .i64 0] 136)).alloc (.cells #[.int .i64 0,.int .i64 0,.int .i64 0,.int .i64 0,.int .i64 0,.int .i64 0,.string ⟨#[]⟩,.string ⟨#[]⟩] 53)):=below_alloc (Below.refl _ _) _
 have hlt:=hrs.lt
 have hbl2:=below_from2 (below_from2 hbl (Nat.le_refl _) b1) (Nat.le_refl _) b2
 have hrc:RcAt ((W.alloc (.cells #[.slice A3 n c3,.int .i64 0] 136)).alloc (.cells #[.int .i64 0,.int .i64 0,.int .i64 0,.int .i64 0,.int .i64 0,.int .i64 0,.string ⟨#[]⟩,.string ⟨#[]⟩] 53)) (W.heap.size+1) 0 0 0 0 0 0 ⟨#[]⟩ ⟨#[]⟩:=by
  have h:=rc_new (W.alloc (.cells #[.slice A3 n c3,.int .i64 0] 136)) 0 0 0 0 0 0 ⟨#[]⟩ ⟨#[]⟩
  rw [s1] at h
  exact h
 have hrd:((W.alloc (.cells #[.slice A3 n c3,.int .i64 0] 136)).alloc (.cells #[.int .i64 0,.int .i64 0,.int .i64 0,.int .i64 0,.int .i64 0,.int .i64 0,.string ⟨#[]⟩,.string ⟨#[]⟩] 53)).heap[W.heap.size]?=some (.cells #[.slice A3 ms.length c3,.int .i64 0] 136 (0,0)):=by
  rw [hn]
  exact (b2.block _ (by omega)).trans (blk_newN W _)
 refine ⟨⟨A3,c3,hrd,by omega,by rw [hn];exact Kd.C_below hC hbl2,fun ad e _=>⟨.inr ⟨ad,e,rfl⟩,by have:=hold ad e;omega⟩,.inl rfl,fun k hk=>?_⟩,hbl2,(hrs.below b1).below b2,hrc,by omega,fun k hk=>?_,ho⟩
 ·rcases hk with rfl|⟨ad,e,rfl⟩
  ·omega
  ·have:=hold ad e;omega
 ·rcases hk with rfl|⟨ad,e,rfl⟩
  ·omega
  ·have:=hold ad e;omega
structure SG (w W:World) (g p:Nat) (F:Nat→Prop) (xs:List Int) (wg a1 a2 a3 a4 a5 a6:Int) (a7 a8:ByteArray):Prop where
 rd:RfAt W g xs wg F
 bl:Below w.heap.size w W
 rs:RcAt W w.heap.size 0 0 0 0 0 0 ⟨#[]⟩ ⟨#[]⟩
 rc:RcAt W p a1 a2 a3 a4 a5 a6 a7 a8
 lo:w.heap.size < p
theorem SF.set8 {w W:World} {g p:Nat} {F:Nat→Prop} {xs:List Int} {wg:Int} (h:SF w W g p F xs wg) (a1 a2 a3 a4 a5 a6:Int) (a7 a8:ByteArray) :
  SG w ((((((((W.setCell ⟨p,0,none⟩ (.int .i64 a1)).setCell ⟨p,1,none⟩ (.int .i64 a2)).setCell ⟨p,2,none⟩ (.int .i64 a3)).setCell ⟨p,3,none⟩ (.int .i64 a4)).setCell ⟨p,4,none⟩ (.int .i64 a5)).setCell ⟨p,5,none⟩ (.int .i64 a6)).setCell ⟨p,6,none⟩ (.string a7)).setCell ⟨p,7,none⟩ (.string a8)) g p F xs wg a1 a2 a3 a4 a5 a6 a7 a8 :=
 ⟨h.rd.chg (set8_chg _ _ _ _ _ _ _ _ _ _) (fun k hk e=>(h.nf k hk).1 e),h.bl.trans ((set8_chg _ _ _ _ _ _ _ _ _ _).below h.bl.size (fun k e=>by have e:k=p:=e;have:=h.lo;omega)),h.rs.chg (set8_chg _ _ _ _ _ _ _ _ _ _) (fun e=>by have e:w.heap.size=p:=e;have:=h.lo;omega),h.rc.set8 a1 a2 a3 a4 a5 a6 a7 a8,h.lo.2.1⟩
theorem SG.below {w W W1:World} {g p:Nat} {F:Nat→Prop} {xs:List Int} {wg a1 a2 a3 a4 a5 a6:Int} {a7 a8:ByteArray} (h:SG w W g p F xs wg a1 a2 a3 a4 a5 a6 a7 a8) (hB:Below W.heap.size W W1):SG w W1 g p F xs wg a1 a2 a3 a4 a5 a6 a7 a8 :=
 ⟨h.rd.below hB,below_from2 h.bl (Nat.le_refl _) hB,h.rs.below hB,h.rc.below hB,h.lo⟩
theorem take2_num {x y:Int} {l:List Int} (hx:0≤x∧x < 256) (hy:0≤y∧y < 256):numB ((x::y::l).take 2)=x+256*y:=by
 have hb:AllB ((x::y::l).take 2):=by
  intro z hz
  simp at hz
  rcases hz with rfl|rfl
  ·exact hx
  ·exact hy
 rw [numB_small hb (by simp)]
 show ((hor [x,y]:Nat):Int)=_
 simp only [hor]
 omega
set_option maxHeartbeats 16000000 in
set_option maxRecDepth 100000 in
theorem rfdec9_ok (A:Option Addr) (c:Nat) (xs:List Int) (w:World) (hr:Kd.C (Kd.int .u8) w A xs.length xs) (hc:xs.length≤c) (hb:AllB xs) (hl:xs.length≤140737488355328) :
  Calls Try.prog 59 #[.slice A xs.length c] w fun e w'=>e=.returned (.tuple #[.agg #[.int .i64 (decF9 xs).1.1,.int .i64 (decF9 xs).1.2.1,.int .i64 (decF9 xs).1.2.2.1,.int .i64 (decF9 xs).1.2.2.2.1,.int .i64 (decF9 xs).1.2.2.2.2.1,.int .i64 (decF9 xs).1.2.2.2.2.2.1,.string (decF9 xs).1.2.2.2.2.2.2.1,.string (decF9 xs).1.2.2.2.2.2.2.2],.int .i64 (decF9 xs).2.1,.int .i64 (decF9 xs).2.2])∧Below w.heap.size w w':=by
 have hrc:=rc_new w 0 0 0 0 0 0 ⟨#[]⟩ ⟨#[]⟩
 have HB:=Aside0.mk (below_alloc (Below.refl w.heap.size w) (.cells #[.int .i64 0,.int .i64 0,.int .i64 0,.int .i64 0,.int .i64 0,.int .i64 0,.string ⟨#[]⟩,.string ⟨#[]⟩] 53))
 have HRC:=Aside0.mk hrc
 have hlen:xs.length≤9223372036854775807:=hr.2.1
 unfold decF9
 by_cases h2:xs.length < 2
 ·rw [if_pos h2]
  have d1:decide ((xs.length:Int) < 2)=true:=decide_eq_true (by omega)
  have d2:((xs.length:Int) < 2)=True:=eq_true (by omega)
  clear hrc hr hc hb hl h2
  go_enter Try.func59,Try.ntmps59
  go_wp2
  refine bodyPost_ret (results_ctt rfl _ _ w.heap.size 53 #[.int .i64 0,.int .i64 0,.int .i64 0,.int .i64 0,.int .i64 0,.int .i64 0,.string ⟨#[]⟩,.string ⟨#[]⟩] (0,0) _ rfl HRC.out Try.underlying53 rfl (by kernel_rfl)) rfl ?_
  exact ⟨rfl,HB.out⟩
 ·rw [if_neg h2]
  have d1:decide ((xs.length:Int) < 2)=false:=decide_eq_false (by omega)
  have d2:((xs.length:Int) < 2)=False:=eq_false (by omega)
  obtain ⟨x,y,l,hxs⟩:∃ x y l,xs=x::y::l:=by
   match xs,h2 with
   | x::y::l,_=>exact ⟨x,y,l,rfl⟩
   | [x],h=>simp at h
   | [],h=>simp at h
  have hxb:0≤x∧x < 256:=hb x (by rw [hxs];simp)
  have hyb:0≤y∧y < 256:=hb y (by rw [hxs];simp)
  have hnum:numB (xs.take 2)=x+256*y:=by rw [hxs];exact take2_num hxb hyb
  obtain ⟨n,hn⟩:∃ n:Nat,x+256*y=n:=⟨(x+256*y).toNat,by omega⟩
  rw [hnum,hn,Int.toNat_natCast]
  have hn65:n≤65535:=by omega
  have hw1:IntKind.i64.wrap (256*y)=256*y:=by rw [IntKind.wrap_i64];omega
  have hw2:IntKind.i64.wrap (x+256*y)=(n:Int):=by rw [IntKind.wrap_i64];omega
  have hw3:IntKind.i64.wrap x=x:=by rw [IntKind.wrap_i64];omega
  have hw4:IntKind.i64.wrap y=y:=by rw [IntKind.wrap_i64];omega
  have hw5:IntKind.i64.wrap ((n:Int)+6)=(n:Int)+6:=by rw [IntKind.wrap_i64];omega
  have hw6:IntKind.i64.wrap ((n:Int)+2)=(n:Int)+2:=by rw [IntKind.wrap_i64];omega
  obtain ⟨ad,rfl,hcell⟩:=C_cells (Kd.C_below hr HB.out) (show 0 < xs.length by omega)
  have hx0:=hcell 0 (.int .u8 x) (by rw [hxs];rfl)
  rw [Addr.add_zero'] at hx0
  have hx1:=hcell 1 (.int .u8 y) (by rw [hxs];rfl)
  rw [Addr.add_succ'] at hx1
  have hlI:(1:Int) < (xs.length:Int):=by omega
  have hl0:(0:Int) < (xs.length:Int):=by omega
  clear hcell hxs hnum
  by_cases h6:(xs.length:Int) < (n:Int)+6
  ·rw [if_pos h6]
   have e1:=eq_true h6
   have e2:decide ((xs.length:Int) < (n:Int)+6)=true:=decide_eq_true h6
   clear hrc hr hc hb hl h2 h6 hn
   go_enter Try.func59,Try.ntmps59
   go_upto_region 3 with (fail)
   go_quiet (fail)
   go_wp2
   refine bodyPost_ret (results_ctt rfl _ _ w.heap.size 53 #[.int .i64 0,.int .i64 0,.int .i64 0,.int .i64 0,.int .i64 0,.int .i64 0,.string ⟨#[]⟩,.string ⟨#[]⟩] (0,0) _ rfl (RcAt.set8 (RcAt.below HRC.out (pw_below_drewN (Below.refl _ _) _)) 0 0 0 0 0 0 ⟨#[]⟩ ⟨#[]⟩) Try.underlying53 rfl (by kernel_rfl)) rfl ?_
   exact ⟨rfl,below_set8 (pw_below_drewN HB.out _) (Nat.le_refl _)⟩
  ·rw [if_neg h6]
   have e1:=eq_false h6
   have e2:decide ((xs.length:Int) < (n:Int)+6)=false:=decide_eq_false h6
   have htl:(xs.take (n+6)).length=n+6:=by rw [List.length_take];omega
   have hcutA:∀ W:World,(Instr.slice 67 (.slice (some ad) xs.length c) none (some (.int .i64 ((n:Int)+6))) none).run Try.prog W=.ok (.slice (some ad) (n+6) c) W:=by
    intro W
    have h:=cut_to (P:=Try.prog) 67 5 .i64 Try.underlying67 (info_parts info8).choose_spec.1 (some ad) xs.length c ((n:Int)+6) (by omega) (by omega) hc W
    rw [show ((n:Int)+6).toNat=n+6 by omega] at h
    exact h
   have HOPN:=Aside0.mk (fun W (hW:Below w.heap.size w W)=>refopen_ok (some ad) c (xs.take (n+6)) W (Kd.C_below (Kd.C_take hr (show n+6≤xs.length by omega)) hW) (by omega) (fun x hx=>hb x (List.mem_of_mem_take hx)) (by omega))
   simp only [htl] at HOPN
   obtain ⟨o,ho⟩:∃ o,(opOf (xs.take (n+6))).2=o:=⟨_,rfl⟩
   have ho20:o=0∨o=20:=by
    rw [← ho]
    unfold opOf
    rw [if_neg (by omega)]
    split
    ·exact .inr rfl
    ·exact .inl rfl
   rw [ho] at HOPN ⊢
   rcases ho20 with rfl|rfl
   ·rw [if_neg (by simp)]
    have hcutM:∀ W:World,(Instr.slice 67 (.slice (some ad) xs.length c) (some (.int .i64 2)) (some (.int .i64 ((n:Int)+2))) none).run Try.prog W=.ok (.slice (if c=2 then some ad else some (ad.add 2)) n (c - 2)) W:=by
     intro W
     have h:=cut_mid (P:=Try.prog) 67 5 .i64 .i64 Try.underlying67 (info_parts info8).choose_spec.1 1 (info_parts info8).choose_spec.2.2.1 (some ad) xs.length c 2 ((n:Int)+2) (by omega) (by omega) (by omega) hc W
     have e3:((n:Int)+2).toNat - (2:Int).toNat=n:=by omega
     rw [e3] at h
     exact h
    have hml:((xs.drop 2).take n).length=n:=by rw [List.length_take,List.length_drop];omega
    have hCM:=Kd.C_take (Kd.C_drop hr (show 2≤xs.length by omega) hc) (m:=n) (by rw [List.length_drop];omega)
    rw [hml] at hCM
    have hmb:AllB ((xs.drop 2).take n):=fun x hx=>hb x (List.mem_of_mem_drop (List.mem_of_mem_take hx))
    have hold0:ad.block < w.heap.size:=by
     obtain ⟨ad',e',hcc⟩:=C_cells hr (by omega)
     obtain rfl:=Option.some.inj e'
     have:=hcc 0 (.int .u8 (xs[0]'(by omega))) (by simp [nums])
     rw [Addr.add_zero'] at this
     exact World.block_lt_of_cell? w _ this
    obtain ⟨A3,hA3⟩:∃ a,a=(if c=2 then some ad else some (ad.add 2)):=⟨_,rfl⟩
    obtain ⟨c3,hc3⟩:∃ a,a=c - 2:=⟨_,rfl⟩
    rw [← hA3,← hc3] at hcutM
    have hold:∀ ad',A3=some ad'→ad'.block < w.heap.size:=by
     intro ad' e
     rw [hA3] at e
     split at e
     ·injection e with e;rw [← e];exact hold0
     ·injection e with e;rw [← e,add_block];exact hold0
    have HCM:Aside0 (Kd.C (Kd.int .u8) w A3 n ((xs.drop 2).take n)):=⟨by rw [hA3];exact hCM⟩
    have HOLD:=Aside0.mk hold
    have HML:=Aside0.mk hml
    have HC3:Aside0 (n≤c3):=⟨by omega⟩
    have HMO:Aside0 (Ok ((xs.drop 2).take n)):=⟨hmb,by omega⟩
    generalize (xs.drop 2).take n=ms at HCM HML HMO ⊢
    obtain ⟨a1,h1⟩:∃ a,(q1 ms).1.1=a:=⟨_,rfl⟩
    obtain ⟨a2,h2⟩:∃ a,(q2 ms).1.1=a:=⟨_,rfl⟩
    obtain ⟨a3,h3⟩:∃ a,(q3 ms).1.1=a:=⟨_,rfl⟩
    obtain ⟨a4,h4⟩:∃ a,(q4 ms).1.1=a:=⟨_,rfl⟩
    obtain ⟨a5,h5⟩:∃ a,(q5 ms).1.1=a:=⟨_,rfl⟩
    obtain ⟨a6,h6⟩:∃ a,(q6 ms).1.1=a:=⟨_,rfl⟩
    obtain ⟨a7,h7⟩:∃ a,strOfNums (q7 ms).1.1=a:=⟨_,rfl⟩
    obtain ⟨a8,h8⟩:∃ a,strOfNums (q8 ms).1.1=a:=⟨_,rfl⟩
    have hF:readF ms=if endOf ms≠0 then (zeroR,90) else ((a1,a2,a3,a4,a5,a6,a7,a8),if rightB a1 a2 a3 a4 a5 a6 a7 a8=true then 0 else 90):=by
     unfold readF recOf rightV
     rw [h1,h2,h3,h4,h5,h6,h7,h8]
    have h8s:a8.size≤140737488351232:=by
     rw [← h8,strOfNums_size]
     have:=rdText_few (M:=65535) (by omega) (q7 ms).2.1 (q7 ms).2.2
     have e:q8 ms=rdText (q7 ms).2.1 (q7 ms).2.2 65535:=rfl
     rw [e]
     omega
    have HK1:=Aside0.mk h1
    have HK2:=Aside0.mk h2
    have HK3:=Aside0.mk h3
    have HK4:=Aside0.mk h4
    have HK5:=Aside0.mk h5
    have HK6:=Aside0.mk h6
    have HK7:=Aside0.mk h7
    have HK8:=Aside0.mk h8
    have HRT:=Aside0.mk (fun W=>refright_ok a1 a2 a3 a4 a5 a6 a7 a8 h8s W)
    rw [hF]
    have HEN:Aside0 (rdEnd (q8 ms).2.1 (q8 ms).2.2=endOf ms):=⟨rfl⟩
    generalize endOf ms=E at HEN ⊢
    generalize rightB a1 a2 a3 a4 a5 a6 a7 a8=rb at HRT ⊢
    obtain ⟨D,hD⟩:∃ D:RecV×Int×Int,(if (if E≠0 then (zeroR,(90:Int)) else ((a1,a2,a3,a4,a5,a6,a7,a8),if rb=true then 0 else 90)).2≠0 then (zeroR,(0:Int),(90:Int)) else ((if E≠0 then (zeroR,(90:Int)) else ((a1,a2,a3,a4,a5,a6,a7,a8),if rb=true then 0 else 90)).1,(n:Int)+6,0))=D:=⟨_,rfl⟩
    rw [hD]
    have HD:=Aside0.mk hD
    clear hrc hr hc hb hl hn htl ho hCM hml hmb hold0 hold hA3 hc3 h1 h2 h3 h4 h5 h6 h7 h8 h8s hF hD
    go_enter Try.func59,Try.ntmps59
    go_upto_region 3 with (fail)
    go_quiet (fail)
    go_upto_region 11 with (go_at_call 83;(with_reducible refine (HOPN.out _ (pw_below_drewN HB.out _)).mono ?_);rintro e w4 ⟨A8,c8,rfl,_,_,hB⟩;(have HR4:=Aside0.mk (HRC.out.below (below_past hB)));(have HB4:=Aside0.mk (below_from2 HB.out (Nat.le_refl _) (below_past hB)));clear hB)
    have HS:=Aside0.mk (SF.start (c3:=c3) HCM.out HML.out HC3.out HOLD.out HB4.out HR4.out HMO.out)
    generalize (w4.alloc (.cells #[.slice A3 n c3,.int .i64 0] 136)).alloc (.cells #[.int .i64 0,.int .i64 0,.int .i64 0,.int .i64 0,.int .i64 0,.int .i64 0,.string ⟨#[]⟩,.string ⟨#[]⟩] 53)=W5 at HS ⊢
    generalize (fun k=>k=w4.heap.size∨∃ ad,A3=some ad∧k=ad.block)=F at HS
    generalize hp:w4.heap.size+1=p at HS ⊢
    generalize hg:w4.heap.size=g at HS ⊢
    clear hp hg HR4 HB4 HCM HOLD hx0 hx1
    have hq1:=HS.out.num (size:=8) (R:=q1 ms) rfl HK1.out
    go_upto_region 27 with (first
     | (go_at_call 84;(with_reducible refine hq1.mono ?_);rintro e v1 ⟨rfl,hs⟩;(replace HS:=Aside0.mk hs);(have hq2:=HS.out.num (size:=8) (R:=q2 ms) rfl HK2.out);clear hs hq1)
     | (go_at_call 84;(with_reducible refine hq2.mono ?_);rintro e v2 ⟨rfl,hs⟩;(replace HS:=Aside0.mk hs);(have hq3:=HS.out.num (size:=1) (R:=q3 ms) rfl HK3.out);clear hs hq2)
     | (go_at_call 84;(with_reducible refine hq3.mono ?_);rintro e v3 ⟨rfl,hs⟩;(replace HS:=Aside0.mk hs);(have hq4:=HS.out.num (size:=4) (R:=q4 ms) rfl HK4.out);clear hs hq3)
     | (go_at_call 84;(with_reducible refine hq4.mono ?_);rintro e v4 ⟨rfl,hs⟩;(replace HS:=Aside0.mk hs);(have hq5:=HS.out.num (size:=4) (R:=q5 ms) rfl HK5.out);clear hs hq4)
     | (go_at_call 84;(with_reducible refine hq5.mono ?_);rintro e v5 ⟨rfl,hs⟩;(replace HS:=Aside0.mk hs);(have hq6:=HS.out.num (size:=8) (R:=q6 ms) rfl HK6.out);clear hs hq5)
     | (go_at_call 84;(with_reducible refine hq6.mono ?_);rintro e v6 ⟨rfl,hs⟩;(replace HS:=Aside0.mk hs);(have hq7:=HS.out.text (R:=q7 ms) rfl HK7.out);clear hs hq6)
     | (go_at_call 85;(with_reducible refine hq7.mono ?_);rintro e v7 ⟨rfl,hs⟩;(replace HS:=Aside0.mk hs);(have hq8:=HS.out.text (R:=q8 ms) rfl HK8.out);clear hs hq7)
     | (go_at_call 85;(with_reducible refine hq8.mono ?_);rintro e v8 ⟨rfl,hs⟩;(replace HS:=Aside0.mk hs);obtain ⟨⟨n0,n1,n2,n3,n4,n5,n6,n7⟩,⟨m0,m1,m2,m3,m4,m5,m6,m7⟩⟩:=HS.out.rc.cells;clear hs hq8))
    clear n0 n1 n2 n3 n4 n5 n6 n7 m0 m1 m2 m3 m4 m5 m6 m7
    have HG:=Aside0.mk (HS.out.set8 a1 a2 a3 a4 a5 a6 a7 a8)
    generalize ((((((((v8.setCell ⟨p,0,none⟩ (.int .i64 a1)).setCell ⟨p,1,none⟩ (.int .i64 a2)).setCell ⟨p,2,none⟩ (.int .i64 a3)).setCell ⟨p,3,none⟩ (.int .i64 a4)).setCell ⟨p,4,none⟩ (.int .i64 a5)).setCell ⟨p,5,none⟩ (.int .i64 a6)).setCell ⟨p,6,none⟩ (.string a7)).setCell ⟨p,7,none⟩ (.string a8))=W9 at HG ⊢
    clear HS
    obtain ⟨⟨n0,n1,n2,n3,n4,n5,n6,n7⟩,⟨m0,m1,m2,m3,m4,m5,m6,m7⟩⟩:=HG.out.rc.cells;obtain ⟨⟨b0,b1,b2,b3,b4,b5,b6,b7⟩,⟨f0,f1,f2,f3,f4,f5,f6,f7⟩⟩:=HG.out.rs.cells
    have hend:=rfend_ok g _ _ F W9 HG.out.rd
    rw [HEN.out] at hend
    by_cases hE:E=0
    ·subst hE
     cases rb
     ·have hd:D=(zeroR,0,90):=by rw [← HD.out];rfl
      subst hd
      clear HD
      go_wp2_with (first
       | (go_at_call 86;(with_reducible refine hend.mono ?_);rintro e w10 ⟨rfl,hd0⟩;clear n0 n1 n2 n3 n4 n5 n6 n7 m0 m1 m2 m3 m4 m5 m6 m7 b0 b1 b2 b3 b4 b5 b6 b7 f0 f1 f2 f3 f4 f5 f6 f7;(replace HG:=Aside0.mk (HG.out.below hd0.below));obtain ⟨⟨n0,n1,n2,n3,n4,n5,n6,n7⟩,⟨m0,m1,m2,m3,m4,m5,m6,m7⟩⟩:=HG.out.rc.cells;obtain ⟨⟨b0,b1,b2,b3,b4,b5,b6,b7⟩,⟨f0,f1,f2,f3,f4,f5,f6,f7⟩⟩:=HG.out.rs.cells;clear hd0 hend)
       | (go_at_call 41;(with_reducible refine (HRT.out _).mono ?_);rintro e w11 ⟨rfl,hB⟩;clear n0 n1 n2 n3 n4 n5 n6 n7 m0 m1 m2 m3 m4 m5 m6 m7 b0 b1 b2 b3 b4 b5 b6 b7 f0 f1 f2 f3 f4 f5 f6 f7;(replace HG:=Aside0.mk (HG.out.below hB));obtain ⟨⟨n0,n1,n2,n3,n4,n5,n6,n7⟩,⟨m0,m1,m2,m3,m4,m5,m6,m7⟩⟩:=HG.out.rc.cells;obtain ⟨⟨b0,b1,b2,b3,b4,b5,b6,b7⟩,⟨f0,f1,f2,f3,f4,f5,f6,f7⟩⟩:=HG.out.rs.cells;clear hB))
      refine bodyPost_ret (results_ctt rfl _ _ w.heap.size 53 #[.int .i64 0,.int .i64 0,.int .i64 0,.int .i64 0,.int .i64 0,.int .i64 0,.string ⟨#[]⟩,.string ⟨#[]⟩] (0,0) _ rfl (HG.out.rs.set8 0 0 0 0 0 0 ⟨#[]⟩ ⟨#[]⟩) Try.underlying53 rfl (by kernel_rfl)) rfl ?_
      exact ⟨rfl,below_set8 HG.out.bl (Nat.le_refl _)⟩
     ·have hd:D=((a1,a2,a3,a4,a5,a6,a7,a8),(n:Int)+6,0):=by rw [← HD.out];rfl
      subst hd
      clear HD
      go_wp2_with (first
       | (go_at_call 86;(with_reducible refine hend.mono ?_);rintro e w10 ⟨rfl,hd0⟩;clear n0 n1 n2 n3 n4 n5 n6 n7 m0 m1 m2 m3 m4 m5 m6 m7 b0 b1 b2 b3 b4 b5 b6 b7 f0 f1 f2 f3 f4 f5 f6 f7;(replace HG:=Aside0.mk (HG.out.below hd0.below));obtain ⟨⟨n0,n1,n2,n3,n4,n5,n6,n7⟩,⟨m0,m1,m2,m3,m4,m5,m6,m7⟩⟩:=HG.out.rc.cells;obtain ⟨⟨b0,b1,b2,b3,b4,b5,b6,b7⟩,⟨f0,f1,f2,f3,f4,f5,f6,f7⟩⟩:=HG.out.rs.cells;clear hd0 hend)
       | (go_at_call 41;(with_reducible refine (HRT.out _).mono ?_);rintro e w11 ⟨rfl,hB⟩;clear n0 n1 n2 n3 n4 n5 n6 n7 m0 m1 m2 m3 m4 m5 m6 m7 b0 b1 b2 b3 b4 b5 b6 b7 f0 f1 f2 f3 f4 f5 f6 f7;(replace HG:=Aside0.mk (HG.out.below hB));obtain ⟨⟨n0,n1,n2,n3,n4,n5,n6,n7⟩,⟨m0,m1,m2,m3,m4,m5,m6,m7⟩⟩:=HG.out.rc.cells;obtain ⟨⟨b0,b1,b2,b3,b4,b5,b6,b7⟩,⟨f0,f1,f2,f3,f4,f5,f6,f7⟩⟩:=HG.out.rs.cells;clear hB))
      refine bodyPost_ret (results_ctt rfl _ _ w.heap.size 53 #[.int .i64 a1,.int .i64 a2,.int .i64 a3,.int .i64 a4,.int .i64 a5,.int .i64 a6,.string a7,.string a8] (0,0) _ rfl (HG.out.rs.set8 a1 a2 a3 a4 a5 a6 a7 a8) Try.underlying53 rfl (by kernel_rfl)) rfl ?_
      exact ⟨rfl,below_set8 HG.out.bl (Nat.le_refl _)⟩
    ·have hd:D=(zeroR,0,90):=by rw [← HD.out,if_pos hE,if_pos (by simp)]
     subst hd
     have x1:(E==0)=false:=beq_eq_false_iff_ne.2 hE
     have x2:(E != 0)=true:=bne_iff_ne.2 hE
     have x3:=eq_false hE
     clear HD hE
     go_wp2_with (first
      | (go_at_call 86;(with_reducible refine hend.mono ?_);rintro e w10 ⟨rfl,hd0⟩;clear n0 n1 n2 n3 n4 n5 n6 n7 m0 m1 m2 m3 m4 m5 m6 m7 b0 b1 b2 b3 b4 b5 b6 b7 f0 f1 f2 f3 f4 f5 f6 f7;(replace HG:=Aside0.mk (HG.out.below hd0.below));obtain ⟨⟨n0,n1,n2,n3,n4,n5,n6,n7⟩,⟨m0,m1,m2,m3,m4,m5,m6,m7⟩⟩:=HG.out.rc.cells;obtain ⟨⟨b0,b1,b2,b3,b4,b5,b6,b7⟩,⟨f0,f1,f2,f3,f4,f5,f6,f7⟩⟩:=HG.out.rs.cells;clear hd0 hend)
      | (go_at_call 41;(with_reducible refine (HRT.out _).mono ?_);rintro e w11 ⟨rfl,hB⟩;clear n0 n1 n2 n3 n4 n5 n6 n7 m0 m1 m2 m3 m4 m5 m6 m7 b0 b1 b2 b3 b4 b5 b6 b7 f0 f1 f2 f3 f4 f5 f6 f7;(replace HG:=Aside0.mk (HG.out.below hB));obtain ⟨⟨n0,n1,n2,n3,n4,n5,n6,n7⟩,⟨m0,m1,m2,m3,m4,m5,m6,m7⟩⟩:=HG.out.rc.cells;obtain ⟨⟨b0,b1,b2,b3,b4,b5,b6,b7⟩,⟨f0,f1,f2,f3,f4,f5,f6,f7⟩⟩:=HG.out.rs.cells;clear hB))
     refine bodyPost_ret (results_ctt rfl _ _ w.heap.size 53 #[.int .i64 0,.int .i64 0,.int .i64 0,.int .i64 0,.int .i64 0,.int .i64 0,.string ⟨#[]⟩,.string ⟨#[]⟩] (0,0) _ rfl (HG.out.rs.set8 0 0 0 0 0 0 ⟨#[]⟩ ⟨#[]⟩) Try.underlying53 rfl (by kernel_rfl)) rfl ?_
     exact ⟨rfl,below_set8 HG.out.bl (Nat.le_refl _)⟩
   ·rw [if_pos (by simp)]
    clear hrc hr hc hb hl hn htl ho
    go_enter Try.func59,Try.ntmps59
    go_upto_region 3 with (fail)
    go_quiet (fail)
    go_wp2_with (go_at_call 83;(with_reducible refine (HOPN.out _ (pw_below_drewN HB.out _)).mono ?_);rintro e w4 ⟨A8,c8,rfl,_,_,hB⟩;(have HR4:=Aside0.mk (HRC.out.below (below_past hB)));(have HB4:=Aside0.mk (below_from2 HB.out (Nat.le_refl _) (below_past hB)));clear hB;obtain ⟨⟨b0,b1,b2,b3,b4,b5,b6,b7⟩,⟨f0,f1,f2,f3,f4,f5,f6,f7⟩⟩:=HR4.out.cells)
    refine bodyPost_ret (results_ctt rfl _ _ w.heap.size 53 #[.int .i64 0,.int .i64 0,.int .i64 0,.int .i64 0,.int .i64 0,.int .i64 0,.string ⟨#[]⟩,.string ⟨#[]⟩] (0,0) _ rfl (HR4.out.set8 0 0 0 0 0 0 ⟨#[]⟩ ⟨#[]⟩) Try.underlying53 rfl (by kernel_rfl)) rfl ?_
    exact ⟨rfl,below_set8 HB4.out (Nat.le_refl _)⟩
end Go.Proofs.Ytgjibcfkjaedfaa.Rec
