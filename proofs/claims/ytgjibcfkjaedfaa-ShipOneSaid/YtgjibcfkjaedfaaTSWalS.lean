-- Parts melded by a program of this session.
import Derived.Test.YtgjibcfkjaedfaaTSWalA
import Derived.Test.YtgjibcfkjaedfaaTSWalApp
import Derived.WalkMore
import Derived.Test.YtgjibcfkjaedfaaTSRefA
import Derived.Test.YtgjibcfkjaedfaaTSTHRecK
import Derived.Test.YtgjibcfkjaedfaaTSTHRecEncs
import Derived.Test.YtgjibcfkjaedfaaTSTHRecRight
import Derived.Test.YtgjibcfkjaedfaaTSTHPrxS
namespace Go.Proofs.Ytgjibcfkjaedfaa.Wal
open Go.RowKit Go.Proofs.YtgjibcfkjaedfaaW.PrintWords Go.Proofs.YtgjibcfkjaedfaaW.PrintLast Go.Proofs.YtgjibcfkjaedfaaW.PrintMore Go.Proofs.Ytgjibcfkjaedfaa.Wire Go.Proofs.Ytgjibcfkjaedfaa.Pr Go.Proofs.Ytgjibcfkjaedfaa.Rec
open Go.Proofs.Ytgjibcfkjaedfaa.Back (AllB)
set_option linter.unusedVariables false
set_option linter.unusedSimpArgs false
theorem records_l0 (l:List RecS) (hl:l.length < 9223372036854775807):∀ (d i:Nat),i+d=l.length→latticeplain_Records.l0 (d+1) l l (l.length:Int) (i:Int)=some true
 | 0,i,h=>by
  unfold latticeplain_Records.l0
  rw [if_neg (by omega)]
 | d+1,i,h=>by
  unfold latticeplain_Records.l0
  have e:wrap64 ((i:Int)+1)=((i+1:Nat):Int):=by unfold wrap64;omega
  rw [if_pos (by omega),if_pos (by omega),if_pos (by omega),if_pos (by omega),e]
  simp only [BEq.rfl,Bool.not_true,Bool.or_false]
  rw [if_neg (by decide)]
  exact records_l0 l hl d (i+1) (by omega)
theorem records_f (l:List RecS) (hl:l.length < 9223372036854775807):latticeplain_Records.f (l.length+1) l l=some true:=by
 unfold latticeplain_Records.f
 rw [if_pos rfl]
 exact records_l0 l hl l.length 0 (by omega)
theorem records_same (A:Option Addr) (c:Nat) (A':Option Addr) (c':Nat) (l:List RecS) (w:World) (hr:Kd.C kRec w A l.length l) (hc:l.length≤c) (hr':Kd.C kRec w A' l.length l) (hc':l.length≤c') (hl:l.length < 9223372036854775807) :
  Calls Try.prog 17 #[.slice A l.length c,.slice A' l.length c'] w fun e w'=>e=.returned (.bool true)∧Below w.heap.size w w' :=
 (latticeplain_Records.calls _ A c l A' c' l true w hr hc hr' hc' (records_f l hl)).mono fun _ _ ⟨e,d⟩=>⟨e,d.below⟩
theorem below_pastC {w w1:World} (hB:Below w.drew.heap.size w.drew w1):Below w.heap.size w w1:=below_from2 (below_drew (Below.refl _ _)) (Nat.le_refl _) hB
theorem fromF_length (l:List RecS) (a b:Int):(fromF l a b).length≤l.length:=by
 unfold fromF
 split
 ·simp
 ·rw [List.length_take,List.length_drop];omega
end Go.Proofs.Ytgjibcfkjaedfaa.Wal


-- A part of the text WalReads, thinned by a program of this session.
namespace Go.Proofs.Ytgjibcfkjaedfaa.Wal
open Go.RowKit Go.Proofs.YtgjibcfkjaedfaaW.PrintWords Go.Proofs.YtgjibcfkjaedfaaW.PrintLast Go.Proofs.YtgjibcfkjaedfaaW.PrintMore Go.Proofs.Ytgjibcfkjaedfaa.Wire Go.Proofs.Ytgjibcfkjaedfaa.Pr Go.Proofs.Ytgjibcfkjaedfaa.Rec
open Go.Proofs.Ytgjibcfkjaedfaa.Back (AllB)
set_option linter.unusedVariables false
set_option linter.unusedSimpArgs false
theorem rd_snoc_lt {l:List RecS} {r:RecS} {k:Nat} (h:k < l.length):rd_T53 (l++[r]) (k:Int)=rd_T53 l (k:Int):=by
 unfold rd_T53
 rw [Int.toNat_natCast,List.getD_eq_getElem?_getD,List.getD_eq_getElem?_getD,List.getElem?_append_left h]
theorem rd_snoc_eq {l:List RecS} {r:RecS}:rd_T53 (l++[r]) (l.length:Int)=r:=by
 unfold rd_T53
 rw [Int.toNat_natCast,List.getD_eq_getElem?_getD,List.getElem?_append_right (Nat.le_refl _),Nat.sub_self]
 rfl
theorem LsnOk.snoc {l:List RecS} {r:RecS} (h:LsnOk l) (hr:r.f0=(l.length:Int)+1):LsnOk (l++[r]):=by
 intro k hk
 rw [List.length_append,List.length_singleton] at hk
 by_cases hlt:k < l.length
 ·rw [rd_snoc_lt hlt];exact h k hlt
 ·obtain rfl:k=l.length:=by omega
  rw [rd_snoc_eq];exact hr
theorem fromF_all {l:List RecS} {lsn:Int} (h:l.length≤65536) (hl:lsn≤1):fromF l lsn 100000=l:=by
 unfold fromF
 have hm:max lsn 1=1:=by omega
 rw [hm]
 by_cases hz:(l.length:Int) < 1
 ·have:l=[]:=List.length_eq_zero_iff.1 (by omega)
  subst this
  rw [if_pos (.inl (by decide))]
 ·rw [if_neg (by omega),show (min 100000 ((l.length:Int) - 1+1)).toNat=l.length by omega]
  show (l.drop 0).take l.length=l
  rw [List.drop_zero,List.take_length]
end Go.Proofs.Ytgjibcfkjaedfaa.Wal


-- A part of the text ShipSt, thinned by a program of this session.
namespace Go.Proofs.Ytgjibcfkjaedfaa.Pr
open Go.RowKit Go.Proofs.YtgjibcfkjaedfaaW.PrintWords Go.Proofs.YtgjibcfkjaedfaaW.PrintLast
structure S59 where
 f0:Int
 f1:Int
def z59:S59:=⟨(0:Int),(0:Int)⟩
def k59:Kd S59:=Kd.iso (Kd.pair (Kd.int .i64) (Kd.int .i64)) (fun x:S59=>(x.f0,x.f1))
theorem k59_open {w:World} {x:S59} {cs:List Value} (h:k59.K w x cs):cs=[.int .i64 x.f0,.int .i64 x.f1]:=by
 obtain ⟨_,_,rfl,rfl,rfl⟩:=h
 exact rfl
theorem k59_openM {w:World} {base:Nat} {ok:Nat→Prop} {x:S59} {cs:List Value} (h:k59.M w base ok x cs):cs=[.int .i64 x.f0,.int .i64 x.f1]:=by
 obtain ⟨_,_,rfl,rfl,rfl⟩:=h
 exact rfl
theorem k59_mk (w:World) (x:S59)  : k59.K w x [.int .i64 x.f0,.int .i64 x.f1]:=⟨[.int .i64 x.f0],[.int .i64 x.f1],rfl,rfl,rfl⟩
theorem k59_mkM (w:World) (base:Nat) (ok:Nat→Prop) (x:S59)  : k59.M w base ok x [.int .i64 x.f0,.int .i64 x.f1]:=⟨[.int .i64 x.f0],[.int .i64 x.f1],rfl,rfl,rfl⟩
def rd_T59 (xs:List S59) (i:Int):S59:=xs.getD i.toNat z59
theorem at_T59 {w:World} {A:Option Addr} {n:Nat} {xs:List S59} (h:Kd.C k59 w A n xs) (i:Int) (h0:0≤i) (h1:i < n):∃ ad , A=some ad∧w.cell? (ad.add (i.toNat*2))=some (.int .i64 (rd_T59 xs i).f0)∧w.cell? ⟨(ad.add (i.toNat*2)).block,(ad.add (i.toNat*2)).off+1,none⟩=some (.int .i64 (rd_T59 xs i).f1):=by
 obtain ⟨ad,c,e,_,hK,hc0⟩:=Kd.C_get h z59 i h0 h1
 have hc:∀ j u,c[j]?=some u→w.cell? (ad.add (i.toNat*2+j))=some u:=hc0
 obtain rfl:=k59_open hK
 exact ⟨ad,e,hc 0 _ rfl,by rw [← add_field _ _ 1 (by omega)];exact hc 1 _ rfl⟩
structure S45 where
 f0:Int
 f1:Int
def z45:S45:=⟨(0:Int),(0:Int)⟩
def k45:Kd S45:=Kd.iso (Kd.pair (Kd.int .i64) (Kd.int .i64)) (fun x:S45=>(x.f0,x.f1))
theorem k45_open {w:World} {x:S45} {cs:List Value} (h:k45.K w x cs):cs=[.int .i64 x.f0,.int .i64 x.f1]:=by
 obtain ⟨_,_,rfl,rfl,rfl⟩:=h
 exact rfl
theorem k45_openM {w:World} {base:Nat} {ok:Nat→Prop} {x:S45} {cs:List Value} (h:k45.M w base ok x cs):cs=[.int .i64 x.f0,.int .i64 x.f1]:=by
 obtain ⟨_,_,rfl,rfl,rfl⟩:=h
 exact rfl
theorem k45_mk (w:World) (x:S45)  : k45.K w x [.int .i64 x.f0,.int .i64 x.f1]:=⟨[.int .i64 x.f0],[.int .i64 x.f1],rfl,rfl,rfl⟩
theorem k45_mkM (w:World) (base:Nat) (ok:Nat→Prop) (x:S45)  : k45.M w base ok x [.int .i64 x.f0,.int .i64 x.f1]:=⟨[.int .i64 x.f0],[.int .i64 x.f1],rfl,rfl,rfl⟩
def rd_T45 (xs:List S45) (i:Int):S45:=xs.getD i.toNat z45
theorem at_T45 {w:World} {A:Option Addr} {n:Nat} {xs:List S45} (h:Kd.C k45 w A n xs) (i:Int) (h0:0≤i) (h1:i < n):∃ ad , A=some ad∧w.cell? (ad.add (i.toNat*2))=some (.int .i64 (rd_T45 xs i).f0)∧w.cell? ⟨(ad.add (i.toNat*2)).block,(ad.add (i.toNat*2)).off+1,none⟩=some (.int .i64 (rd_T45 xs i).f1):=by
 obtain ⟨ad,c,e,_,hK,hc0⟩:=Kd.C_get h z45 i h0 h1
 have hc:∀ j u,c[j]?=some u→w.cell? (ad.add (i.toNat*2+j))=some u:=hc0
 obtain rfl:=k45_open hK
 exact ⟨ad,e,hc 0 _ rfl,by rw [← add_field _ _ 1 (by omega)];exact hc 1 _ rfl⟩
end Go.Proofs.Ytgjibcfkjaedfaa.Pr


-- A part of the text WalSteps, thinned by a program of this session.
namespace Go.Proofs.Ytgjibcfkjaedfaa.Wal
open Go.RowKit Go.Proofs.YtgjibcfkjaedfaaW.PrintWords Go.Proofs.YtgjibcfkjaedfaaW.PrintLast Go.Proofs.YtgjibcfkjaedfaaW.PrintMore Go.Proofs.Ytgjibcfkjaedfaa.Wire Go.Proofs.Ytgjibcfkjaedfaa.Pr Go.Proofs.Ytgjibcfkjaedfaa.Rec
open Go.Proofs.Ytgjibcfkjaedfaa.Back (AllB)
set_option linter.unusedVariables false
set_option linter.unusedSimpArgs false
structure LogOk (l:List RecS):Prop where
 len:l.length≤65536
 lsn:LsnOk l
 right:allR l
theorem LogOk.size {l:List RecS} (h:LogOk l):∀ x ∈ l,x.f7.size≤140737488351232:=fun x hx=>by
 have:=(fits_of (h.right x hx)).1.h8
 show (toV x).2.2.2.2.2.2.2.size≤140737488351232
 omega
theorem LogOk.nil:LogOk []:=⟨by simp,fun k hk=>by simp at hk,fun x hx=>by simp at hx⟩
theorem LogOk.app {l:List RecS} (h:LogOk l) (r:RecS):LogOk (appF l r).1:=by
 unfold appF
 by_cases hr:rightV (toV (withLsn r ((l.length:Int)+1)))=true
 ·rw [if_pos hr]
  by_cases he:r.f1 < lastE l
  ·rw [if_pos he];exact h
  ·rw [if_neg he]
   by_cases hf:l.length=65536
   ·rw [if_pos hf];exact h
   ·rw [if_neg hf]
    refine ⟨?_,h.lsn.snoc rfl,allR_snoc h.right hr⟩
    rw [List.length_append,List.length_singleton]
    have:=h.len
    omega
 ·rw [if_neg hr];exact h
theorem rd_take {l:List RecS} {m k:Nat} (h:k < m) (hm:m≤l.length):rd_T53 (l.take m) (k:Int)=rd_T53 l (k:Int):=by
 unfold rd_T53
 rw [Int.toNat_natCast,List.getD_eq_getElem?_getD,List.getD_eq_getElem?_getD,List.getElem?_take_of_lt h]
theorem LogOk.cut {l:List RecS} (h:LogOk l) (fl n:Int):LogOk (cutF l fl n).1:=by
 unfold cutF
 by_cases hb:withinB l.length n=true
 ·rw [if_pos hb]
  have h1:=withinB_iff.1 hb
  have hl:(l.take n.toNat).length=n.toNat:=by rw [List.length_take];omega
  refine ⟨by have:=h.len;rw [hl];omega,?_,fun x hx=>h.right x (List.mem_of_mem_take hx)⟩
  intro k hk
  rw [hl] at hk
  rw [rd_take hk (by omega)]
  exact h.lsn k (by omega)
 ·rw [if_neg hb];exact h
def Two (base:Nat) (W:World) (g g':Nat) (l:List RecS) (fl:Int):Prop :=
 ∃ ok ok':Nat→Prop,LogAt 98 W ok g l fl∧LogAt 37 W ok' g' l fl∧(∀ k,ok k→ok' k→False)∧(∀ k,ok k→base≤k)∧(∀ k,ok' k→base≤k)
theorem Two.below {base:Nat} {W W1:World} {g g':Nat} {l:List RecS} {fl:Int} (h:Two base W g g' l fl) (hB:Below W.heap.size W W1):Two base W1 g g' l fl:=by
 obtain ⟨ok,ok',h1,h2,h3,h4,h5⟩:=h
 exact ⟨ok,ok',h1.below hB,h2.below hB,h3,h4,h5⟩
theorem two_step {base:Nat} {W W1 W2:World} {ok ok':Nat→Prop} {g g':Nat} {l1:List RecS} {fl1:Int} (hd:∀ k,ok k→ok' k→False) (hb:∀ k,ok k→base≤k) (hb':∀ k,ok' k→base≤k) (hW:base≤W.heap.size) (hW1:W.heap.size≤W1.heap.size)
  (hL:LogAt 98 W1 (fun k=>ok k∨W.heap.size≤k) g l1 fl1) (hL2:LogAt 37 W2 (fun k=>(ok' k∧k < W.heap.size)∨W1.heap.size≤k) g' l1 fl1) (hC2:Chg W1 W2 (fun k=>ok' k∧k < W.heap.size)):Two base W2 g g' l1 fl1:=by
 refine ⟨_,_,hL.bound.chg hC2 ?_,hL2,?_,?_,?_⟩
 ·intro k hk _ h
  rcases hk.1 with h1|h1
  ·exact hd k h1 h.1
  ·have:=h.2;omega
 ·intro k hk h
  rcases h with h|h
  ·rcases hk.1 with h1|h1
   ·exact hd k h1 h.1
   ·have:=h.2;omega
  ·have:=hk.2;omega
 ·intro k hk
  rcases hk.1 with h1|h1
  ·exact hb k h1
  ·omega
 ·intro k hk
  rcases hk with h1|h1
  ·exact hb' k h1.1
  ·omega
theorem two_first {W W1:World} {ok ok':Nat→Prop} {g':Nat} {l:List RecS} {fl:Int} (hd:∀ k,ok k→ok' k→False) (h2:LogAt 37 W ok' g' l fl) (hC:Chg W W1 ok):LogAt 37 W1 (fun k=>ok' k∧k < W.heap.size) g' l fl :=
 h2.bound.chg hC (fun k hk _ h=>hd k h hk.1)
end Go.Proofs.Ytgjibcfkjaedfaa.Wal


-- A part of the text WalGrows, thinned by a program of this session.
namespace Go.Proofs.Ytgjibcfkjaedfaa.Wal
open Go.RowKit Go.Proofs.YtgjibcfkjaedfaaW.PrintWords Go.Proofs.YtgjibcfkjaedfaaW.PrintLast Go.Proofs.YtgjibcfkjaedfaaW.PrintMore Go.Proofs.Ytgjibcfkjaedfaa.Wire Go.Proofs.Ytgjibcfkjaedfaa.Pr Go.Proofs.Ytgjibcfkjaedfaa.Rec
open Go.Proofs.Ytgjibcfkjaedfaa.Back (AllB)
set_option linter.unusedVariables false
set_option linter.unusedSimpArgs false
def wasF (l:List RecS) (k:Nat):Int:=if k=0 then 0 else (rd_T53 l ((k:Int) - 1)).f1
def EpOk (l:List RecS):Prop:=∀ k:Nat,k < l.length→wasF l k≤(rd_T53 l (k:Int)).f1
theorem wasF_last (l:List RecS):wasF l l.length=lastE l:=rfl
theorem wasF_succ (l:List RecS) (k:Nat):wasF l (k+1)=(rd_T53 l (k:Int)).f1:=by
 unfold wasF
 rw [if_neg (by omega),show ((k+1:Nat):Int) - 1=(k:Int) by omega]
theorem wasF_snoc {l:List RecS} {r:RecS} {k:Nat} (h:k≤l.length):wasF (l++[r]) k=wasF l k:=by
 cases k with
 | zero=>rfl
 | succ k=>rw [wasF_succ,wasF_succ,rd_snoc_lt (by omega)]
theorem wasF_take {l:List RecS} {m k:Nat} (h:k≤m) (hm:m≤l.length):wasF (l.take m) k=wasF l k:=by
 cases k with
 | zero=>rfl
 | succ k=>rw [wasF_succ,wasF_succ,rd_take (by omega) hm]
theorem EpOk.app {l:List RecS} (h:EpOk l) (r:RecS):EpOk (appF l r).1:=by
 unfold appF
 by_cases hr:rightV (toV (withLsn r ((l.length:Int)+1)))=true
 ·rw [if_pos hr]
  by_cases he:r.f1 < lastE l
  ·rw [if_pos he];exact h
  ·rw [if_neg he]
   by_cases hf:l.length=65536
   ·rw [if_pos hf];exact h
   ·rw [if_neg hf]
    intro k hk
    rw [List.length_append,List.length_singleton] at hk
    show wasF (l++[withLsn r ((l.length:Int)+1)]) k≤(rd_T53 (l++[withLsn r ((l.length:Int)+1)]) (k:Int)).f1
    rw [wasF_snoc (by omega)]
    by_cases hlt:k < l.length
    ·rw [rd_snoc_lt hlt];exact h k hlt
    ·obtain rfl:k=l.length:=by omega
     rw [rd_snoc_eq,wasF_last]
     show lastE l≤r.f1
     omega
 ·rw [if_neg hr];exact h
theorem EpOk.cut {l:List RecS} (h:EpOk l) (fl n:Int):EpOk (cutF l fl n).1:=by
 unfold cutF
 by_cases hb:withinB l.length n=true
 ·rw [if_pos hb]
  have h1:=withinB_iff.1 hb
  have hl:(l.take n.toNat).length=n.toNat:=by rw [List.length_take];omega
  intro k hk
  rw [hl] at hk
  show wasF (l.take n.toNat) k≤(rd_T53 (l.take n.toNat) (k:Int)).f1
  rw [wasF_take (by omega) (by omega),rd_take hk (by omega)]
  exact h k (by omega)
 ·rw [if_neg hb];exact h
end Go.Proofs.Ytgjibcfkjaedfaa.Wal
