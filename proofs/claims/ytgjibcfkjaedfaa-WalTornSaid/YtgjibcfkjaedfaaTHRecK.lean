-- A part of the text RecK, thinned by a program of this session.
import Derived.Test.YtgjibcfkjaedfaaTHRecLaw
import Derived.Test.YtgjibcfkjaedfaaTHCrcR
import Derived.Lib.SlBytesConst
import Derived.StillTailTactics
import Derived.Test.YtgjibcfkjaedfaaTHCrcTurn
import Derived.Test.YtgjibcfkjaedfaaTHRecV
import Derived.Test.YtgjibcfkjaedfaaTHPrx0
namespace Go.Proofs.Ytgjibcfkjaedfaa.Rec
open Go.RowKit Go.Proofs.YtgjibcfkjaedfaaW.PrintWords Go.Proofs.YtgjibcfkjaedfaaW.PrintLast Go.Proofs.YtgjibcfkjaedfaaW.PrintMore Go.Proofs.Ytgjibcfkjaedfaa.Wire Go.Proofs.Ytgjibcfkjaedfaa.Crc Go.Proofs.Ytgjibcfkjaedfaa.Pr Go.Proofs.Ytgjibcfkjaedfaa.Page
open Go.Proofs.Ytgjibcfkjaedfaa.Back (AllB)
open Go.Proofs.Ytgjibcfkjaedfaa.Pure
set_option linter.unusedVariables false
set_option linter.unusedSimpArgs false
theorem neqRc (W:World) (a1 a2 a3 a4 a5 a6:Int) (a7 a8:ByteArray):(binOp .neq 53 (.agg #[.int .i64 a1,.int .i64 a2,.int .i64 a3,.int .i64 a4,.int .i64 a5,.int .i64 a6,.string a7,.string a8]) (.agg #[.int .i64 a1,.int .i64 a2,.int .i64 a3,.int .i64 a4,.int .i64 a5,.int .i64 a6,.string a7,.string a8])).run Try.prog W=.ok (.bool false) W:=by
 rw [run_neq_struct,eqA_of (d:=9999) (r:=(a1==a1&&(a2==a2&&(a3==a3&&(a4==a4&&(a5==a5&&(a6==a6&&(a7.toList==a7.toList&&a8.toList==a8.toList)))))))) Try.underlying53 (by kernel_rfl)]
 ·simp
 ·exact eqf_cons (a:=.int .i64 a1) (b:=.int .i64 a1) (by decide) (by kernel_rfl) (by kernel_rfl) (by kernel_rfl) (eqf_cons (a:=.int .i64 a2) (b:=.int .i64 a2) (by decide) (by kernel_rfl) (by kernel_rfl) (by kernel_rfl) (eqf_cons (a:=.int .i64 a3) (b:=.int .i64 a3) (by decide) (by kernel_rfl) (by kernel_rfl) (by kernel_rfl) (eqf_cons (a:=.int .i64 a4) (b:=.int .i64 a4) (by decide) (by kernel_rfl) (by kernel_rfl) (by kernel_rfl) (eqf_cons (a:=.int .i64 a5) (b:=.int .i64 a5) (by decide) (by kernel_rfl) (by kernel_rfl) (by kernel_rfl) (eqf_cons (a:=.int .i64 a6) (b:=.int .i64 a6) (by decide) (by kernel_rfl) (by kernel_rfl) (by kernel_rfl) (eqf_cons (a:=.string a7) (b:=.string a7) (by decide) (by kernel_rfl) (by kernel_rfl) (by exact run_equalIn_string W 9998 9 a7 a7 Try.underlying9) (eqf_last (a:=.string a8) (b:=.string a8) (by decide) (by kernel_rfl) (by kernel_rfl) (by exact run_equalIn_string W 9998 9 a8 a8 Try.underlying9))))))))
abbrev RecS:=S53
abbrev kRec:Kd RecS:=k53
abbrev toV (x:RecS):RecV:=(x.f0,x.f1,x.f2,x.f3,x.f4,x.f5,x.f6,x.f7)
theorem infoRec:(Try.prog.info? 53).map (fun i=>(i.zero,i.size,i.bytes))=some (some (.agg #[.int .i64 0,.int .i64 0,.int .i64 0,.int .i64 0,.int .i64 0,.int .i64 0,.string ⟨#[]⟩,.string ⟨#[]⟩]),8,80):=by kernel_rfl
abbrev RRec (w:World) (b:Nat) (v:Value) (xs:List RecS):Prop:=Kd.R kRec 53 w b (fun _=>True) v xs
abbrev RByt (w:World) (b:Nat) (v:Value) (xs:List Int):Prop:=Kd.R (Kd.int .u8) 5 w b (fun _=>True) v xs
theorem rec_E (q:Nat) (hq:q ∈ 53::kRec.E):q=53:=by
 simpa [kRec,k53,Kd.iso,Kd.pair,Kd.int,Kd.string,Kd.scalar] using hq
theorem byt_E (q:Nat) (hq:q ∈ 5::(Kd.int .u8).E):q=5:=by
 simpa [Kd.int,Kd.scalar] using hq
theorem RRec.over {w w1:World} {b b':Nat} {u v:Value} {xs:List RecS} {ys:List Int} (h:RRec w b u xs) (hv:RByt w b' v ys) (hg:w.grownBy w1 v.ownBlock):RRec w1 b u xs :=
 Kd.R_over h hv (fun q hq=>by rw [rec_E q hq];decide) hg
theorem RByt.over {w w1:World} {b b':Nat} {u v:Value} {xs:List RecS} {ys:List Int} (h:RByt w b v ys) (hv:RRec w b' u xs) (hg:w.grownBy w1 u.ownBlock):RByt w1 b v ys :=
 Kd.R_over h hv (fun q hq=>by rw [byt_E q hq];decide) hg
theorem framesB_length {f:RecS→List Int} {m:Nat}:∀ {rs:List RecS},(∀ x ∈ rs,(f x).length≤m)→(rs.flatMap f).length≤m*rs.length
 | [],_=>by simp
 | x::rs,h=>by
  have h1:=h x (List.mem_cons_self ..)
  have h2:=framesB_length (rs:=rs) (fun y hy=>h y (List.mem_cons_of_mem _ hy))
  rw [List.flatMap_cons,List.length_append,List.length_cons,Nat.mul_succ]
  omega
def frs (rs:List RecS):List Int:=rs.flatMap (fun x=>frameB (toV x))
def allR (rs:List RecS):Prop:=∀ x ∈ rs,rightV (toV x)=true
theorem frs_snoc (rs:List RecS) (x:RecS):frs (rs++[x])=frs rs++frameB (toV x):=by
 unfold frs
 simp
theorem frs_length {rs:List RecS} (h:allR rs):(frs rs).length≤315*rs.length:=by
 refine framesB_length (fun x hx=>?_)
 rw [frame_length]
 have:=(fits_of (h x hx)).2
 omega
theorem frs_allB (rs:List RecS):AllB (frs rs):=by
 intro y hy
 unfold frs at hy
 rw [List.mem_flatMap] at hy
 obtain ⟨x,_,hx⟩:=hy
 exact frame_allB _ y hx
theorem allR_snoc {rs:List RecS} {x:RecS} (h:allR rs) (hx:rightV (toV x)=true):allR (rs++[x]):=by
 intro y hy
 rcases List.mem_append.1 hy with hy|hy
 ·exact h y hy
 ·rw [List.mem_singleton] at hy
  rw [hy];exact hx
theorem frs_drop {rs:List RecS} {k:Nat} (hk:k < rs.length):frs (rs.drop k)=frameB (toV (rd_T53 rs (k:Int)))++frs (rs.drop (k+1)):=by
 have e:rs.drop k=rs[k]::rs.drop (k+1):=List.drop_eq_getElem_cons hk
 have e2:rd_T53 rs (k:Int)=rs[k]:=by
  unfold rd_T53
  rw [Int.toNat_natCast,List.getD_eq_getElem?_getD,List.getElem?_eq_getElem hk]
  rfl
 rw [e2,e]
 unfold frs
 rw [List.flatMap_cons]
theorem rd_rec_mem {rs:List RecS} {k:Nat} (hk:k < rs.length):rd_T53 rs (k:Int) ∈ rs:=by
 unfold rd_T53
 rw [Int.toNat_natCast,List.getD_eq_getElem?_getD,List.getElem?_eq_getElem hk]
 exact List.getElem_mem _
theorem cut_rest {A:Option Addr} {c n m:Nat} (hm:m≤n):∃ A':Option Addr,(∀ W:World,(Instr.slice 67 (.slice A n c) (some (.int .i64 (m:Int))) none none).run Try.prog W=.ok (.slice A' (n - m) (c - m)) W)∧∀ (W:World) (xs:List Int),xs.length=n→n≤c→Kd.C (Kd.int .u8) W A n xs→Kd.C (Kd.int .u8) W A' (n - m) (xs.drop m):=by
 refine ⟨if c=m then A else A.map (·.add (m*1)),fun W=>?_,fun W xs hl hc h=>?_⟩
 ·have h:=cut_from (P:=Try.prog) 67 5 .i64 Try.underlying67 (info_parts info8).choose_spec.1 1 (info_parts info8).choose_spec.2.2.1 A n c (m:Int) (by omega) (by omega) W
  rw [Int.toNat_natCast] at h
  exact h
 ·subst hl
  have h1:=Kd.C_drop h hm hc
  rw [List.length_drop] at h1
  exact h1
end Go.Proofs.Ytgjibcfkjaedfaa.Rec
