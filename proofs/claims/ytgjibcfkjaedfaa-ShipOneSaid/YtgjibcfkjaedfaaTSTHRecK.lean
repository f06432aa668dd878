-- A part of the text THRecK, thinned by a program of this session.
import Derived.Test.YtgjibcfkjaedfaaTSTHRecLaw
import Derived.Test.YtgjibcfkjaedfaaTSTHCrcR
import Derived.Lib.SlBytesConst
import Derived.StillTailTactics
import Derived.Test.YtgjibcfkjaedfaaTSTHRecV
import Derived.Test.YtgjibcfkjaedfaaTSTHPrx0
namespace Go.Proofs.Ytgjibcfkjaedfaa.Rec
open Go.RowKit Go.Proofs.YtgjibcfkjaedfaaW.PrintWords Go.Proofs.YtgjibcfkjaedfaaW.PrintLast Go.Proofs.YtgjibcfkjaedfaaW.PrintMore Go.Proofs.Ytgjibcfkjaedfaa.Wire Go.Proofs.Ytgjibcfkjaedfaa.Crc Go.Proofs.Ytgjibcfkjaedfaa.Pr Go.Proofs.Ytgjibcfkjaedfaa.Page
open Go.Proofs.Ytgjibcfkjaedfaa.Back (AllB)
open Go.Proofs.Ytgjibcfkjaedfaa.Pure
set_option linter.unusedVariables false
set_option linter.unusedSimpArgs false
theorem neqRc (W:World) (a1 a2 a3 a4 a5 a6:Int) (a7 a8:ByteArray):(binOp .neq 53 (.agg #[.int .i64 a1,.int .i64 a2,.int .i64 a3,.int .i64 a4,.int .i64 a5,.int .i64 a6,.string a7,.string a8]) (.agg #[.int .i64 a1,.int .i64 a2,.int .i64 a3,.int .i64 a4,.int .i64 a5,.int .i64 a6,.string a7,.string a8])).run Try.prog W=.ok (.bool false) W:=by
 rw [run_neq_struct,eqA_of (d:=9999) (r:=(a1==a1&&(a2==a2&&(a3==a3&&(a4==a4&&(a5==a5&&(a6==a6&&(a7.toList==a7.toList&&a8.toList==a8.toList)))))))) Try.underlying53 (by kernel_rfl)]
 ·simp
 ·exact eqf_cons (a:=.int .i64 a1) (b:=.int .i64 a1) (by decide) (by kernel_rfl) (by kernel_rfl) (by kernel_rfl) (eqf_cons (a:=.int .i64 a2) (b:=.int .i64 a2) (by decide) (by kernel_rfl) (by kernel_rfl) (by kernel_rfl) (eqf_cons (a:=.int .i64 a3) (b:=.int .i64 a3) (by decide) (by kernel_rfl) (by kernel_rfl) (by kernel_rfl) (eqf_cons (a:=.int .i64 a4) (b:=.int .i64 a4) (by decide) (by kernel_rfl) (by kernel_rfl) (by kernel_rfl) (eqf_cons (a:=.int .i64 a5) (b:=.int .i64 a5) (by decide) (by kernel_rfl) (by kernel_rfl) (by kernel_rfl) (eqf_cons (a:=.int .i64 a6) (b:=.int .i64 a6) (by decide) (by kernel_rfl) (by kernel_rfl) (by kernel_rfl) (eqf_cons (a:=.string a7) (b:=.string a7) (by decide) (by kernel_rfl) (by kernel_rfl) (by exact run_equalIn_string W 9998 9 a7 a7 Try.underlying9) (eqf_last (a:=.string a8) (b:=.string a8) (by decide) (by kernel_rfl) (by kernel_rfl) (by exact run_equalIn_string W 9998 9 a8 a8 Try.underlying9))))))))
abbrev RecS:=S53
abbrev kRec:Kd RecS:=k53
abbrev toV (x:RecS):RecV:=(x.f0,x.f1,x.f2,x.f3,x.f4,x.f5,x.f6,x.f7)
theorem infoRec:(Try.prog.info? 53).map (fun i=>(i.zero,i.size,i.bytes))=some (some (.agg #[.int .i64 0,.int .i64 0,.int .i64 0,.int .i64 0,.int .i64 0,.int .i64 0,.string ⟨#[]⟩,.string ⟨#[]⟩]),8,80):=by kernel_rfl
abbrev RRec (w:World) (b:Nat) (v:Value) (xs:List RecS):Prop:=Kd.R kRec 53 w b (fun _=>True) v xs
abbrev RByt (w:World) (b:Nat) (v:Value) (xs:List Int):Prop:=Kd.R (Kd.int .u8) 5 w b (fun _=>True) v xs
theorem rec_E (q:Nat) (hq:q ∈ 53::kRec.E):q=53:=by
 simpa [kRec,k53,Kd.iso,Kd.pair,Kd.int,Kd.string,Kd.scalar] using hq
theorem framesB_length {f:RecS→List Int} {m:Nat}:∀ {rs:List RecS},(∀ x ∈ rs,(f x).length≤m)→(rs.flatMap f).length≤m*rs.length
 | [],_=>by simp
 | x::rs,h=>by
  have h1:=h x (List.mem_cons_self ..)
  have h2:=framesB_length (rs:=rs) (fun y hy=>h y (List.mem_cons_of_mem _ hy))
  rw [List.flatMap_cons,List.length_append,List.length_cons,Nat.mul_succ]
  omega
def allR (rs:List RecS):Prop:=∀ x ∈ rs,rightV (toV x)=true
theorem allR_snoc {rs:List RecS} {x:RecS} (h:allR rs) (hx:rightV (toV x)=true):allR (rs++[x]):=by
 intro y hy
 rcases List.mem_append.1 hy with hy|hy
 ·exact h y hy
 ·rw [List.mem_singleton] at hy
  rw [hy];exact hx
theorem rd_rec_mem {rs:List RecS} {k:Nat} (hk:k < rs.length):rd_T53 rs (k:Int) ∈ rs:=by
 unfold rd_T53
 rw [Int.toNat_natCast,List.getD_eq_getElem?_getD,List.getElem?_eq_getElem hk]
 exact List.getElem_mem _
end Go.Proofs.Ytgjibcfkjaedfaa.Rec
