/- The law PageGrows returns true at every input, and each argument reads afterwards as it read before: A node with an entry more is larger, by just that entry; and one without its last entry is right, if it was.
   Conditions: none but those that the row itself prints. Written by a program of this session over the kit's printer. -/
import Derived.Test.YthfhkcicpfnedaaRows
import Derived.Test.YthfhkcicpfnedaaTPageGrowsPrx19
import Derived.Test.YthfhkcicpfnedaaTPageGrowsOpn
import Derived.Test.YthfhkcicpfnedaaTPageGrowsPurePageGrows
import Derived.WalkKit
import Derived.ProofKit
import Derived.OpenShut
import Derived.ShutString
import Derived.ChangeOld
import Derived.Below
import Derived.SizedLaws
import Derived.Carry
namespace Go.Proofs.Ythfhkcicpfnedaa.pageGrows
open Go.ChangeShapes Go.WideShapes Go.ChangeAt Go.RowKit
open Go.ChangeMaps (open_string shut_string)
set_option linter.unusedVariables false
theorem own:ownKnob Try.prog.godebug=none:=by kernel_rfl
theorem laidOut:laidOutB Try.prog=true:=by kernel_rfl
set_option maxRecDepth 100000 in
theorem lifted (os:Os) (started:os.Started) (H:Type) (enc:TypeId×Value→H) :
  ReturnsInHanded {} Try.checked os 8 .any (Rows.pageGrowsSpec.pre6 enc Try.prog Try.f8 Rows.pageGrowsRow.domain false) (Rows.pageGrowsSpec.post enc Try.prog Try.f8 false true false false):=by
 refine returnsInHanded_of_change_sized (C:=Try.checked) own started (by kernel_rfl) Try.func8
  (ChangeSpec.witness6 (enc:=enc) (C:=Try.checked) false ⟨#[],#[.agg #[.int .i64 0,.int .i64 0,.int .i64 0,.string ByteArray.empty,.slice none 0 0,.slice none 0 0,.slice none 0 0]],[]⟩ 8 (by kernel_rfl) (by kernel_rfl) (by kernel_rfl) (by kernel_rfl)) ?_
 intro W base args ds gs before hval0 hW hcnd hsz0 _
 have hsz:(DataW.weightsEach Try.prog (Try.f8.params.toList++Rows.pageGrowsSpec.plain.varTypes Try.prog) (ds++gs)).all (·≤reachBytes)=true:=hsz0
 have hval:∀ (j:Nat) t v,Try.f8.params[j]?=some t→args[j]?=some v→Value.okWide Try.prog W .any base t v:=hval0
 have hW':=hW
 obtain ⟨p,q,hA0,hV,rfl,hfz,hnd⟩:=hW
 have hA:DataW.TrodAll enc Try.prog W 0 (fun _=>true) true Try.f8.params.toList args.toList ds p:=hA0
 rw [Try.params8] at hA hval hsz
 obtain ⟨v0,vs0,d0,ds0,p0,q0,hargs,rfl,rfl,h0,r0⟩:=trodAll_cons hA
 obtain ⟨rfl,rfl,rfl⟩:=trodAll_nil r0
 obtain rfl:args=#[v0]:=by cases args;simp_all
 obtain ⟨rfl,rfl⟩:=trodVars_none hV
 have k0:=h0
 have lt0:∀ x ∈ p0,x.block < W.heap.size:=by obtain ⟨m,hm⟩:=k0;exact DataW.trod_lt m _ _ _ hm
 obtain ⟨n0,hf0⟩:=h0
 obtain ⟨y0,K0,g0,m0⟩:=Pr.opn25.out H enc W n0 _ _ hf0 (Open.weights_at hsz (j:=0) (t:=25) rfl rfl)
 obtain ⟨cs0,rfl,_⟩:=okWide_struct Try.underlying25 (hval 0 25 v0 rfl rfl)
 obtain ⟨A0_4,c0_4,A0_5,c0_5,A0_6,c0_6,e0,hc0_4,hr0_4,hc0_5,hr0_5,hc0_6,hr0_6⟩:=Pr.k25_open K0
 obtain rfl:cs0=#[.int .i64 y0.f0,.int .i64 y0.f1,.int .i64 y0.f2,.string y0.f3,.slice A0_4 y0.f4.length c0_4,.slice A0_5 y0.f5.length c0_5,.slice A0_6 y0.f6.length c0_6]:=by cases cs0;simp only [Value.cells] at e0;rw [e0]
 clear hA0 hval0 hsz0 hsz
 have hk:=Pure.PageGrows y0 g0
 refine (Pr.latticelaw06_PageGrows.calls y0.f0 y0.f1 y0.f2 y0.f3 A0_4 c0_4 y0.f4 A0_5 c0_5 y0.f5 A0_6 c0_6 y0.f6 true W hr0_4 hc0_4 hr0_5 hc0_5 hr0_6 hc0_6 hk).mono fun e W' ⟨he,bel0⟩=>?_
 have bel:Below W.heap.size W W':=bel0
 subst he
 exact ⟨_,rfl,_,_,_,[],_,[],hW',trodAll_mk1 (shut_bool Try.underlying4 _),(trodAll_cons_mk (Below.trod laidOut (by kernel_rfl) (of_decide_eq_true (by kernel_rfl)) k0 bel lt0) trodAll_mk0),rfl,bel.frame _,fun h=>by cases h⟩
theorem over:Rows.pageGrowsRow.holds Try.pinned (OpenSpec.ofChange Rows.pageGrowsSpec) :=
 OpenClaim.holds_of_wide 8 Try.f8 rfl rfl rfl rfl rfl rfl rfl ⟨rfl,rfl,rfl,rfl,rfl⟩ rfl rfl rfl rfl rfl (by kernel_rfl) Try.func8 (by kernel_rfl)
  (of_decide_eq_true (by kernel_rfl)) (by unfold Func.isWrapper;first|(rw [if_pos (by decide +kernel)];kernel_rfl)|(rw [if_neg (by decide +kernel)];exact ⟨rfl,rfl⟩))
  (fun os started H enc _=>lifted os started H enc)
theorem proved:Rows.PageGrowsSaid:=over
#print axioms proved
end Go.Proofs.Ythfhkcicpfnedaa.pageGrows
namespace Go.Proofs.Ythfhkcicpfnedaa
theorem pageGrows_holds:Rows.PageGrowsSaid:=pageGrows.proved
end Go.Proofs.Ythfhkcicpfnedaa
