/- The law VoteCodes returns true at every input, and each argument reads afterwards as it read before: Each promise's bytes, which bytes are one, and which log's end is as new.
   Conditions: none but those that the row itself prints. -/
import Derived.Test.YtjbddcaamefgaaaRows
import Derived.Test.YtjbddcaamefgaaaOpn
import Derived.Test.YtjbddcaamefgaaaVoteCodL
import Derived.WalkKit
import Derived.ProofKit
import Derived.OpenShut
import Derived.ShutString
import Derived.ChangeOld
import Derived.ChangeSame
import Derived.Below
import Derived.SizedLaws
import Derived.Carry
namespace Go.Proofs.Ytjbddcaamefgaaa.voteCodes
open Go.ChangeShapes Go.WideShapes Go.ChangeAt Go.RowKit
open Go.ChangeMaps (open_string shut_string)
set_option linter.unusedVariables false
theorem own : ownKnob Try.prog.godebug = none := by kernel_rfl
theorem laidOut : laidOutB Try.prog = true := by kernel_rfl
theorem mark_open {H : Type} {enc : TypeId × Value → H} {W : World} {n : Nat} {c : List Value} {x : DataW H × List MemPlace} (hl : c.length = 2) (h : DataW.trod enc Try.prog W 0 (fun _ => true) true n 36 c = some x) : ∃ a b : Int, c = [.int .i64 a, .int .i64 b] := by
  rcases c with _ | ⟨u, _ | ⟨v, _ | ⟨z, c⟩⟩⟩
  · cases hl
  · cases hl
  · obtain ⟨z0, z1, m, _, _, h0, h1⟩ := trod_struct2 Try.underlying36 h
    have hc : Try.prog.cellsOf 3 = 1 := by kernel_rfl
    dsimp only at h0 h1
    rw [hc] at h0 h1
    obtain ⟨a, ha, _⟩ := DataW.trod_int Try.underlying3 h0
    obtain ⟨b, hb, _⟩ := DataW.trod_int Try.underlying3 h1
    refine ⟨a, b, ?_⟩
    simp at ha hb
    rw [ha, hb]
  · cases hl
set_option maxRecDepth 100000 in
theorem marks_open {H : Type} {enc : TypeId × Value → H} {W : World} {n : Nat} {c : List Value} {x : DataW H × List MemPlace} (h : DataW.trod enc Try.prog W 0 (fun _ => true) true n 64 c = some x) : ∃ a b d e : Int, c = [.int .i64 a, .int .i64 b, .int .i64 d, .int .i64 e] := by
  obtain ⟨xs, m, _, _, hl, hxs, hel⟩ := DataW.trod_array Try.underlying64 h
  have hl4 : c.length = 4 := hl.trans (by kernel_rfl)
  have hc : Try.prog.cellsOf 36 = 2 := by kernel_rfl
  rcases c with _ | ⟨u0, _ | ⟨u1, _ | ⟨u2, _ | ⟨u3, _ | ⟨z, c⟩⟩⟩⟩⟩
  · cases hl4
  · cases hl4
  · cases hl4
  · cases hl4
  · obtain ⟨x0, hx0⟩ : ∃ x0, xs[0]? = some x0 := ⟨_, List.getElem?_eq_getElem (by omega)⟩
    obtain ⟨x1, hx1⟩ : ∃ x1, xs[1]? = some x1 := ⟨_, List.getElem?_eq_getElem (by omega)⟩
    have h0 := hel 0 (by decide)
    have h1 := hel 1 (by decide)
    rw [hc, hx0] at h0
    rw [hc, hx1] at h1
    obtain ⟨a, b, e0⟩ := mark_open rfl h0
    obtain ⟨d, e, e1⟩ := mark_open rfl h1
    simp at e0 e1
    exact ⟨a, b, d, e, by rw [e0.1, e0.2, e1.1, e1.2]⟩
  · cases hl4
theorem okWide_array {P : Program} {w : World} {r : Reach} {base n : Nat} {t e : TypeId} {v : Value} (ht : P.underlying t = some (.array n e)) (h : Value.okWide P w r base t v) : ∃ cs, v = .agg cs := by
  simp only [Value.okWide, ht] at h
  obtain ⟨cs, h1, _⟩ := h
  exact ⟨cs, h1⟩
set_option maxRecDepth 100000 in
theorem lifted (os : Os) (started : os.Started) (H : Type) (enc : TypeId × Value → H) :
    ReturnsInHanded {} Try.checked os 6 .any (Rows.voteCodesSpec.pre6 enc Try.prog Try.f6 Rows.voteCodesRow.domain false) (Rows.voteCodesSpec.post enc Try.prog Try.f6 false true false false) := by
  refine returnsInHanded_of_change_sized (C := Try.checked) own started (by kernel_rfl) Try.func6
    (ChangeSpec.witness6 (enc := enc) (C := Try.checked) false ⟨#[], #[.agg #[.int .i64 0, .int .i64 0], .slice none 0 0, .agg #[.int .i64 0, .int .i64 0, .int .i64 0, .int .i64 0]], []⟩ 8 (by kernel_rfl) (by kernel_rfl) (by kernel_rfl) (by kernel_rfl)) ?_
  intro W base args ds gs before hval0 hW hcnd hsz0 _
  have hsz : (DataW.weightsEach Try.prog (Try.f6.params.toList ++ Rows.voteCodesSpec.plain.varTypes Try.prog) (ds ++ gs)).all (· ≤ reachBytes) = true := hsz0
  have hval : ∀ (j : Nat) t v, Try.f6.params[j]? = some t → args[j]? = some v → Value.okWide Try.prog W .any base t v := hval0
  have hW' := hW
  obtain ⟨p, q, hA0, hV, rfl, hfz, hnd⟩ := hW
  have hA : DataW.TrodAll enc Try.prog W 0 (fun _ => true) true Try.f6.params.toList args.toList ds p := hA0
  rw [Try.params6] at hA hval hsz
  obtain ⟨v0, vs0, d0, ds0, p0, q0, hargs, rfl, rfl, h0, r0⟩ := trodAll_cons hA
  obtain ⟨v1, vs1, d1, ds1, p1, q1, rfl, rfl, rfl, h1, r1⟩ := trodAll_cons r0
  obtain ⟨v2, vs2, d2, ds2, p2, q2, rfl, rfl, rfl, h2, r2⟩ := trodAll_cons r1
  obtain ⟨rfl, rfl, rfl⟩ := trodAll_nil r2
  obtain rfl : args = #[v0, v1, v2] := by cases args; simp_all
  obtain ⟨rfl, rfl⟩ := trodVars_none hV
  have k0 := h0
  have lt0 : ∀ x ∈ p0, x.block < W.heap.size := by obtain ⟨m, hm⟩ := k0; exact DataW.trod_lt m _ _ _ hm
  obtain ⟨n0, hf0⟩ := h0
  obtain ⟨y0, K0, g0, m0⟩ := Pr.opn23.out H enc W n0 _ _ hf0 (Open.weights_at hsz (j := 0) (t := 23) rfl rfl)
  obtain ⟨cs0, rfl, _⟩ := okWide_struct Try.underlying23 (hval 0 23 v0 rfl rfl)
  have e0 := Pr.k23_open K0
  obtain rfl : cs0 = #[.int .i64 y0.f0, .int .i64 y0.f1] := by cases cs0; simp only [Value.cells] at e0; rw [e0]
  have k1 := h1
  have lt1 : ∀ x ∈ p1, x.block < W.heap.size := by obtain ⟨m, hm⟩ := k1; exact DataW.trod_lt m _ _ _ hm
  obtain ⟨n1, hf1⟩ := h1
  obtain ⟨y1, K1, g1, m1⟩ := (Open.opn_slice (B := 1) Try.underlying63 (by kernel_rfl) (by kernel_rfl) (Open.opn_int Try.underlying5 (by kernel_rfl))).out H enc W n1 _ _ hf1 (Open.weights_at hsz (j := 1) (t := 63) rfl rfl)
  obtain ⟨a1, len1, cap1, rfl⟩ := okWide_slice Try.underlying63 (hval 1 63 v1 rfl rfl)
  obtain ⟨A1, c1, e1, hc1, hr1⟩ := K1
  simp only [Value.cells, List.cons.injEq, Value.slice.injEq, and_true] at e1
  obtain ⟨rfl, rfl, rfl⟩ := e1
  have k2 := h2
  have lt2 : ∀ x ∈ p2, x.block < W.heap.size := by obtain ⟨m, hm⟩ := k2; exact DataW.trod_lt m _ _ _ hm
  obtain ⟨n2, hf2⟩ := h2
  obtain ⟨cs2, rfl⟩ := okWide_array Try.underlying64 (hval 2 64 v2 rfl rfl)
  obtain ⟨x0, x1, x2, x3, e2⟩ := marks_open hf2
  obtain rfl : cs2 = #[.int .i64 x0, .int .i64 x1, .int .i64 x2, .int .i64 x3] := by cases cs2; simp only [Value.cells] at e2; rw [e2]
  clear hA0 hval0 hsz0 hsz
  refine (Vote.codes_ok y0.f0 y0.f1 _ _ y1 x0 x1 x2 x3 W hr1 hc1 (fun x hx => by have := Go.bounds_u8 (g1.2.2 x hx); omega) (by have h := g1.2.1; unfold Open.reachN at h; omega)).mono fun e W' ⟨he, bel0⟩ => ?_
  have bel : Below W.heap.size W W' := bel0
  subst he
  exact ⟨_, rfl, _, _, _, [], _, [], hW', trodAll_mk1 (shut_bool Try.underlying4 _), (trodAll_cons_mk (Below.trod laidOut (by kernel_rfl) (of_decide_eq_true (by kernel_rfl)) k0 bel lt0) (trodAll_cons_mk (Below.trod laidOut (by kernel_rfl) (of_decide_eq_true (by kernel_rfl)) k1 bel lt1) (trodAll_cons_mk (Below.trod laidOut (by kernel_rfl) (of_decide_eq_true (by kernel_rfl)) k2 bel lt2) trodAll_mk0))), rfl, bel.frame _, fun h => by cases h⟩
theorem over : Rows.voteCodesRow.holds Try.pinned (OpenSpec.ofChange Rows.voteCodesSpec) :=
  OpenClaim.holds_of_wide 6 Try.f6 rfl rfl rfl rfl rfl rfl rfl ⟨rfl, rfl, rfl, rfl, rfl⟩ rfl rfl rfl rfl rfl (by kernel_rfl) Try.func6 (by kernel_rfl)
    (of_decide_eq_true (by kernel_rfl)) (by unfold Func.isWrapper; first | (rw [if_pos (by decide +kernel)]; kernel_rfl) | (rw [if_neg (by decide +kernel)]; exact ⟨rfl, rfl⟩))
    (fun os started H enc _ => lifted os started H enc)
theorem proved : Rows.VoteCodesSaid := over
#print axioms proved
end Go.Proofs.Ytjbddcaamefgaaa.voteCodes
namespace Go.Proofs.Ytjbddcaamefgaaa
/-- The row, under a short name, for the claim. -/
theorem voteCodes_holds : Rows.VoteCodesSaid := voteCodes.proved
end Go.Proofs.Ytjbddcaamefgaaa
