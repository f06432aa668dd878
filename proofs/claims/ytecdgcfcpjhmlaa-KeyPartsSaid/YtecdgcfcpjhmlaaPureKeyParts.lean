/- What stands between parts: all keys up to the one are less than it, the other one and all behind are not, and no shorter beginning does that: at all texts. -/
import Derived.Test.YtecdgcfcpjhmlaaPrx3
import Derived.Test.YtecdgcfcpjhmlaaPureBtw
namespace Go.Proofs.Ytecdgcfcpjhmlaa.Pure
open Go.RowKit Go.Proofs.Ytecdgcfcpjhmlaa.Pr Go.Proofs.YtecdgcfcpjhmlaaW.PrintWords Go.Proofs.YtecdgcfcpjhmlaaW.PrintLast

theorem KeyParts : latticelaw05_KeyParts.Pure := by
  intro a b ha hb
  refine Ev.rounds (g := fun k => latticelaw05_KeyParts.f k a b) ?_
  unfold latticelaw05_KeyParts.f
  have sp : Ev (fun n => (latticelaw05_speaks.f n).bind fun t => some t) true := Ev.bind speaks_ev (Ev.now _)
  by_cases h : cb (L a) (L b) < 0
  · refine Ev.bindc (keyBetween_lt a b ha hb h) (Ev.bind (cmp_ev a b ha) (Ev.neg (by omega) ?_))
    have hc := com_lt _ _ h
    rw [L_len] at hc
    generalize hcom : com (L a) (L b) = c at hc
    have hs := size_take b (c + 1) (by omega)
    have g1 := com_between (L a) (L b) (c + 1) h (by rw [L_len]; omega)
    have g2 := cb_take (L b) (c + 1)
    have g3 := com_between (L a) (L b) c h (by rw [L_len]; omega)
    refine Ev.pos rfl (Ev.bind (cmp_ev _ _ (by rw [hs]; omega)) ?_)
    rw [L_take]
    refine Ev.neg (by have := g1.2 (by omega); omega) ?_
    refine Ev.bind (cmp_ev _ _ (by rw [hs]; omega)) ?_
    rw [L_take]
    refine Ev.neg (by omega) ?_
    rw [hs]
    refine Ev.pos (by omega) (Ev.pos (by omega) ?_)
    refine Ev.step (fun _ => latticelaw05_KeyParts.j0.eq_2 _ _ _ _ _) ?_
    refine Ev.neg (by simp) ?_
    rw [hs]
    have e : wrap64 (((c + 1 : Nat) : Int) - 1) = (c : Int) := by rw [w64 (by omega) (by omega)]; omega
    rw [e]
    refine Ev.pos (by omega) (Ev.pos (by omega) ?_)
    rw [Int.toNat_natCast]
    refine Ev.bind (cmp_ev _ _ (by rw [size_take b c (by omega)]; omega)) ?_
    rw [L_take]
    exact Ev.pos (by have := fun e => g3.1 e; omega) sp
  · refine Ev.bindc (keyBetween_ge a b h) (Ev.bind (cmp_ev a b ha) (Ev.pos (by omega) ?_))
    exact Ev.pos rfl (Ev.pos (by rw [tl]) sp)

end Go.Proofs.Ytecdgcfcpjhmlaa.Pure
