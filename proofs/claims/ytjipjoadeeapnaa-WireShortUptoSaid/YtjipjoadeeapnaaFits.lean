/- The plain tests of latticeref01. -/
import Derived.Test.YtjipjoadeeapnaaRefRd
import Derived.Test.YtjipjoadeeapnaaFrom
namespace Go.Proofs.Ytjipjoadeeapnaa.Wire
open Go.RowKit Go.Proofs.YtjipjoadeeapnaaW.PrintWords Go.Proofs.YtjipjoadeeapnaaW.PrintLast Go.Proofs.YtjipjoadeeapnaaW.PrintMore
set_option linter.unusedVariables false
set_option linter.unusedSimpArgs false
set_option maxHeartbeats 2000000 in
/-- the document's own test -/
theorem fits_any (n size : Int) (w : World) (hn : n < 9223372036854775808) : Calls Try.prog 13 #[.int .i64 n, .int .i64 size] w fun e w' => e = .returned (.bool (numOk n size)) ∧ Drawn0 w w' := by
  have hsz := fun W => sized_ref size W
  by_cases h0 : n < 0
  · rw [show numOk n size = false by unfold numOk; rw [decide_eq_false (by omega)]; rfl]
    have d0 : decide (n < 0) = true := decide_eq_true h0
    clear hsz
    go_enter Try.func13, Try.ntmps13
    go_wp2
    repeat (go_quiet (fail); try go_wp2)
    go_ret
    exact ⟨rfl, by repeat (first | exact Drawn0.refl _ | apply Drawn0.step)⟩
  have d0 : decide (n < 0) = false := decide_eq_false h0
  have e0 : numOk n size = decide (n < numTop size) := by unfold numOk; rw [decide_eq_true (by omega), Bool.true_and]
  rw [e0]
  clear e0
  by_cases h1 : size = 1
  · subst h1
    rw [show numTop 1 = 256 from rfl]
    rw [show decide (n < 256) = decide (n ≤ 255) by simp only [decide_eq_decide]; omega]
    rw [show sizedB 1 = true from rfl] at hsz
    go_enter Try.func13, Try.ntmps13
    go_wp2
    repeat (first | (go_quiet ((go_at_call 25; exact Calls.quiet_of_same (hsz _))); try go_wp2) | (go_at_call 25; refine (hsz _).mono ?_; rintro e w' ⟨rfl, ⟨nd, rfl⟩⟩; try go_wp2))
    go_ret
    exact ⟨rfl, by repeat (first | exact Drawn0.refl _ | apply Drawn0.step)⟩
  by_cases h2 : size = 2
  · subst h2
    rw [show numTop 2 = 65536 from rfl]
    rw [show decide (n < 65536) = decide (n ≤ 65535) by simp only [decide_eq_decide]; omega]
    rw [show sizedB 2 = true from rfl] at hsz
    go_enter Try.func13, Try.ntmps13
    go_wp2
    repeat (first | (go_quiet ((go_at_call 25; exact Calls.quiet_of_same (hsz _))); try go_wp2) | (go_at_call 25; refine (hsz _).mono ?_; rintro e w' ⟨rfl, ⟨nd, rfl⟩⟩; try go_wp2))
    go_ret
    exact ⟨rfl, by repeat (first | exact Drawn0.refl _ | apply Drawn0.step)⟩
  by_cases h4 : size = 4
  · subst h4
    rw [show numTop 4 = 4294967296 from rfl]
    rw [show decide (n < 4294967296) = decide (n ≤ 4294967295) by simp only [decide_eq_decide]; omega]
    rw [show sizedB 4 = true from rfl] at hsz
    go_enter Try.func13, Try.ntmps13
    go_wp2
    repeat (first | (go_quiet ((go_at_call 25; exact Calls.quiet_of_same (hsz _))); try go_wp2) | (go_at_call 25; refine (hsz _).mono ?_; rintro e w' ⟨rfl, ⟨nd, rfl⟩⟩; try go_wp2))
    go_ret
    exact ⟨rfl, by repeat (first | exact Drawn0.refl _ | apply Drawn0.step)⟩
  by_cases h8 : size = 8
  · subst h8
    rw [show numTop 8 = 9223372036854775808 from rfl, decide_eq_true hn]
    rw [show sizedB 8 = true from rfl] at hsz
    go_enter Try.func13, Try.ntmps13
    go_wp2
    repeat (first | (go_quiet ((go_at_call 25; exact Calls.quiet_of_same (hsz _))); try go_wp2) | (go_at_call 25; refine (hsz _).mono ?_; rintro e w' ⟨rfl, ⟨nd, rfl⟩⟩; try go_wp2))
    go_ret
    exact ⟨rfl, by repeat (first | exact Drawn0.refl _ | apply Drawn0.step)⟩
  have c1 : (size == 1) = false := beq_eq_false_iff_ne.mpr h1
  have c2 : (size == 2) = false := beq_eq_false_iff_ne.mpr h2
  have c4 : (size == 4) = false := beq_eq_false_iff_ne.mpr h4
  have c8 : (size == 8) = false := beq_eq_false_iff_ne.mpr h8
  rw [show numTop size = 0 by unfold numTop; rw [if_neg h1, if_neg h2, if_neg h4, if_neg h8], decide_eq_false (by omega)]
  rw [sizedB_no (by omega)] at hsz
  clear h1 h2 h4 h8
  go_enter Try.func13, Try.ntmps13
  go_wp2
  go_ret
  exact ⟨rfl, by repeat (first | exact Drawn0.refl _ | apply Drawn0.step)⟩
end Go.Proofs.Ytjipjoadeeapnaa.Wire
