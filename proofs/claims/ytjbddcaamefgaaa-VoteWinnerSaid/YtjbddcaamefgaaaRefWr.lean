/- The document's own bytes of a number and of a text. -/
import Derived.Test.YtjbddcaamefgaaaWire
namespace Go.Proofs.Ytjbddcaamefgaaa.Wire
open Go.RowKit Go.Proofs.YtjbddcaamefgaaaW.PrintWords Go.Proofs.YtjbddcaamefgaaaW.PrintLast Go.Proofs.YtjbddcaamefgaaaW.PrintMore
set_option linter.unusedVariables false
set_option linter.unusedSimpArgs false
set_option maxRecDepth 100000 in
set_option maxHeartbeats 4000000 in
theorem refnum_ok (n : Int) (s : Nat) (w : World) (h0 : 0 ≤ n) (hN : n < 9223372036854775808) (hs : s ≤ 8) :
    Calls Try.prog 37 #[.int .i64 n, .int .i64 (s : Int)] w fun e w' => ∃ u, e = .returned u ∧ Kd.R (Kd.int .u8) 5 w' w.heap.size (fun _ => True) u (le n s) ∧ Below w.heap.size w w' := by
  go_enter Try.func37, Try.ntmps37
  go_wp2
  go_loopw [0, 5, 6] (fun v0 v5 v6 wr => ∃ i : Nat, i ≤ s ∧ v6 = .int .i64 i ∧ v0 = .int .i64 (n / 256 ^ i) ∧ Aside0 (Kd.R (Kd.int .u8) 5 wr w.heap.size (fun _ => True) v5 (le n i)) ∧ Aside0 (Below w.heap.size w wr)) (fun _ _ v6 _ => s - (intOf v6).toNat)
  case atStart => exact ⟨0, Nat.zero_le _, rfl, by simp, ⟨Kd.R_nil _ _ _ _ _⟩, ⟨Below.refl _ _⟩⟩
  case round =>
    obtain ⟨i, hi, rfl, rfl, HR, HB⟩ := hrel
    obtain ⟨m, hm⟩ : ∃ m, n / 256 ^ i = m := ⟨_, rfl⟩
    have hm0 : 0 ≤ m := by rw [← hm]; exact Int.ediv_nonneg h0 (Int.pow_nonneg (by omega))
    have hmN : m < 9223372036854775808 := by rw [← hm]; exact Int.lt_of_le_of_lt (Int.ediv_le_self _ h0) hN
    rw [hm]
    have HM := Aside0.mk hm
    clear hm
    have hlen := le_length n i
    have HLEN := Aside0.mk hlen
    clear hlen
    have HH := Aside0.mk h0
    obtain ⟨A, c, rfl⟩ := Kd.R_slice HR.out
    by_cases hlt : i < s
    · have hltz : (i : Int) < s := by omega
      have t1 : m.tmod 256 = m % 256 := Int.tmod_eq_emod_of_nonneg hm0
      have t2 : m.tdiv 256 = m / 256 := Int.tdiv_eq_ediv_of_nonneg hm0
      have t3 : IntKind.u8.wrap (m % 256) = m % 256 := by
        show (m % 256) % 256 = m % 256
        omega
      go_wp2_with ((with_reducible refine gate_builtin (b := .append) (xs := #[.tmp 12, .tmp 16]) rfl ?_); at_builtin; refine Kd.R_append (Kd.int .u8) (w0 := w) w.heap.size rfl (.tmp 12) (.tmp 16) 63 5 (.int .u8 0) 1 rfl Try.underlying63 info8 rfl (by decide) (by omega) (.slice A (le n i).length c) (le n i) (m % 256) [.int .u8 (m % 256)] (fun _ => True) (fun _ => False) rfl rfl ?aP (fun _ hk => hk.elim) ?aF ?aO ?aB ?aS ?aL ?_; (case aP => exact rfl); (case aB => exact HB.out); (case aF => exact (fun _ _ => trivial)); (case aO => exact HR.out); (case aS => exact HB.out.size); (case aL => (have := HLEN.out; omega)); intro v1 w1 ho hbel hg hat; (have HO := Aside0.mk ho); (have HBEL := Aside0.mk hbel); clear ho hbel hg hat)
      go_roundw
      case rel =>
        refine ⟨i + 1, by omega, by go_num, ?_, ⟨?_⟩, HBEL⟩
        · rw [← HM.out, Int.ediv_ediv_of_nonneg (Int.pow_nonneg (by omega)), Int.pow_succ]
        · rw [le_succ, HM.out]; exact HO.out
      case measure => simp [intOf]; omega
    · have hltz : ¬ (i : Int) < s := by omega
      obtain rfl : i = s := by omega
      go_wp2
      go_ret
      exact ⟨_, rfl, HR.out, HB.out⟩
end Go.Proofs.Ytjbddcaamefgaaa.Wire
