/- What the laws of layer 22 ask first; and the law VoteNil. -/
import Derived.Test.YtjbddcaamefgaaaVoteTal
namespace Go.Proofs.Ytjbddcaamefgaaa.Vote
open Go.RowKit Go.Proofs.YtjbddcaamefgaaaW.PrintWords Go.Proofs.YtjbddcaamefgaaaW.PrintLast Go.Proofs.YtjbddcaamefgaaaW.PrintMore Go.Proofs.Ytjbddcaamefgaaa.Wire
set_option linter.unusedVariables false
set_option linter.unusedSimpArgs false
set_option maxRecDepth 100000 in
set_option maxHeartbeats 4000000 in
theorem speaks_ok (w : World) : Calls Try.prog 10 #[] w fun r w' => r = .returned (.bool true) ∧ Below w.heap.size w w' := by
  have h1 := new_ok 3 (-1) w (by decide)
  have h2 := fun W => count_ok 3 1 4 (by omega) (by omega) (by decide) W
  have h3 := fun g W (h : VotAt 78 W g 3 (-1)) => ask_ok g 3 (-1) 1 4 2 9 2 8 W h
  have h4 := fun g W (h : VotAt 78 W g 4 1) => ask_ok g 4 1 2 4 2 9 2 8 W h
  have h5 := fun g W (h : TalAt W g 3 4 2) => won_ok g 3 2 4 (by omega) (by decide) W h
  have h6 := fun g W (h : TalAt W g 3 4 2) => tvote_ok g 3 2 0 4 (by omega) (by decide) (by omega) W h
  have h7 := fun g W (h : TalAt W g 3 4 3) => won_ok g 3 3 4 (by omega) (by decide) W h
  have h8 := fun g W (h : VotAt 78 W g 4 1) => promise_ok g 4 1 W h
  have h9 := fun g W (h : TalAt W g 3 4 3) => tepoch_ok g 3 4 3 W h
  rw [show newer 2 9 2 8 = true by decide, show askF 3 (-1) 1 4 true = (true, 4, 1) by decide] at h3
  rw [show newer 2 9 2 8 = true by decide, show askF 4 1 2 4 true = (false, 4, 1) by decide] at h4
  rw [show decide (3 / 2 < pop 2) = false by decide +kernel] at h5
  rw [show decide (3 / 2 < pop 3) = true by decide +kernel] at h7
  have H2 := Aside0.mk h2
  have H3 := Aside0.mk h3
  have H4 := Aside0.mk h4
  have H5 := Aside0.mk h5
  have H6 := Aside0.mk h6
  have H7 := Aside0.mk h7
  have H8 := Aside0.mk h8
  have H9 := Aside0.mk h9
  clear h2 h3 h4 h5 h6 h7 h8 h9
  go_enter Try.func10, Try.ntmps10
  go_wp2_with (first
    | (go_at_call 8; refine h1.mono ?_; rintro r w1 ⟨g1, rfl, hg1, hV1, hB1⟩; (have HB1 := Aside0.mk hB1); (have HV1 := Aside0.mk hV1); (have HG1 := Aside0.mk hg1); (have h2 := H2.out w1); clear hB1 hV1 hg1 h1)
    | (go_at_call 18; refine h2.mono ?_; rintro r w2 ⟨g2, rfl, hg2, hT2, hB2⟩; (have HB2 := Aside0.mk (below_from HB1.out (Nat.le_refl _) hB2)); (have HT2 := Aside0.mk (show TalAt w2 g2 3 4 2 from hT2)); (have HG2 := Aside0.mk (Nat.le_trans HB1.out.size hg2)); (have hne : ¬ g2 = g1 := fun q => by have := blk_lt HV1.out; omega); (have HNE := Aside0.mk hne); clear hne; (have hV2 := HV1.out.below hB2); (have h3 := H3.out g1 w2 hV2); clear hB2 hT2 hg2 h2 hV2)
    | (go_at_call 11; refine h3.mono ?_; rintro r w3 ⟨rfl, hV3, hC3⟩; (have HB3 := Aside0.mk (HB2.out.trans (hC3.below HB2.out.size (fun k hk => by rw [show k = g1 from hk]; exact HG1.out)))); (have HT3 := Aside0.mk (HT2.out.chg hC3 (fun q => HNE.out q))); (have h4 := H4.out g1 w3 hV3); clear hV3 hC3 h3)
    | (go_at_call 11; refine h4.mono ?_; rintro r w4 ⟨rfl, hV4, hC4⟩; (have HB4 := Aside0.mk (HB3.out.trans (hC4.below HB3.out.size (fun k hk => by rw [show k = g1 from hk]; exact HG1.out)))); (have HT4 := Aside0.mk (HT3.out.chg hC4 (fun q => HNE.out q))); (have HV4 := Aside0.mk hV4); (have h5 := H5.out g2 w4 HT4.out); clear hV4 hC4 h4)
    | (go_at_call 21; refine h5.mono ?_; rintro r w5 ⟨rfl, hB5⟩; (have HB5 := Aside0.mk (below_from HB4.out (Nat.le_refl _) hB5)); (have HT5 := Aside0.mk (HT4.out.below hB5)); (have HV5 := Aside0.mk (HV4.out.below hB5)); (have h6 := H6.out g2 w5 HT5.out); clear hB5 h5)
    | (go_at_call 20; refine h6.mono ?_; rintro r w6 ⟨rfl, hT6, hC6⟩; (have HB6 := Aside0.mk (HB5.out.trans (hC6.below HB5.out.size (fun k hk => by rw [show k = g2 from hk]; exact HG2.out)))); (have HV6 := Aside0.mk (HV5.out.chg hC6 (fun q => HNE.out q.symm))); (have HT6 := Aside0.mk (show TalAt w6 g2 3 4 3 from hT6)); (have h7 := H7.out g2 w6 HT6.out); clear hT6 hC6 h6)
    | (go_at_call 21; refine h7.mono ?_; rintro r w7 ⟨rfl, hB7⟩; (have HB7 := Aside0.mk (below_from HB6.out (Nat.le_refl _) hB7)); (have HT7 := Aside0.mk (HT6.out.below hB7)); (have h8 := H8.out g1 w7 (HV6.out.below hB7)); clear hB7 h7)
    | (go_at_call 17; refine h8.mono ?_; rintro r w8 ⟨rfl, hB8⟩; (have HB8 := Aside0.mk (below_from HB7.out (Nat.le_refl _) hB8)); (have h9 := H9.out g2 w8 (HT7.out.below hB8)); clear hB8 h8)
    | (go_at_call 19; refine h9.mono ?_; rintro r w9 ⟨rfl, rfl⟩))
  go_ret
  exact ⟨rfl, HB8.out⟩
set_option maxRecDepth 100000 in
set_option maxHeartbeats 4000000 in
theorem nil_ok (a b : Int) (w : World) : Calls Try.prog 5 #[.int .i64 a, .int .i64 b] w fun r w' => r = .returned (.bool true) ∧ Below w.heap.size w w' := by
  have h1 := fun W => stand_nil a W
  have h2 := fun W => ask_nil a b 0 0 0 0 W
  have h3 := fun W => see_nil b W
  have h4 := fun W => promise_nil W
  have h5 := fun W => tvote_nil a b W
  have hd : ∃ x : Int, (if okN a = true then (7 : Int) else 1) = x ∧ ((x = 1 ∧ (decide (a < 0) = true ∨ (decide (a < 0) = false ∧ decide (a > 6) = true))) ∨ (x = 7 ∧ decide (a < 0) = false ∧ decide (a > 6) = false)) := by
    refine ⟨_, rfl, ?_⟩
    by_cases h1 : a < 0
    · rw [if_neg (fun h => by have := okN_iff.1 h; omega)]
      exact .inl ⟨rfl, .inl (decide_eq_true h1)⟩
    · by_cases h2 : a > 6
      · rw [if_neg (fun h => by have := okN_iff.1 h; omega)]
        exact .inl ⟨rfl, .inr ⟨decide_eq_false h1, decide_eq_true h2⟩⟩
      · rw [if_pos (okN_iff.2 ⟨by omega, by omega⟩)]
        exact .inr ⟨rfl, decide_eq_false h1, decide_eq_false h2⟩
  obtain ⟨x, hx, hd⟩ := hd
  rw [hx] at h1
  clear hx
  rcases hd with ⟨rfl, d1 | ⟨d1, d2⟩⟩ | ⟨rfl, d1, d2⟩
  all_goals
    go_enter Try.func5, Try.ntmps5
    go_wp2_with (first
      | (go_at_call 15; refine (h1 _).mono ?_; rintro r w' ⟨rfl, rfl⟩)
      | (go_at_call 11; refine (h2 _).mono ?_; rintro r w2 ⟨rfl, hB2⟩; (have HB2 := Aside0.mk hB2); clear hB2)
      | (go_at_call 13; refine (h3 _).mono ?_; rintro r w' ⟨rfl, rfl⟩)
      | (go_at_call 17; refine (h4 _).mono ?_; rintro r w4 ⟨rfl, hB4⟩; (have HB4 := Aside0.mk (below_from HB2.out (Nat.le_refl _) hB4)); clear hB4)
      | (go_at_call 20; refine (h5 _).mono ?_; rintro r w' ⟨rfl, rfl⟩)
      | (go_at_call 21; refine (won_nil _).mono ?_; rintro r w' ⟨rfl, rfl⟩)
      | (go_at_call 19; refine (tepoch_nil _).mono ?_; rintro r w' ⟨rfl, rfl⟩)
      | (go_at_call 10; refine (speaks_ok _).mono ?_; rintro r w8 ⟨rfl, hB8⟩; (have HB8 := Aside0.mk (below_from HB4.out (Nat.le_refl _) hB8)); clear hB8))
    go_ret
    exact ⟨rfl, HB8.out⟩
end Go.Proofs.Ytjbddcaamefgaaa.Vote
