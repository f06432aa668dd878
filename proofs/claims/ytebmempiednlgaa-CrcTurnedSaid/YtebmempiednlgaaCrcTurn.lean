/- The law of what was turned. -/
import Derived.Test.YtebmempiednlgaaCrcMix
namespace Go.Proofs.Ytebmempiednlgaa.Crc
open Go.RowKit Go.Proofs.YtebmempiednlgaaW.PrintWords Go.Proofs.YtebmempiednlgaaW.PrintLast Go.Proofs.YtebmempiednlgaaW.PrintMore Go.Proofs.Ytebmempiednlgaa.Wire
open Go.Proofs.Ytebmempiednlgaa.Back (AllB numB numB_small)
set_option linter.unusedVariables false
set_option linter.unusedSimpArgs false
theorem crcTn_add (a s : Nat) : ∀ b, crcTn (b + a) s = crcTn b (crcTn a s)
  | 0 => by rw [Nat.zero_add]; rfl
  | b + 1 => by
    rw [show b + 1 + a = (b + a) + 1 by omega]
    show crcT (crcTn (b + a) s) = crcT (crcTn b (crcTn a s))
    rw [crcTn_add a s b]
theorem crcT_zero : crcT 0 = 0 := by decide +kernel
theorem crcTn_zero : ∀ k, crcTn k 0 = 0
  | 0 => rfl
  | k + 1 => by rw [crcTn, crcTn_zero k, crcT_zero]
theorem crcT_ne {s : Nat} (h : s < 4294967296) (hz : crcT s = 0) : s = 0 := by
  unfold crcT at hz
  by_cases hp : s % 2 = 1
  · rw [if_pos hp] at hz
    have : s / 2 = 3988292384 := by
      have h2 := congrArg (· ^^^ 3988292384) hz
      simp only [Nat.xor_assoc, Nat.xor_self, Nat.xor_zero, Nat.zero_xor] at h2
      exact h2
    omega
  · rw [if_neg hp, Nat.xor_zero] at hz
    omega
theorem crcTn_ne {s : Nat} (h : s < 4294967296) : ∀ k, crcTn k s = 0 → s = 0
  | 0, hz => hz
  | k + 1, hz => crcTn_ne h k (crcT_ne (crcTn_lt h k) hz)
theorem crcT_even (s : Nat) : crcT (2 * s) = s := by
  unfold crcT
  rw [if_neg (by omega), Nat.xor_zero]
  omega
theorem crcTn_pow : ∀ (i m : Nat), crcTn (m + i) (2 ^ i) = crcTn m 1
  | 0, m => rfl
  | i + 1, m => by
    rw [show m + (i + 1) = (m + i) + 1 by omega, crcTn_add 1, Nat.pow_succ, Nat.mul_comm]
    show crcTn (m + i) (crcT (2 * 2 ^ i)) = _
    rw [crcT_even, crcTn_pow i m]
theorem crcTn8 (y : Nat) : crcTn 8 (256 * y) = y := by
  have e : 256 * y = 2 * (2 * (2 * (2 * (2 * (2 * (2 * (2 * y))))))) := by omega
  rw [e]
  simp only [crcTn, crcT_even]
theorem split256 (v : Nat) : v % 256 ^^^ 256 * (v / 256) = v := by
  apply Nat.eq_of_testBit_eq
  intro i
  rw [Nat.testBit_xor, show (256 : Nat) = 2 ^ 8 from rfl, Nat.testBit_mod_two_pow, Nat.testBit_two_pow_mul, Nat.testBit_div_two_pow]
  by_cases h : i < 8
  · simp [h, Nat.not_le.2 h]
  · have h2 : 8 ≤ i := by omega
    simp [h, h2, Nat.add_sub_cancel' h2, Nat.sub_add_cancel h2]
theorem crcS_le : ∀ (k s v : Nat), v < 256 ^ k → crcS s (le (v : Int) k) = crcTn (8 * k) (s ^^^ v)
  | 0, s, v, h => by
    have : v = 0 := by omega
    subst this
    show s = s ^^^ 0
    rw [Nat.xor_zero]
  | k + 1, s, v, h => by
    have e1 : ((v : Int) % 256).toNat = v % 256 := by omega
    have e2 : (v : Int) / 256 = ((v / 256 : Nat) : Int) := by omega
    rw [le]
    show crcS (crcB s ((v : Int) % 256).toNat) (le ((v : Int) / 256) k) = _
    rw [e1, e2, crcS_le k _ _ (by rw [Nat.pow_succ] at h; omega), show 8 * (k + 1) = 8 * k + 8 by omega, crcTn_add 8]
    congr 1
    unfold crcB
    conv => lhs; rhs; rw [← crcTn8 (v / 256)]
    rw [← crcTn_xor, Nat.xor_assoc, split256]
/-- every sealed row leaves the same -/
theorem crcS_sealed {xs : List Int} (hb : AllB xs) : crcS 4294967295 (xs ++ le (sumOf xs : Int) 4) = crcTn 32 4294967295 := by
  rw [crcS_append, crcS_le 4 _ _ (sum_lt hb)]
  unfold sumOf
  rw [← Nat.xor_assoc, Nat.xor_self, Nat.zero_xor]
theorem crcS_xor (e : Nat) : ∀ (l : List Int) (s : Nat), crcS (s ^^^ e) l = crcS s l ^^^ crcTn (8 * l.length) e
  | [], s => rfl
  | x :: l, s => by
    show crcS (crcB (s ^^^ e) x.toNat) l = crcS (crcB s x.toNat) l ^^^ _
    have h : crcB (s ^^^ e) x.toNat = crcB s x.toNat ^^^ crcTn 8 e := by
      unfold crcB
      rw [← crcTn_xor, Nat.xor_assoc, Nat.xor_assoc, Nat.xor_comm e]
    rw [h, crcS_xor _ l, List.length_cons, show 8 * (l.length + 1) = 8 * l.length + 8 by omega, crcTn_add 8 e (8 * l.length)]
theorem crcS_set (d : Nat) : ∀ (l : List Int) (q s : Nat), q < l.length → crcS s (l.set q (((l.getD q 0).toNat ^^^ d : Nat) : Int)) = crcS s l ^^^ crcTn (8 * (l.length - q)) d
  | [], q, s, h => by simp at h
  | x :: l, 0, s, _ => by
    show crcS (crcB s (((x.toNat ^^^ d : Nat) : Int)).toNat) l = crcS (crcB s x.toNat) l ^^^ _
    have h : crcB s (((x.toNat ^^^ d : Nat) : Int)).toNat = crcB s x.toNat ^^^ crcTn 8 d := by
      unfold crcB
      rw [Int.toNat_natCast, ← crcTn_xor, Nat.xor_assoc]
    rw [h, crcS_xor, List.length_cons, Nat.sub_zero, show 8 * (l.length + 1) = 8 * l.length + 8 by omega, crcTn_add 8 d (8 * l.length)]
  | x :: l, q + 1, s, h => by
    rw [List.length_cons] at h
    show crcS (crcB s x.toNat) (l.set q (((l.getD q 0).toNat ^^^ d : Nat) : Int)) = crcS (crcB s x.toNat) l ^^^ _
    rw [crcS_set d l q _ (by omega), List.length_cons, Nat.add_sub_add_right]
/-- one bit turned -/
def turnB (xs : List Int) (k : Nat) : List Int := xs.set (k / 8) (((xs.getD (k / 8) 0).toNat ^^^ 2 ^ (k % 8) : Nat) : Int)
theorem turnB_length (xs : List Int) (k : Nat) : (turnB xs k).length = xs.length := List.length_set
theorem pow8_lt (k : Nat) : 2 ^ (k % 8) < 256 := Nat.pow_lt_pow_right (a := 2) (n := 8) (by omega) (Nat.mod_lt _ (by omega))
theorem turnB_AllB {xs : List Int} (hb : AllB xs) (k : Nat) : AllB (turnB xs k) := by
  intro x hx
  rcases List.mem_or_eq_of_mem_set hx with h | h
  · exact hb x h
  · rw [h]
    have := xor_lt8 (getD_lt hb (k / 8)) (pow8_lt k)
    omega
theorem crcS_turnB {xs : List Int} {k : Nat} (h : k < 8 * xs.length) (s : Nat) : crcS s (turnB xs k) = crcS s xs ^^^ crcTn (8 * xs.length - k) 1 := by
  unfold turnB
  rw [crcS_set _ _ _ _ (by omega), show 8 * (xs.length - k / 8) = (8 * xs.length - k) + k % 8 by omega, crcTn_pow]
/-- the first i bits of the pattern p, from bit a on -/
def turnN (a p : Nat) (ys : List Int) : Nat → List Int
  | 0 => ys
  | i + 1 => if p / 2 ^ i % 2 = 1 then turnB (turnN a p ys i) (a + i) else turnN a p ys i
theorem turnN_length (a p : Nat) (ys : List Int) : ∀ i, (turnN a p ys i).length = ys.length
  | 0 => rfl
  | i + 1 => by
    rw [turnN]
    split
    · rw [turnB_length, turnN_length a p ys i]
    · exact turnN_length a p ys i
theorem turnN_AllB (a p : Nat) {ys : List Int} (hb : AllB ys) : ∀ i, AllB (turnN a p ys i)
  | 0 => hb
  | i + 1 => by
    rw [turnN]
    split
    · exact turnB_AllB (turnN_AllB a p hb i) _
    · exact turnN_AllB a p hb i
theorem mod_step (p i : Nat) : p % 2 ^ (i + 1) = p % 2 ^ i ^^^ (if p / 2 ^ i % 2 = 1 then 2 ^ i else 0) := by
  apply Nat.eq_of_testBit_eq
  intro j
  have hb : p.testBit i = decide (p / 2 ^ i % 2 = 1) := Nat.testBit_eq_decide_div_mod_eq
  rw [Nat.testBit_xor, Nat.testBit_mod_two_pow, Nat.testBit_mod_two_pow]
  by_cases h : p / 2 ^ i % 2 = 1
  · rw [if_pos h, Nat.testBit_two_pow]
    by_cases hj : i = j
    · subst hj
      simp [hb, h]
    · by_cases h1 : j < i
      · have h2 : j < i + 1 := by omega
        simp [h1, h2, hj]
      · have h2 : ¬ j < i + 1 := by omega
        simp [h1, h2, hj]
  · rw [if_neg h, Nat.zero_testBit]
    by_cases hj : i = j
    · subst hj
      simp [hb, h]
    · by_cases h1 : j < i
      · have h2 : j < i + 1 := by omega
        simp [h1, h2]
      · have h2 : ¬ j < i + 1 := by omega
        simp [h1, h2]
theorem crcS_turnN {a p : Nat} {ys : List Int} (s : Nat) (ha : a + 32 ≤ 8 * ys.length) : ∀ i, i ≤ 32 → crcS s (turnN a p ys i) = crcS s ys ^^^ crcTn (8 * ys.length - a) (p % 2 ^ i)
  | 0, _ => by
    rw [Nat.pow_zero, Nat.mod_one, crcTn_zero, Nat.xor_zero]
    rfl
  | i + 1, hi => by
    have ih := crcS_turnN (p := p) s ha i (by omega)
    rw [mod_step, turnN]
    by_cases h : p / 2 ^ i % 2 = 1
    · rw [if_pos h, if_pos h, crcS_turnB (by rw [turnN_length]; omega), ih, turnN_length, crcTn_xor, Nat.xor_assoc]
      congr 2
      have h2 := crcTn_pow i (8 * ys.length - (a + i))
      rw [show 8 * ys.length - (a + i) + i = 8 * ys.length - a by omega] at h2
      exact h2.symm
    · rw [if_neg h, if_neg h, Nat.xor_zero, ih]
/-- WHAT WAS TURNED IS FOUND. -/
theorem turned {a p : Nat} {xs : List Int} (hb : AllB xs) (hp : 0 < p) (hp2 : p < 4294967296) (ha : a + 32 ≤ 8 * (xs ++ le (sumOf xs : Int) 4).length) :
    opOf (turnN a p (xs ++ le (sumOf xs : Int) 4) 32) = ([], 20) := by
  have hres := crcS_sealed hb
  have hby := AllB_append hb (le_AllB 4 (sumOf xs : Int))
  have hyl : 4 ≤ (xs ++ le (sumOf xs : Int) 4).length := by rw [List.length_append, le_length]; omega
  generalize xs ++ le (sumOf xs : Int) 4 = ys at ha hres hby hyl ⊢
  have ht := crcS_turnN (p := p) 4294967295 ha 32 (by omega)
  have htb := turnN_AllB a p hby 32
  have htl := turnN_length a p ys 32
  rw [Nat.mod_eq_of_lt hp2] at ht
  generalize turnN a p ys 32 = zs at ht htb htl ⊢
  unfold opOf
  rw [if_neg (by omega), if_pos]
  intro h
  have hm : (zs.drop (zs.length - 4)).length = 4 := by rw [List.length_drop]; omega
  have htt : AllB (zs.take (zs.length - 4)) := fun y hy => htb y (List.mem_of_mem_take hy)
  have hd := (four_eq hm (fun y hy => htb y (List.mem_of_mem_drop hy)) (sum_lt htt)).1 h
  have hz := crcS_sealed htt
  rw [← hd, List.take_append_drop, ht, hres] at hz
  have hz2 : crcTn (8 * ys.length - a) p = 0 := by
    have h2 := congrArg (crcTn 32 4294967295 ^^^ ·) hz
    simp only [← Nat.xor_assoc, Nat.xor_self, Nat.zero_xor] at h2
    exact h2
  have := crcTn_ne hp2 _ hz2
  omega
theorem R_form {w : World} {base e : Nat} {ok : Nat → Prop} {v : Value} {xs : List Int} (h : Kd.R (Kd.int .u8) e w base ok v xs) (hp : 0 < xs.length) : ∃ g cap, v = .slice (some ⟨g, 0, none⟩) xs.length cap ∧ xs.length ≤ cap ∧ base ≤ g := by
  obtain ⟨A, c, hv, hc, hC⟩ := Kd.R_reads h
  obtain ⟨inner, ho⟩ := Kd.R_own h
  rcases ho.2 with ⟨_, h0⟩ | ⟨g, cap, cur, hv2, hg, _⟩
  · omega
  · rw [hv] at hv2
    injection hv2 with h1 h2 h3
    subst h1
    exact ⟨g, c, hv, hc, hg⟩
def TurnIn (w : World) (g n cap a p : Nat) (ys : List Int) (v9 : Value) (wr : World) : Prop :=
  ∃ i : Nat, i ≤ 32 ∧ v9 = .int .i64 i ∧ Aside0 (Kd.R (Kd.int .u8) 5 wr w.heap.size (fun _ => True) (.slice (some ⟨g, 0, none⟩) n cap) (turnN a p ys i)) ∧ Aside0 (Below w.heap.size w wr)
set_option maxRecDepth 100000 in
set_option maxHeartbeats 8000000 in
theorem turned_ok (A : Option Addr) (ca : Nat) (xs : List Int) (at_ pt : Int) (w : World) (hr : Kd.C (Kd.int .u8) w A xs.length xs) (hb : AllB xs) (hl : xs.length ≤ 140737488351232) :
    Calls Try.prog 6 #[.slice A xs.length ca, .int .i64 at_, .int .i64 pt] w fun e w' => e = .returned (.bool true) ∧ Below w.heap.size w w' := by
  have hse := seal_ok A ca xs w hr hb hl
  obtain ⟨ys, hys⟩ : ∃ ys, ys = xs ++ le (sumOf xs : Int) 4 := ⟨_, rfl⟩
  obtain ⟨n, hn⟩ : ∃ n, n = ys.length := ⟨_, rfl⟩
  have hnx : n = xs.length + 4 := by rw [hn, hys, List.length_append, le_length]
  have hyb : AllB ys := by rw [hys]; exact AllB_append hb (le_AllB _ _)
  have hbits : ∃ p : Nat, 0 < p ∧ p < 4294967296 ∧ ((((pt % 4294967296) == 0) = true ∧ p = 1) ∨ (((pt % 4294967296) == 0) = false ∧ pt % 4294967296 = (p : Int))) := by
    by_cases h : pt % 4294967296 = 0
    · exact ⟨1, by omega, by omega, .inl ⟨beq_iff_eq.mpr h, rfl⟩⟩
    · exact ⟨(pt % 4294967296).toNat, by omega, by omega, .inr ⟨beq_eq_false_iff_ne.mpr h, by omega⟩⟩
  obtain ⟨p, hp0, hp2, hp⟩ := hbits
  have hatp : ∃ a : Nat, a + 32 ≤ 8 * n ∧ ((decide (at_ < 0) = true ∧ a = 0) ∨ (decide (at_ < 0) = false ∧ decide (at_ > 8 * (n : Int) - 32) = true ∧ a = 0) ∨ (decide (at_ < 0) = false ∧ decide (at_ > 8 * (n : Int) - 32) = false ∧ at_ = (a : Int))) := by
    by_cases h : at_ < 0
    · exact ⟨0, by omega, .inl ⟨decide_eq_true h, rfl⟩⟩
    · by_cases h2 : at_ > 8 * (n : Int) - 32
      · exact ⟨0, by omega, .inr (.inl ⟨decide_eq_false h, decide_eq_true h2, rfl⟩)⟩
      · exact ⟨at_.toNat, by omega, .inr (.inr ⟨decide_eq_false h, decide_eq_false h2, by omega⟩)⟩
  obtain ⟨a, ha, hat⟩ := hatp
  have hop : opOf (turnN a p ys 32) = ([], 20) := by
    rw [hys]
    rw [hn, hys] at ha
    exact turned hb hp0 hp2 ha
  rw [← hys] at hse
  have hopn := fun (D : Option Addr) (d : Nat) W (h : Kd.C (Kd.int .u8) W D n (turnN a p ys 32)) (hc : n ≤ d) => open_ok D d (turnN a p ys 32) W (by rw [turnN_length, ← hn]; exact h) (by rw [turnN_length, ← hn]; exact hc) (turnN_AllB a p hyb 32) (by rw [turnN_length, ← hn]; omega)
  rw [hop, turnN_length, ← hn] at hopn
  have hw1 : IntKind.i64.wrap ((xs.length : Int) + 4) = (n : Int) := by rw [IntKind.wrap_i64]; omega
  have hw2 : IntKind.i64.wrap (8 * (n : Int)) = 8 * (n : Int) := by rw [IntKind.wrap_i64]; omega
  have hw3 : IntKind.i64.wrap (8 * (n : Int) - 32) = 8 * (n : Int) - 32 := by rw [IntKind.wrap_i64]; omega
  have HOPN := Aside0.mk hopn
  have HN := Aside0.mk hn
  have HNX := Aside0.mk hnx
  have HYB := Aside0.mk hyb
  have HP0 := Aside0.mk hp0
  have HP2 := Aside0.mk hp2
  have HA := Aside0.mk ha
  have HL := Aside0.mk hl
  clear hr hb hop hopn hn hnx hyb hp0 hp2 ha hl hys
  go_enter Try.func6, Try.ntmps6
  go_upto_if 24 with (go_at_call 15; refine hse.mono ?_; rintro e w2 ⟨u, rfl, hR, hB⟩; obtain ⟨g, cap, rfl, hcap, hg⟩ := R_form hR (by rw [← HN.out]; have := HNX.out; omega); rw [← HN.out] at hcap; rw [← HN.out] at hR; rw [← HN.out]; (have HR := Aside0.mk hR); (have HB := Aside0.mk hB); (have HCAP := Aside0.mk hcap); (have HG := Aside0.mk hg); clear hR hB hcap hg hse)
  go_cut [8] (fun v8 wx => v8 = .int .u32 (p : Int) ∧ w2 = wx)
  case first =>
    rcases hp with ⟨d1, rfl⟩ | ⟨d1, hpe⟩
    · go_wp2
      go_meet
      exact ⟨rfl, rfl⟩
    · go_wp2
      go_meet
      case rel => exact ⟨by rw [hpe], rfl⟩
  case rest =>
    obtain ⟨rfl, rfl⟩ := hcut
    have hb34 : ∃ b34 : Bool, (decide (at_ < 0) || decide (at_ > 8 * (n : Int) - 32)) = b34 ∧ ((b34 = true ∧ a = 0) ∨ (b34 = false ∧ at_ = (a : Int))) := by
      rcases hat with ⟨d1, rfl⟩ | ⟨d1, d2, rfl⟩ | ⟨d1, d2, rfl⟩
      · exact ⟨true, by rw [d1]; rfl, .inl ⟨rfl, rfl⟩⟩
      · exact ⟨true, by rw [d1, d2]; rfl, .inl ⟨rfl, rfl⟩⟩
      · exact ⟨false, by rw [d1, d2]; rfl, .inr ⟨rfl, rfl⟩⟩
    obtain ⟨b34, hb34, hb⟩ := hb34
    have hd : (decide (at_ < 0) = true ∧ b34 = true) ∨ (decide (at_ < 0) = false ∧ decide (at_ > 8 * (n : Int) - 32) = b34) := by
      rcases h : decide (at_ < 0) with _ | _
      · rw [h, Bool.false_or] at hb34
        exact .inr ⟨rfl, hb34⟩
      · rw [h, Bool.true_or] at hb34
        exact .inl ⟨rfl, hb34.symm⟩
    have HBB := Aside0.mk hb
    clear hat hb34 hb
    go_upto_region 7 with (fail)
    go_cut [34] from 25 to 33 (fun v34 wx => v34 = .bool b34 ∧ w2 = wx)
    case first =>
      rcases hd with ⟨d1, d2⟩ | ⟨d1, d2⟩
      · subst d2
        go_wp2
        go_meet
        exact ⟨rfl, rfl⟩
      · go_wp2
        go_meet
        exact ⟨rfl, rfl⟩
    case rest =>
    obtain ⟨rfl, rfl⟩ := hcut
    clear hd
    go_upto_if 34 with (fail)
    go_cut [1] (fun v1 wx => v1 = .int .i64 (a : Int) ∧ w2 = wx)
    case first =>
      rcases HBB.out with ⟨rfl, rfl⟩ | ⟨rfl, rfl⟩
      · go_wp2
        go_meet
        exact ⟨rfl, rfl⟩
      · go_wp2
        go_meet
        exact ⟨rfl, rfl⟩
    case rest =>
      obtain ⟨rfl, rfl⟩ := hcut
      clear HBB hp hw1 hw2 hw3
      go_wp2
      go_loopw [9] (fun v9 wr => TurnIn w g n cap a p ys v9 wr) (fun v9 _ => 32 - (intOf v9).toNat)
      case atStart => exact ⟨0, by omega, rfl, HR, HB⟩
      case round =>
        obtain ⟨i, hi, rfl, HRi, HBi⟩ := hrel
        by_cases hlt : i < 32
        · have hltI : (i : Int) < 32 := by omega
          have hi0 : (0 : Int) ≤ (i : Int) := by omega
          have e4 : IntKind.u64.wrap (i : Int) = i := by show (i : Int) % 18446744073709551616 = i; omega
          have hsb := shr_byte p i
          have hxl : p / 2 ^ i < 4294967296 := Nat.lt_of_le_of_lt (Nat.div_le_self _ _) HP2.out
          have h1 := and1 hxl
          have hst : turnN a p ys (i + 1) = if p / 2 ^ i % 2 = 1 then turnB (turnN a p ys i) (a + i) else turnN a p ys i := rfl
          have htl := turnN_length a p ys i
          have htb := turnN_AllB a p HYB.out i
          by_cases hp : p / 2 ^ i % 2 = 1
          · rw [if_pos hp] at hst
            rw [hp] at h1
            generalize p / 2 ^ i = b at hsb h1 hp hxl
            obtain ⟨kk, hkk⟩ : ∃ kk, kk = a + i := ⟨_, rfl⟩
            rw [← hkk] at hst
            have hkn : kk < 8 * n := by have := HA.out; omega
            have hq : kk / 8 < n := by omega
            obtain ⟨x, hx, hx2⟩ := byte_get (k := kk / 8) htb (by rw [htl, ← HN.out]; exact hq)
            have hwk : IntKind.i64.wrap ((a : Int) + (i : Int)) = (kk : Int) := by rw [IntKind.wrap_i64]; have := HNX.out; have := HL.out; omega
            obtain ⟨hcell, hfree⟩ := Kd.R_celln (0 : Int) HRi.out ((kk / 8 : Nat) : Int) (by omega) (by omega)
            have hrd : rdOf (0 : Int) (turnN a p ys i) ((kk / 8 : Nat) : Int) = (x : Int) := by
              rw [← hx]
              unfold rdOf
              rw [Int.toNat_natCast]
            rw [hrd, Int.toNat_natCast] at hcell
            rw [Int.toNat_natCast] at hfree
            have hd8 : (kk : Int) / 8 = ((kk / 8 : Nat) : Int) := by omega
            have hm8 : (kk : Int) % 8 = ((kk % 8 : Nat) : Int) := by omega
            have hxr := u8_xor_nat x (2 ^ (kk % 8)) hx2 (pow8_lt kk)
            have hq0 : (0 : Int) ≤ ((kk / 8 : Nat) : Int) := by omega
            have hqn : ((kk / 8 : Nat) : Int) < (n : Int) := by omega
            have hr0 : (0 : Int) ≤ ((kk % 8 : Nat) : Int) := by omega
            have hr8 : ((kk % 8 : Nat) : Int) < 8 := by omega
            have hk0 : (0 : Int) ≤ (kk : Int) := by omega
            have hkm : (kk : Int) < 1125899906842624 := by have := HNX.out; have := HL.out; omega
            have htn : turnB (turnN a p ys i) kk = (turnN a p ys i).set (kk / 8) ((x ^^^ 2 ^ (kk % 8) : Nat) : Int) := by
              unfold turnB
              rw [hx, Int.toNat_natCast]
            rw [htn] at hst
            have hput := Kd.R_putg HRi.out ((kk / 8 : Nat) : Int) ((x ^^^ 2 ^ (kk % 8) : Nat) : Int)
            rw [Int.toNat_natCast, ← hst] at hput
            have HPUT := Aside0.mk hput
            have hpw : ((2 ^ (kk % 8) : Nat) : Int) = (2 : Int) ^ (kk % 8) := by rw [Int.natCast_pow]; rfl
            have hpl := pow8_lt kk
            have hpm : (2 : Int) ^ (kk % 8) % 256 = ((2 ^ (kk % 8) : Nat) : Int) := by
              rw [← hpw]
              clear hpw hxr hput
              generalize 2 ^ (kk % 8) = P at hpl
              omega
            have hval : bits .xor .u8 (x : Int) ((2 : Int) ^ (kk % 8) % 256) = ((x ^^^ 2 ^ (kk % 8) : Nat) : Int) := by rw [hpm, hxr]
            have HVAL := Aside0.mk hval
            clear hput htn hst hrd hx htl htb hkk hkn hq hp hd8 hm8 hpw hpl hpm hval hxr
            go_wp2
            go_roundw
            case rel =>
              rw [HVAL.out]
              exact ⟨i + 1, by omega, by go_num, ⟨HPUT.out.1⟩, ⟨pw_below_grown HBi.out _ HBi.out.size HPUT.out.2 (fun k e => by injection e with e; rw [← e]; exact HG.out)⟩⟩
            case measure => simp [intOf]; omega
          · have hp0 : p / 2 ^ i % 2 = 0 := by omega
            rw [if_neg hp] at hst
            rw [hp0] at h1
            rw [← hst] at HRi
            generalize p / 2 ^ i = b at hsb h1 hp hp0 hxl
            clear hp hp0 hst htl htb
            go_wp2
            go_roundw
            case rel => exact ⟨i + 1, by omega, by go_num, HRi, HBi⟩
            case measure => simp [intOf]; omega
        · have hltI : ¬ (i : Int) < 32 := by omega
          obtain rfl : i = 32 := by omega
          obtain ⟨A9, c9, he, _, hC9⟩ := Kd.R_reads HRi.out
          rw [turnN_length, ← HN.out] at he hC9
          injection he with he1 he2 he3
          subst he1 he3
          have hop := HOPN.out _ _ wr hC9 HCAP.out
          have HBI := Aside0.mk HBi.out
          clear hC9 he2
          go_wp2_with (first
            | (go_at_call 13; refine hop.mono ?_; rintro e w5 ⟨u5, rfl, hR5, hB5⟩; obtain ⟨A5, c5, rfl, _, _⟩ := Kd.R_reads hR5; (have HB5 := Aside0.mk (below_from HBI.out (Nat.le_refl _) hB5)); clear hR5 hB5 hop)
            | (go_at_call 12; refine (speaks_ok _).mono ?_; rintro e w8 ⟨rfl, hB8⟩; (have HB8 := Aside0.mk (below_from HB5.out (Nat.le_refl _) hB8)); clear hB8))
          go_ret
          exact ⟨rfl, HB8.out⟩
end Go.Proofs.Ytebmempiednlgaa.Crc
