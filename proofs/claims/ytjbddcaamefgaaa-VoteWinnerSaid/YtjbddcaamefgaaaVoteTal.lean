/- The contracts of tallies and of package quorum. -/
import Derived.Test.YtjbddcaamefgaaaVoteRef
import Derived.Laws.BitsAllLaws
namespace Go.Proofs.Ytjbddcaamefgaaa.Vote
open Go.RowKit Go.Proofs.YtjbddcaamefgaaaW.PrintWords Go.Proofs.YtjbddcaamefgaaaW.PrintLast Go.Proofs.YtjbddcaamefgaaaW.PrintMore Go.Proofs.Ytjbddcaamefgaaa.Wire
set_option linter.unusedVariables false
set_option linter.unusedSimpArgs false
/-- how many bits are set, as the library reckons it -/
def pop1 (x : Nat) : Nat := (x / 2 &&& 6148914691236517205) + (x &&& 6148914691236517205)
def pop2 (x : Nat) : Nat := (pop1 x / 4 &&& 3689348814741910323) + (pop1 x &&& 3689348814741910323)
def pop3 (x : Nat) : Nat := (pop2 x / 16 + pop2 x) &&& 1085102592571150095
def pop4 (x : Nat) : Nat := pop3 x + pop3 x / 256
def pop5 (x : Nat) : Nat := pop4 x + pop4 x / 65536
def pop6 (x : Nat) : Nat := pop5 x + pop5 x / 4294967296
def pop (x : Nat) : Nat := pop6 x &&& 127
theorem pop_lt : ∀ x, x < 128 → pop1 x < 256 ∧ pop2 x < 256 ∧ pop3 x < 256 ∧ pop4 x < 256 ∧ pop5 x < 256 ∧ pop6 x < 256 ∧ pop x < 8 := by decide +kernel
theorem and64 {a b : Nat} (h : a < 18446744073709551616) (k : b < 18446744073709551616) : bits .and .u64 (a : Int) (b : Int) = ((a &&& b : Nat) : Int) := u64_and_nat a b h k
theorem andi64 {a b : Nat} (h : a < 256) (k : b < 256) : bits .and .i64 (a : Int) (b : Int) = ((a &&& b : Nat) : Int) := by
  have hx : a &&& b < 2 ^ 8 := Nat.and_lt_two_pow _ (by omega)
  have e : ∀ m : Nat, m < 256 → (BitVec.ofInt 64 (m : Int)).toNat = m := fun m hm => by rw [BitVec.ofInt_natCast, BitVec.toNat_ofNat]; exact Nat.mod_eq_of_lt (by omega)
  show IntKind.i64.wrap ((BitVec.ofInt 64 (a : Int) &&& BitVec.ofInt 64 (b : Int)).toNat : Int) = _
  rw [BitVec.toNat_and, e a h, e b k, IntKind.wrap_i64]
  omega
theorem ori64 {a b : Nat} (h : a < 256) (k : b < 256) : bits .or .i64 (a : Int) (b : Int) = ((a ||| b : Nat) : Int) := by
  have hx : a ||| b < 2 ^ 8 := Nat.or_lt_two_pow (by omega) (by omega)
  have e : ∀ m : Nat, m < 256 → (BitVec.ofInt 64 (m : Int)).toNat = m := fun m hm => by rw [BitVec.ofInt_natCast, BitVec.toNat_ofNat]; exact Nat.mod_eq_of_lt (by omega)
  show IntKind.i64.wrap ((BitVec.ofInt 64 (a : Int) ||| BitVec.ofInt 64 (b : Int)).toNat : Int) = _
  rw [BitVec.toNat_or, e a h, e b k, IntKind.wrap_i64]
  omega
set_option maxRecDepth 100000 in
set_option maxHeartbeats 2000000 in
theorem ones64_ok (x : Nat) (w : World) (hx : x < 128) : Calls Try.prog 55 #[.int .u64 (x : Int)] w fun r w' => r = .returned (.int .i64 (pop x : Int)) ∧ w = w' := by
  obtain ⟨h1, h2, h3, h4, h5, h6, h7⟩ := pop_lt x hx
  have c1 : bits .and .u64 ((x : Int) / 2) 6148914691236517205 = ((x / 2 &&& 6148914691236517205 : Nat) : Int) := and64 (a := x / 2) (b := 6148914691236517205) (by omega) (by omega)
  have c2 : bits .and .u64 (x : Int) 6148914691236517205 = ((x &&& 6148914691236517205 : Nat) : Int) := and64 (a := x) (b := 6148914691236517205) (by omega) (by omega)
  have c3 : bits .and .u64 ((pop1 x : Int) / 4) 3689348814741910323 = ((pop1 x / 4 &&& 3689348814741910323 : Nat) : Int) := and64 (a := pop1 x / 4) (b := 3689348814741910323) (by omega) (by omega)
  have c4 : bits .and .u64 (pop1 x : Int) 3689348814741910323 = ((pop1 x &&& 3689348814741910323 : Nat) : Int) := and64 (a := pop1 x) (b := 3689348814741910323) (by omega) (by omega)
  have c5 : bits .and .u64 ((pop2 x / 16 + pop2 x : Nat) : Int) 1085102592571150095 = ((pop3 x : Nat) : Int) := and64 (a := pop2 x / 16 + pop2 x) (b := 1085102592571150095) (by omega) (by omega)
  have c6 : bits .and .i64 (pop6 x : Int) 127 = ((pop x : Nat) : Int) := andi64 (a := pop6 x) (b := 127) (by omega) (by omega)
  have e1 : pop1 x = (x / 2 &&& 6148914691236517205) + (x &&& 6148914691236517205) := rfl
  have e2 : pop2 x = (pop1 x / 4 &&& 3689348814741910323) + (pop1 x &&& 3689348814741910323) := rfl
  have e4 : pop4 x = pop3 x + pop3 x / 256 := rfl
  have e5 : pop5 x = pop4 x + pop4 x / 65536 := rfl
  have e6 : pop6 x = pop5 x + pop5 x / 4294967296 := rfl
  generalize pop x = y7 at *
  generalize pop6 x = y6 at *
  generalize pop5 x = y5 at *
  generalize pop4 x = y4 at *
  generalize pop3 x = y3 at *
  generalize pop2 x = y2 at *
  generalize pop1 x = y1 at *
  generalize x / 2 &&& 6148914691236517205 = p1 at *
  generalize x &&& 6148914691236517205 = q1 at *
  generalize y1 / 4 &&& 3689348814741910323 = p2 at *
  generalize y1 &&& 3689348814741910323 = q2 at *
  have w1 : IntKind.u64.wrap ((p1 : Int) + (q1 : Int)) = (y1 : Int) := by
    show ((p1 : Int) + (q1 : Int)) % 18446744073709551616 = _
    omega
  have w2 : IntKind.u64.wrap ((p2 : Int) + (q2 : Int)) = (y2 : Int) := by
    show ((p2 : Int) + (q2 : Int)) % 18446744073709551616 = _
    omega
  have w3 : IntKind.u64.wrap ((y2 : Int) / 16 + (y2 : Int)) = ((y2 / 16 + y2 : Nat) : Int) := by
    show ((y2 : Int) / 16 + (y2 : Int)) % 18446744073709551616 = _
    omega
  have w4 : IntKind.u64.wrap ((y3 : Int) + (y3 : Int) / 256) = (y4 : Int) := by
    show ((y3 : Int) + (y3 : Int) / 256) % 18446744073709551616 = _
    omega
  have w5 : IntKind.u64.wrap ((y4 : Int) + (y4 : Int) / 65536) = (y5 : Int) := by
    show ((y4 : Int) + (y4 : Int) / 65536) % 18446744073709551616 = _
    omega
  have w6 : IntKind.u64.wrap ((y5 : Int) + (y5 : Int) / 4294967296) = (y6 : Int) := by
    show ((y5 : Int) + (y5 : Int) / 4294967296) % 18446744073709551616 = _
    omega
  have w7 : IntKind.i64.wrap (y6 : Int) = (y6 : Int) := by rw [IntKind.wrap_i64]; omega
  generalize y2 / 16 + y2 = z at *
  clear h1 h2 h3 h4 h5 h6 h7 e1 e2 e4 e5 e6 hx
  go_enter Try.func55, Try.ntmps55
  go_wp2
  go_ret
  exact ⟨rfl, rfl⟩
theorem ones_ok (x : Nat) (w : World) (hx : x < 128) : Calls Try.prog 46 #[.int .u64 (x : Int)] w fun r w' => r = .returned (.int .i64 (pop x : Int)) ∧ w = w' := by
  have h1 := ones64_ok x w hx
  generalize pop x = y at h1 ⊢
  go_enter Try.func46, Try.ntmps46
  go_wp2_with (go_at_call 55; refine h1.mono ?_; rintro e w' ⟨rfl, rfl⟩)
  go_ret
  exact ⟨rfl, rfl⟩
set_option maxRecDepth 100000 in
set_option maxHeartbeats 2000000 in
theorem asked_ok (n s : Nat) (hn : 1 ≤ n ∧ n ≤ 7) (hs : s < 2 ^ n) (A : Option Addr) (c : Nat) (w : World) (hr : Kd.C (Kd.int .i64) w A 1 [(s : Int)]) : Calls Try.prog 45 #[.int .i64 n, .slice A 1 c] w fun r w' => r = .returned (.int .i64 0) ∧ w = w' := by
  obtain ⟨ad, rfl, hc⟩ := C_cells hr (by omega)
  have hc0 := hc 0 _ rfl
  rw [show ad.add 0 = ad by cases ad; simp [Addr.add]] at hc0
  have hp : (2 : Nat) ^ n ≤ 2 ^ 7 := Nat.pow_le_pow_right (by omega) hn.2
  have hpi : ((2 ^ n : Nat) : Int) = (2 : Int) ^ n := by rw [Int.natCast_pow]; rfl
  obtain ⟨hn1, hn2⟩ := hn
  have n1 : (1 : Int) ≤ (n : Int) := by omega
  have n2 : (n : Int) ≤ 7 := by omega
  have s0 : (0 : Int) ≤ (s : Int) := by omega
  have d0 : decide ((n : Int) < 1) = false := decide_eq_false (by omega)
  have d1 : decide ((n : Int) > 7) = false := decide_eq_false (by omega)
  have d2 : decide ((s : Int) < 0) = false := decide_eq_false (by omega)
  have d3 : decide ((s : Int) ≥ (2 : Int) ^ n) = false := decide_eq_false (by rw [← hpi]; omega)
  clear hc hr
  go_enter Try.func45, Try.ntmps45
  go_wp2
  go_loopw [15] (fun v15 wr => ∃ k : Nat, k ≤ 1 ∧ v15 = .int .i64 k ∧ w = wr) (fun v15 _ => 1 - (intOf v15).toNat)
  case atStart => exact ⟨0, by omega, rfl, rfl⟩
  case round =>
    obtain ⟨k, hk, rfl, rfl⟩ := hrel
    by_cases hlt : k < 1
    · obtain rfl : k = 0 := by omega
      go_wp2
      exact ⟨⟨1, by omega, rfl, trivial⟩, by decide⟩
    · obtain rfl : k = 1 := by omega
      go_wp2
      go_ret
      exact ⟨rfl, rfl⟩
theorem C_one {k : IntKind} (w : World) (x : Int) (t : TypeId) (fr : Nat × Nat) : Kd.C (Kd.int k) (w.alloc (.cells #[.int k x] t fr)) (some ⟨w.heap.size, 0, none⟩) 1 [x] := by
  refine ⟨rfl, by omega, fun _ => ⟨_, rfl, fun j p hj => ⟨[.int k p], rfl, rfl, fun i u hu => ?_⟩⟩⟩
  have hi : i = 0 := by
    have := (List.getElem?_eq_some_iff.1 hu).1
    simp at this
    omega
  have hj0 : j = 0 := by
    have := (List.getElem?_eq_some_iff.1 hj).1
    simp at this
    omega
  subst hi hj0
  have hp : x = p := by simpa using hj
  subst hp
  have hu2 : Value.int k x = u := by simpa using hu
  subst hu2
  rw [show (⟨w.heap.size, 0, none⟩ : Addr).add (0 * (Kd.int k).sz + 0) = ⟨w.heap.size, 0, none⟩ by simp [Addr.add], World.cell?_alloc_mark]
  rfl
theorem pow_small {n : Nat} (h : n ≤ 7) : 2 ^ n ≤ 128 := Nat.pow_le_pow_right (n := 2) (by omega) h
theorem wrap_pow {i : Nat} (h : i ≤ 7) : IntKind.i64.wrap ((2 : Int) ^ i) = (2 : Int) ^ i := by
  have hp := pow_small h
  have hsh : ((2 ^ i : Nat) : Int) = (2 : Int) ^ i := by rw [Int.natCast_pow]; rfl
  rw [← hsh, IntKind.wrap_i64]
  clear hsh
  generalize 2 ^ i = P at hp ⊢
  omega
/-- Block g is a tally. -/
def TalAt (w : World) (g : Nat) (n e s : Int) : Prop := w.heap[g]? = some (.cells #[.int .i64 n, .int .i64 e, .int .i64 s] 80 (0, 0))
theorem TalAt.cells {w : World} {g : Nat} {n e s : Int} (h : TalAt w g n e s) : w.cell? ⟨g, 0, none⟩ = some (.int .i64 n) ∧ w.cell? ⟨g, 1, none⟩ = some (.int .i64 e) ∧ w.cell? ⟨g, 2, none⟩ = some (.int .i64 s) ∧ w.frozen? ⟨g, 2, none⟩ = false := by
  unfold TalAt at h
  simp [World.cell?, World.frozen?, h]
theorem TalAt.chg {w w1 : World} {g : Nat} {n e s : Int} {S : Nat → Prop} (h : TalAt w g n e s) (hc : Chg w w1 S) (hn : ¬ S g) : TalAt w1 g n e s := hc.blk h hn
theorem TalAt.below {w w1 : World} {g : Nat} {n e s : Int} (h : TalAt w g n e s) (hc : Below w.heap.size w w1) : TalAt w1 g n e s := (Chg.of_below hc (fun _ => False)).blk h (fun h => h)
theorem TalAt.set {w : World} {g : Nat} {n e s : Int} (h : TalAt w g n e s) (a : Int) : TalAt (w.setCell ⟨g, 2, none⟩ (.int .i64 a)) g n e a := by
  unfold TalAt at *
  exact blk_put h 2 _ rfl
set_option maxRecDepth 100000 in
set_option maxHeartbeats 2000000 in
theorem has_ok (n s : Nat) (hn : 1 ≤ n ∧ n ≤ 7) (hs : s < 2 ^ n) (w : World) : Calls Try.prog 32 #[.int .i64 n, .int .i64 s] w fun r w' => r = .returned (.tuple #[.bool (decide (n / 2 < pop s)), .int .i64 0]) ∧ Below w.heap.size w w' := by
  have h1 := asked_ok n s hn hs (some ⟨w.heap.size, 0, none⟩) 1 _ (C_one w (s : Int) 3 (0, 0))
  have hps := pow_small hn.2
  have h2 := fun W => ones_ok s W (by omega)
  have n0 : (0 : Int) ≤ (n : Int) := by omega
  have n7 : (n : Int) ≤ 7 := by have := hn.2; omega
  have s0 : (0 : Int) ≤ (s : Int) := by omega
  have s7 : (s : Int) ≤ 127 := by omega
  have hdec : decide ((pop s : Int) > (n : Int) / 2) = decide (n / 2 < pop s) := by
    by_cases h : n / 2 < pop s
    · rw [decide_eq_true h, decide_eq_true (by omega)]
    · rw [decide_eq_false h, decide_eq_false (by omega)]
  have hsw : IntKind.u64.wrap (s : Int) = (s : Int) := by
    show (s : Int) % 18446744073709551616 = _
    omega
  generalize decide (n / 2 < pop s) = b at hdec ⊢
  generalize pop s = y at h2 hdec
  clear hn hs hps
  go_enter Try.func32, Try.ntmps32
  go_wp2_with (first
    | (go_at_call 45; refine h1.mono ?_; rintro e w' ⟨rfl, rfl⟩)
    | (go_at_call 46; refine (h2 _).mono ?_; rintro e w' ⟨rfl, rfl⟩))
  go_ret2
  exact ⟨rfl, below_alloc (Below.refl _ _) _⟩
set_option maxRecDepth 100000 in
set_option maxHeartbeats 2000000 in
theorem with_ok (n s i : Nat) (hn : 1 ≤ n ∧ n ≤ 7) (hs : s < 2 ^ n) (hi : i < n) (w : World) : Calls Try.prog 31 #[.int .i64 n, .int .i64 s, .int .i64 i] w fun r w' => r = .returned (.tuple #[.int .i64 ((s ||| 2 ^ i : Nat) : Int), .int .i64 0]) ∧ Below w.heap.size w w' := by
  have h1 := asked_ok n s hn hs (some ⟨w.heap.size, 0, none⟩) 1 _ (C_one w (s : Int) 3 (0, 0))
  have hps := pow_small hn.2
  have hpi := pow_small (n := i) (by omega)
  have hsh : ((2 ^ i : Nat) : Int) = (2 : Int) ^ i := by rw [Int.natCast_pow]; rfl
  have hor := ori64 (a := s) (b := 2 ^ i) (by omega) (by omega)
  rw [hsh] at hor
  have hw : IntKind.i64.wrap ((2 : Int) ^ i) = (2 : Int) ^ i := wrap_pow (by omega)
  have i0 : (0 : Int) ≤ (i : Int) := by omega
  have i7 : (i : Int) < 7 := by omega
  have d0 : decide ((i : Int) < 0) = false := decide_eq_false (by omega)
  have d1 : decide (n ≤ i) = false := decide_eq_false (by omega)
  generalize (s ||| 2 ^ i) = y at hor ⊢
  clear hn hs hi hps hpi hsh
  go_enter Try.func31, Try.ntmps31
  go_wp2_with (go_at_call 45; refine h1.mono ?_; rintro e w' ⟨rfl, rfl⟩)
  go_ret2
  exact ⟨rfl, below_alloc (Below.refl _ _) _⟩
set_option maxRecDepth 100000 in
set_option maxHeartbeats 2000000 in
theorem count_ok (n i : Nat) (e : Int) (hn : 1 ≤ n ∧ n ≤ 7) (hi : i < n) (he : okE e = true) (w : World) : Calls Try.prog 18 #[.int .i64 n, .int .i64 e, .int .i64 i] w fun r w' => ∃ g, r = .returned (.tuple #[.pointer (some ⟨g, 0, none⟩), .int .i64 0]) ∧ w.heap.size ≤ g ∧ TalAt w' g n e ((2 ^ i : Nat) : Int) ∧ Below w.heap.size w w' := by
  have h1 := epoch_ok e
  rw [he] at h1
  have hw := wrap_pow (i := i) (by omega)
  have hsh : ((2 ^ i : Nat) : Int) = (2 : Int) ^ i := by rw [Int.natCast_pow]; rfl
  rw [hsh]
  have i0 : (0 : Int) ≤ (i : Int) := by omega
  have i7 : (i : Int) < 7 := by omega
  have d0 : decide ((n : Int) < 1) = false := decide_eq_false (by omega)
  have d1 : decide ((n : Int) > 7) = false := decide_eq_false (by omega)
  have d2 : decide ((i : Int) < 0) = false := decide_eq_false (by omega)
  have d3 : decide (n ≤ i) = false := decide_eq_false (by omega)
  clear hn hi he hsh
  go_enter Try.func18, Try.ntmps18
  go_wp2_with (go_at_call 30; refine (h1 _).mono ?_; rintro e w' ⟨rfl, rfl⟩)
  go_ret2
  exact ⟨_, rfl, Nat.le_refl _, blk_new _ _, below_alloc (Below.refl _ _) _⟩
theorem tepoch_ok (g : Nat) (n e s : Int) (w : World) (h : TalAt w g n e s) : Calls Try.prog 19 #[.pointer (some ⟨g, 0, none⟩)] w fun r w' => r = .returned (.int .i64 e) ∧ w = w' := by
  obtain ⟨c0, c1, c2, f2⟩ := h.cells
  clear h
  go_enter Try.func19, Try.ntmps19
  go_wp2
  go_ret
  exact ⟨rfl, rfl⟩
theorem tepoch_nil (w : World) : Calls Try.prog 19 #[.pointer none] w fun r w' => r = .returned (.int .i64 0) ∧ w = w' := by
  go_enter Try.func19, Try.ntmps19
  go_wp2
  go_ret
  exact ⟨rfl, rfl⟩
set_option maxHeartbeats 2000000 in
theorem won_ok (g n s : Nat) (e : Int) (hn : 1 ≤ n ∧ n ≤ 7) (hs : s < 2 ^ n) (w : World) (h : TalAt w g n e s) : Calls Try.prog 21 #[.pointer (some ⟨g, 0, none⟩)] w fun r w' => r = .returned (.bool (decide (n / 2 < pop s))) ∧ Below w.heap.size w w' := by
  obtain ⟨c0, c1, c2, f2⟩ := h.cells
  have h1 := fun W => has_ok n s hn hs W
  clear h hn hs
  generalize decide (n / 2 < pop s) = b at h1 ⊢
  go_enter Try.func21, Try.ntmps21
  go_upto_region 3 with (fail)
  go_region_with (go_at_call 32; refine (h1 _).mono ?_; rintro r w5 ⟨rfl, hB5⟩; (have HB5 := Aside0.mk (below_from (below_drew (Below.refl w.heap.size w)) (Nat.le_refl _) hB5)); clear hB5)
  all_goals
    go_wp2
    go_ret
    exact ⟨rfl, HB5.out⟩
theorem won_nil (w : World) : Calls Try.prog 21 #[.pointer none] w fun r w' => r = .returned (.bool false) ∧ w = w' := by
  go_enter Try.func21, Try.ntmps21
  go_wp2
  go_ret
  exact ⟨rfl, rfl⟩
set_option maxHeartbeats 2000000 in
theorem tvote_ok (g n s i : Nat) (e : Int) (hn : 1 ≤ n ∧ n ≤ 7) (hs : s < 2 ^ n) (hi : i < n) (w : World) (h : TalAt w g n e s) : Calls Try.prog 20 #[.pointer (some ⟨g, 0, none⟩), .int .i64 i, .int .i64 e] w fun r w' => r = .returned (.bool true) ∧ TalAt w' g n e ((s ||| 2 ^ i : Nat) : Int) ∧ Chg w w' (fun k => k = g) := by
  obtain ⟨c0, c1, c2, f2⟩ := h.cells
  have h1 := fun W => with_ok n s i hn hs hi W
  have H := Aside0.mk h
  clear h hn hs
  generalize s ||| 2 ^ i = y at h1 ⊢
  go_enter Try.func20, Try.ntmps20
  go_upto_region 3 with (fail)
  go_region_with (go_at_call 31; refine (h1 _).mono ?_; rintro r w5 ⟨rfl, hB5⟩; obtain ⟨z0, z1, z2, z3⟩ := (H.out.below (below_from (below_drew (Below.refl w.heap.size w)) (Nat.le_refl _) hB5)).cells; (have HB5 := Aside0.mk (below_from (below_drew (Below.refl w.heap.size w)) (Nat.le_refl _) hB5)); clear hB5)
  all_goals
    go_wp2
    go_ret
    exact ⟨rfl, (H.out.below HB5.out).set _, (Chg.of_below HB5.out _).trans (Chg.setCell _ ⟨g, 2, none⟩ _) (fun k hk => .inl hk)⟩
theorem tvote_nil (a b : Int) (w : World) : Calls Try.prog 20 #[.pointer none, .int .i64 a, .int .i64 b] w fun r w' => r = .returned (.bool false) ∧ w = w' := by
  go_enter Try.func20, Try.ntmps20
  go_wp2
  go_ret
  exact ⟨rfl, rfl⟩
end Go.Proofs.Ytjbddcaamefgaaa.Vote
