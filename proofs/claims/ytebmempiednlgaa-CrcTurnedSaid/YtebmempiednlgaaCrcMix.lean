/- The law of sums that are mixed. -/
import Derived.Test.YtebmempiednlgaaCrcLaw
import Derived.StillTailTactics
namespace Go.Proofs.Ytebmempiednlgaa.Crc
open Go.RowKit Go.Proofs.YtebmempiednlgaaW.PrintWords Go.Proofs.YtebmempiednlgaaW.PrintLast Go.Proofs.YtebmempiednlgaaW.PrintMore Go.Proofs.Ytebmempiednlgaa.Wire
open Go.Proofs.Ytebmempiednlgaa.Back (AllB numB numB_small)
set_option linter.unusedVariables false
set_option linter.unusedSimpArgs false
theorem ofInt_i64 (a : Nat) (ha : a < 18446744073709551616) : (BitVec.ofInt 64 (a : Int)).toNat = a := by
  rw [BitVec.ofInt_natCast, BitVec.toNat_ofNat]; exact Nat.mod_eq_of_lt (by omega)
theorem xor64 (a b : Nat) (ha : a < 4294967296) (hb : b < 4294967296) : bits .xor .i64 (a : Int) (b : Int) = ((a ^^^ b : Nat) : Int) := by
  have hx : a ^^^ b < 2 ^ 32 := Nat.xor_lt_two_pow (by omega) (by omega)
  show IntKind.i64.wrap ((BitVec.ofInt 64 (a : Int) ^^^ BitVec.ofInt 64 (b : Int)).toNat : Int) = _
  rw [BitVec.toNat_xor, ofInt_i64 a (by omega), ofInt_i64 b (by omega), IntKind.wrap_i64]
  omega
theorem crcT_xor (a b : Nat) : crcT (a ^^^ b) = crcT a ^^^ crcT b := by
  unfold crcT
  have hp := Nat.xor_mod_two_eq_one (a := a) (b := b)
  rw [half_xor]
  by_cases h1 : a % 2 = 1 <;> by_cases h2 : b % 2 = 1
  · rw [if_pos h1, if_pos h2, if_neg (by rw [hp]; simp [h1, h2]), Nat.xor_zero]
    generalize a / 2 = x
    generalize b / 2 = y
    rw [Nat.xor_assoc x, Nat.xor_comm 3988292384, Nat.xor_assoc y, Nat.xor_self, Nat.xor_zero]
  · rw [if_pos h1, if_neg h2, if_pos (by rw [hp]; simp [h1, h2]), Nat.xor_zero, Nat.xor_assoc, Nat.xor_comm (b / 2), Nat.xor_assoc]
  · rw [if_neg h1, if_pos h2, if_pos (by rw [hp]; simp [h1, h2]), Nat.xor_zero, Nat.xor_assoc]
  · rw [if_neg h1, if_neg h2, if_neg (by rw [hp]; simp [h1, h2]), Nat.xor_zero, Nat.xor_zero, Nat.xor_zero]
theorem crcTn_xor (a b : Nat) : ∀ k, crcTn k (a ^^^ b) = crcTn k a ^^^ crcTn k b
  | 0 => rfl
  | k + 1 => by rw [crcTn, crcTn_xor a b k, crcT_xor]; rfl
theorem xor_mix (a b c x y z : Nat) : (a ^^^ b ^^^ c) ^^^ (x ^^^ y ^^^ z) = (a ^^^ x) ^^^ (b ^^^ y) ^^^ (c ^^^ z) := by
  apply Nat.eq_of_testBit_eq
  intro i
  simp only [Nat.testBit_xor]
  cases a.testBit i <;> cases b.testBit i <;> cases c.testBit i <;> cases x.testBit i <;> cases y.testBit i <;> cases z.testBit i <;> rfl
theorem crcB_mix (a b c x y z : Nat) : crcB (a ^^^ b ^^^ c) (x ^^^ y ^^^ z) = crcB a x ^^^ crcB b y ^^^ crcB c z := by
  unfold crcB
  rw [xor_mix, crcTn_xor, crcTn_xor]
/-- the mixed row's first k bytes -/
def mixL (a b c : List Int) (k : Nat) : List Int := (List.range k).map fun i => (((a.getD i 0).toNat ^^^ (b.getD i 0).toNat ^^^ (c.getD i 0).toNat : Nat) : Int)
theorem mixL_succ (a b c : List Int) (k : Nat) : mixL a b c (k + 1) = mixL a b c k ++ [(((a.getD k 0).toNat ^^^ (b.getD k 0).toNat ^^^ (c.getD k 0).toNat : Nat) : Int)] := by
  unfold mixL
  rw [List.range_succ, List.map_append]
  rfl
theorem mixL_length (a b c : List Int) (k : Nat) : (mixL a b c k).length = k := by simp [mixL]
theorem xor_lt8 {a b : Nat} (h : a < 256) (k : b < 256) : a ^^^ b < 256 := Nat.xor_lt_two_pow (n := 8) h k
theorem getD_lt {xs : List Int} (hb : AllB xs) (i : Nat) : (xs.getD i 0).toNat < 256 := by
  rw [List.getD_eq_getElem?_getD]
  rcases h : xs[i]? with _ | x
  · simp
  · have := hb x (List.mem_of_getElem? h)
    simp
    omega
theorem mixL_AllB {a b c : List Int} (ha : AllB a) (hb : AllB b) (hc : AllB c) (k : Nat) : AllB (mixL a b c k) := by
  intro x hx
  unfold mixL at hx
  obtain ⟨i, _, rfl⟩ := List.mem_map.1 hx
  have := xor_lt8 (xor_lt8 (getD_lt ha i) (getD_lt hb i)) (getD_lt hc i)
  omega
theorem crcS_mix (a b c : List Int) : ∀ k, k ≤ a.length → k ≤ b.length → k ≤ c.length → crcS 4294967295 (mixL a b c k) = crcS 4294967295 (a.take k) ^^^ crcS 4294967295 (b.take k) ^^^ crcS 4294967295 (c.take k)
  | 0, _, _, _ => by
    show (4294967295 : Nat) = 4294967295 ^^^ 4294967295 ^^^ 4294967295
    decide +kernel
  | k + 1, h1, h2, h3 => by
    rw [mixL_succ, crcS_snoc, take_snoc h1, take_snoc h2, take_snoc h3, crcS_snoc, crcS_snoc, crcS_snoc, crcS_mix a b c k (by omega) (by omega) (by omega), Int.toNat_natCast, crcB_mix]
theorem sum_mix {a b c : List Int} {k : Nat} (h1 : k ≤ a.length) (h2 : k ≤ b.length) (h3 : k ≤ c.length) : sumOf (a.take k) ^^^ sumOf (b.take k) ^^^ sumOf (c.take k) = sumOf (mixL a b c k) := by
  unfold sumOf
  rw [crcS_mix a b c k h1 h2 h3]
  generalize crcS 4294967295 (a.take k) = x
  generalize crcS 4294967295 (b.take k) = y
  generalize crcS 4294967295 (c.take k) = z
  have h := xor_mix x y z 4294967295 4294967295 4294967295
  rw [show (4294967295 ^^^ 4294967295 ^^^ 4294967295 : Nat) = 4294967295 by decide +kernel] at h
  exact h.symm
theorem C_below8 {w w1 : World} {A : Option Addr} {n : Nat} {xs : List Int} (h : Kd.C (Kd.int .u8) w A n xs) (hb : Below w.heap.size w w1) : Kd.C (Kd.int .u8) w1 A n xs := Kd.C_below h hb
theorem below_of_drawn {w w1 : World} (h : Drawn0 w w1) : Below w.heap.size w w1 := by
  obtain ⟨nd, rfl⟩ := h
  exact pw_below_drewN (Below.refl _ _) nd
def MixIn (w : World) (n : Nat) (a b c : List Int) (v8 v9 : Value) (wr : World) : Prop :=
  ∃ k : Nat, k ≤ n ∧ v9 = .int .i64 k ∧ Aside0 (Kd.R (Kd.int .u8) 5 wr w.heap.size (fun _ => True) v8 (mixL a b c k)) ∧ Aside0 (Below w.heap.size w wr)
set_option maxRecDepth 100000 in
set_option maxHeartbeats 8000000 in
theorem mixed_ok (A : Option Addr) (ca : Nat) (a : List Int) (B : Option Addr) (cb : Nat) (b : List Int) (C : Option Addr) (cc : Nat) (c : List Int) (w : World)
    (hra : Kd.C (Kd.int .u8) w A a.length a) (hca : a.length ≤ ca) (hba : AllB a) (hrb : Kd.C (Kd.int .u8) w B b.length b) (hcb : b.length ≤ cb) (hbb : AllB b) (hrc : Kd.C (Kd.int .u8) w C c.length c) (hcc : c.length ≤ cc) (hbc : AllB c) (hl : a.length ≤ 140737488351232) :
    Calls Try.prog 7 #[.slice A a.length ca, .slice B b.length cb, .slice C c.length cc] w fun e w' => e = .returned (.bool true) ∧ Below w.heap.size w w' := by
  have hpath : ∃ n : Nat, n ≤ a.length ∧ n ≤ b.length ∧ n ≤ c.length ∧
      ((decide (b.length < a.length) = true ∧ decide (c.length < b.length) = true ∧ n = c.length) ∨ (decide (b.length < a.length) = true ∧ decide (c.length < b.length) = false ∧ n = b.length) ∨
       (decide (b.length < a.length) = false ∧ decide (c.length < a.length) = true ∧ n = c.length) ∨ (decide (b.length < a.length) = false ∧ decide (c.length < a.length) = false ∧ n = a.length)) := by
    by_cases h1 : b.length < a.length
    · by_cases h2 : c.length < b.length
      · exact ⟨c.length, by omega, by omega, by omega, .inl ⟨decide_eq_true (by omega), decide_eq_true (by omega), rfl⟩⟩
      · exact ⟨b.length, by omega, by omega, by omega, .inr (.inl ⟨decide_eq_true (by omega), decide_eq_false (by omega), rfl⟩)⟩
    · by_cases h2 : c.length < a.length
      · exact ⟨c.length, by omega, by omega, by omega, .inr (.inr (.inl ⟨decide_eq_false (by omega), decide_eq_true (by omega), rfl⟩))⟩
      · exact ⟨a.length, by omega, by omega, by omega, .inr (.inr (.inr ⟨decide_eq_false (by omega), decide_eq_false (by omega), rfl⟩))⟩
  obtain ⟨n, hna, hnb, hnc, hp⟩ := hpath
  have hsm := sum_mix hna hnb hnc
  have hta : AllB (a.take n) := fun y hy => hba y (List.mem_of_mem_take hy)
  have htb : AllB (b.take n) := fun y hy => hbb y (List.mem_of_mem_take hy)
  have htc : AllB (c.take n) := fun y hy => hbc y (List.mem_of_mem_take hy)
  have hla : (a.take n).length = n := by rw [List.length_take]; omega
  have hlb : (b.take n).length = n := by rw [List.length_take]; omega
  have hlc : (c.take n).length = n := by rw [List.length_take]; omega
  have hs0 := fun (D : Option Addr) (d : Nat) W (h : Kd.C (Kd.int .u8) W D (mixL a b c n).length (mixL a b c n)) => sum_ok D d (mixL a b c n) W h (mixL_AllB hba hbb hbc n)
  have hs1 := fun W (hB : Below w.heap.size w W) => sum_ok A ca (a.take n) W (Kd.C_below (Kd.C_take hra hna) hB) hta
  have hs2 := fun W (hB : Below w.heap.size w W) => sum_ok B cb (b.take n) W (Kd.C_below (Kd.C_take hrb hnb) hB) htb
  have hs3 := fun W (hB : Below w.heap.size w W) => sum_ok C cc (c.take n) W (Kd.C_below (Kd.C_take hrc hnc) hB) htc
  rw [hla] at hs1
  rw [hlb] at hs2
  rw [hlc] at hs3
  rw [mixL_length] at hs0
  have hx1 := sum_lt hta
  have hx2 := sum_lt htb
  have hx3 := sum_lt htc
  have hc1 : ∀ W : World, (Instr.slice 22 (.slice A a.length ca) none (some (.int .i64 (n : Int))) none).run Try.prog W = .ok (.slice A n ca) W := by
    intro W
    have h := cut_to (P := Try.prog) 22 5 .i64 Try.underlying22 (info_parts info8).choose_spec.1 A a.length ca (n : Int) (by omega) (by omega) hca W
    rw [Int.toNat_natCast] at h
    exact h
  have hc2 : ∀ W : World, (Instr.slice 22 (.slice B b.length cb) none (some (.int .i64 (n : Int))) none).run Try.prog W = .ok (.slice B n cb) W := by
    intro W
    have h := cut_to (P := Try.prog) 22 5 .i64 Try.underlying22 (info_parts info8).choose_spec.1 B b.length cb (n : Int) (by omega) (by omega) hcb W
    rw [Int.toNat_natCast] at h
    exact h
  have hc3 : ∀ W : World, (Instr.slice 22 (.slice C c.length cc) none (some (.int .i64 (n : Int))) none).run Try.prog W = .ok (.slice C n cc) W := by
    intro W
    have h := cut_to (P := Try.prog) 22 5 .i64 Try.underlying22 (info_parts info8).choose_spec.1 C c.length cc (n : Int) (by omega) (by omega) hcc W
    rw [Int.toNat_natCast] at h
    exact h
  generalize hsa : sumOf (a.take n) = sa at hs1 hx1 hsm
  generalize hsb : sumOf (b.take n) = sb at hs2 hx2 hsm
  generalize hsc : sumOf (c.take n) = sc at hs3 hx3 hsm
  have hv1 := xor64 sa sb hx1 hx2
  have hv2 := xor64 (sa ^^^ sb) sc (xor_lt32 hx1 hx2) hx3
  rw [hsm] at hv2
  generalize sa ^^^ sb = sab at hv1 hv2
  generalize hsx : sumOf (mixL a b c n) = sx at hs0 hv2
  have HS0 := Aside0.mk hs0
  have HS1 := Aside0.mk hs1
  have HS2 := Aside0.mk hs2
  have HS3 := Aside0.mk hs3
  have HV1 := Aside0.mk hv1
  have HV2 := Aside0.mk hv2
  have HC1 := Aside0.mk hc1
  have HC2 := Aside0.mk hc2
  have HC3 := Aside0.mk hc3
  have HNA := Aside0.mk hna
  have HNB := Aside0.mk hnb
  have HNC := Aside0.mk hnc
  have HRA := Aside0.mk hra
  have HRB := Aside0.mk hrb
  have HRC := Aside0.mk hrc
  have HBA := Aside0.mk hba
  have HBB := Aside0.mk hbb
  have HBC := Aside0.mk hbc
  have HL := Aside0.mk hl
  clear hs0 hs1 hs2 hs3 hv1 hv2 hc1 hc2 hc3 hna hnb hnc hra hrb hrc hba hbb hbc hl hsm hta htb htc hla hlb hlc hx1 hx2 hx3 hca hcb hcc hsa hsb hsc hsx
  rcases hp with ⟨d1, d2, hn⟩ | ⟨d1, d2, hn⟩ | ⟨d1, d2, hn⟩ | ⟨d1, d2, hn⟩
  all_goals
    have HN := Aside0.mk hn
    clear hn
    go_enter Try.func7, Try.ntmps7
    go_wp2
    go_loopw [8, 9] (fun v8 v9 wr => MixIn w n a b c v8 v9 wr) (fun _ v9 _ => n - (intOf v9).toNat)
    case atStart => exact ⟨0, by omega, rfl, ⟨Kd.R_nil _ _ _ _ _⟩, ⟨Below.refl _ _⟩⟩
    case round =>
      obtain ⟨k, hk, rfl, HR, HB⟩ := hrel
      by_cases hlt : k < n
      · have hltI : (k : Int) < (n : Int) := by omega
        rw [HN.out] at hltI
        have hka : (k : Int) < (a.length : Int) := by have := HNA.out; omega
        have hkb : (k : Int) < (b.length : Int) := by have := HNB.out; omega
        have hkc : (k : Int) < (c.length : Int) := by have := HNC.out; omega
        have hk0 : (0 : Int) ≤ (k : Int) := by omega
        have hkm : (k : Int) < 140737488351232 := by have := HL.out; omega
        have h1 := C_below8 HRA.out HB.out
        have h2 := C_below8 HRB.out HB.out
        have h3 := C_below8 HRC.out HB.out
        obtain ⟨ad1, rfl, he1⟩ := byte_cell h1 (by omega)
        obtain ⟨ad2, rfl, he2⟩ := byte_cell h2 (by omega)
        obtain ⟨ad3, rfl, he3⟩ := byte_cell h3 (by omega)
        have hc1 := he1 k (by omega)
        have hc2 := he2 k (by omega)
        have hc3 := he3 k (by omega)
        obtain ⟨x, hx, hx2⟩ := byte_get (k := k) HBA.out (by omega)
        obtain ⟨y, hy, hy2⟩ := byte_get (k := k) HBB.out (by omega)
        obtain ⟨z, hz, hz2⟩ := byte_get (k := k) HBC.out (by omega)
        have hms := mixL_succ a b c k
        rw [hx, hy, hz, Int.toNat_natCast, Int.toNat_natCast, Int.toNat_natCast] at hms
        rw [hx] at hc1
        rw [hy] at hc2
        rw [hz] at hc3
        have hw1 := u8_xor_nat x y hx2 hy2
        have hw2 := u8_xor_nat (x ^^^ y) z (xor_lt8 hx2 hy2) hz2
        generalize x ^^^ y = xy at hw1 hw2 hms
        generalize xy ^^^ z = xyz at hw2 hms
        have hml := mixL_length a b c k
        generalize mixL a b c k = ms at HR hms hml
        obtain ⟨A8, c8, rfl⟩ := Kd.R_slice HR.out
        have HML := Aside0.mk hml
        have HMS := Aside0.mk hms
        clear he1 he2 he3 h1 h2 h3 hx hy hz hx2 hy2 hz2 hms hml
        go_upto_region 10 with (fail)
        refine start_ (n := 18) (S := fun w' => w'.cell? (ad1.add k) = some (.int .u8 (x : Int)) ∧ w'.cell? (ad2.add k) = some (.int .u8 (y : Int)) ∧ w'.cell? (ad3.add k) = some (.int .u8 (z : Int))) (ds := [15, 16]) #[false, false, false, false, false, false, false, false, false, false, false, false, false, false, false, false, false, false] (by kernel_rfl) rfl rfl ⟨hc1, hc2, hc3⟩ (fun hHeld => ?_)
        refine pure_ (i := 0) (N := some 29) (v := ?_) (a' := ?_) #[true, false, false, false, false, false, false, false, false, false, false, false, false, false, false, false, false, false] rfl rfl (by kernel_rfl) (fun _ _ _ h => h) (Or.inl ⟨by rfl, ?_⟩) ?_ ?_
        rotate_left
        · intro w'
          go_simp
          with_reducible rfl
        rotate_left
        · simp only [Act.put, List.setIfInBounds_toArray, List.set_cons_zero, List.set_cons_succ, i64_w, i32_w]
          rfl
        refine pure_ (i := 1) (N := some 30) (v := ?_) (a' := ?_) #[true, true, false, false, false, false, false, false, false, false, false, false, false, false, false, false, false, false] rfl rfl (by kernel_rfl) (fun _ _ _ h => h) (Or.inl ⟨by rfl, ?_⟩) ?_ ?_
        rotate_left
        · intro w'
          go_simp
          with_reducible rfl
        rotate_left
        · simp only [Act.put, List.setIfInBounds_toArray, List.set_cons_zero, List.set_cons_succ, i64_w, i32_w]
          rfl
        refine pure_ (i := 2) (N := some 31) (v := ?_) (a' := ?_) #[true, true, true, false, false, false, false, false, false, false, false, false, false, false, false, false, false, false] rfl rfl (by kernel_rfl) (fun _ _ _ h => h) (Or.inl ⟨by rfl, ?_⟩) ?_ ?_
        rotate_left
        · intro w'
          go_simp
          with_reducible rfl
        rotate_left
        · simp only [Act.put, List.setIfInBounds_toArray, List.set_cons_zero, List.set_cons_succ, i64_w, i32_w]
          rfl
        refine pure_ (i := 3) (N := some 32) (v := ?_) (a' := ?_) #[true, true, true, true, false, false, false, false, false, false, false, false, false, false, false, false, false, false] rfl rfl (by kernel_rfl) (fun _ _ _ h => h) (Or.inl ⟨by rfl, ?_⟩) ?_ ?_
        rotate_left
        · intro w'
          go_simp
          with_reducible rfl
        rotate_left
        · simp only [Act.put, List.setIfInBounds_toArray, List.set_cons_zero, List.set_cons_succ, i64_w, i32_w]
          rfl
        refine pure_ (i := 5) (N := some 34) (v := ?_) (a' := ?_) #[true, true, true, true, false, true, false, false, false, false, false, false, false, false, false, false, false, false] rfl rfl (by kernel_rfl) (fun _ _ _ h => h) (Or.inl ⟨by rfl, ?_⟩) ?_ ?_
        rotate_left
        · intro w'
          go_simp
          with_reducible rfl
        rotate_left
        · simp only [Act.put, List.setIfInBounds_toArray, List.set_cons_zero, List.set_cons_succ, i64_w, i32_w]
          rfl
        refine pure_ (i := 6) (N := some 35) (v := ?_) (a' := ?_) #[true, true, true, true, false, true, true, false, false, false, false, false, false, false, false, false, false, false] rfl rfl (by kernel_rfl) (fun _ _ _ h => h) (Or.inl ⟨by rfl, ?_⟩) ?_ ?_
        rotate_left
        · intro w'
          go_simp
          with_reducible rfl
        rotate_left
        · simp only [Act.put, List.setIfInBounds_toArray, List.set_cons_zero, List.set_cons_succ, i64_w, i32_w]
          rfl
        refine pure_ (i := 7) (N := some 36) (v := ?_) (a' := ?_) #[true, true, true, true, false, true, true, true, false, false, false, false, false, false, false, false, false, false] rfl rfl (by kernel_rfl) (fun _ _ _ h => h) (Or.inl ⟨by rfl, ?_⟩) ?_ ?_
        rotate_left
        · intro w'
          go_simp
          with_reducible rfl
        rotate_left
        · simp only [Act.put, List.setIfInBounds_toArray, List.set_cons_zero, List.set_cons_succ, i64_w, i32_w]
          rfl
        refine pure_ (i := 10) (N := some 39) (v := ?_) (a' := ?_) #[true, true, true, true, false, true, true, true, false, false, true, false, false, false, false, false, false, false] rfl rfl (by kernel_rfl) (fun _ _ _ h => h) (Or.inl ⟨by rfl, ?_⟩) ?_ ?_
        rotate_left
        · intro w'
          go_simp
          with_reducible rfl
        rotate_left
        · simp only [Act.put, List.setIfInBounds_toArray, List.set_cons_zero, List.set_cons_succ, i64_w, i32_w]
          rfl
        refine pure_ (i := 11) (N := some 40) (v := ?_) (a' := ?_) #[true, true, true, true, false, true, true, true, false, false, true, true, false, false, false, false, false, false] rfl rfl (by kernel_rfl) (fun _ _ _ h => h) (Or.inl ⟨by rfl, ?_⟩) ?_ ?_
        rotate_left
        · intro w'
          go_simp
          with_reducible rfl
        rotate_left
        · simp only [Act.put, List.setIfInBounds_toArray, List.set_cons_zero, List.set_cons_succ, i64_w, i32_w]
          rfl
        refine pure_ (i := 12) (N := some 41) (v := ?_) (a' := ?_) #[true, true, true, true, false, true, true, true, false, false, true, true, true, false, false, false, false, false] rfl rfl (by kernel_rfl) (fun _ _ _ h => h) (Or.inl ⟨by rfl, ?_⟩) ?_ ?_
        rotate_left
        · intro w'
          go_simp
          with_reducible rfl
        rotate_left
        · simp only [Act.put, List.setIfInBounds_toArray, List.set_cons_zero, List.set_cons_succ, i64_w, i32_w]
          rfl
        refine take_ (i := 4) (N := some 33) (v := ?_) (a' := ?_) #[true, true, true, true, true, true, true, true, false, false, true, true, true, false, false, false, false, false] rfl rfl (by kernel_rfl) (fun _ _ _ h => h) (Or.inl ⟨by rfl, ?_⟩) hHeld ?_ ?_
        rotate_left
        · rintro w' ⟨s0, s1, s2⟩
          go_simp
          with_reducible rfl
        rotate_left
        · simp only [Act.put, List.setIfInBounds_toArray, List.set_cons_zero, List.set_cons_succ, i64_w, i32_w]
          rfl
        refine take_ (i := 8) (N := some 37) (v := ?_) (a' := ?_) #[true, true, true, true, true, true, true, true, true, false, true, true, true, false, false, false, false, false] rfl rfl (by kernel_rfl) (fun _ _ _ h => h) (Or.inl ⟨by rfl, ?_⟩) hHeld ?_ ?_
        rotate_left
        · rintro w' ⟨s0, s1, s2⟩
          go_simp
          with_reducible rfl
        rotate_left
        · simp only [Act.put, List.setIfInBounds_toArray, List.set_cons_zero, List.set_cons_succ, i64_w, i32_w]
          rfl
        refine pure_ (i := 9) (N := some 38) (v := ?_) (a' := ?_) #[true, true, true, true, true, true, true, true, true, true, true, true, true, false, false, false, false, false] rfl rfl (by kernel_rfl) (fun _ _ _ h => h) (Or.inl ⟨by rfl, ?_⟩) ?_ ?_
        rotate_left
        · intro w'
          go_simp
          with_reducible rfl
        rotate_left
        · simp only [Act.put, List.setIfInBounds_toArray, List.set_cons_zero, List.set_cons_succ, i64_w, i32_w]
          rfl
        refine take_ (i := 13) (N := some 42) (v := ?_) (a' := ?_) #[true, true, true, true, true, true, true, true, true, true, true, true, true, true, false, false, false, false] rfl rfl (by kernel_rfl) (fun _ _ _ h => h) (Or.inl ⟨by rfl, ?_⟩) hHeld ?_ ?_
        rotate_left
        · rintro w' ⟨s0, s1, s2⟩
          go_simp
          with_reducible rfl
        rotate_left
        · simp only [Act.put, List.setIfInBounds_toArray, List.set_cons_zero, List.set_cons_succ, i64_w, i32_w]
          rfl
        refine pure_ (i := 14) (N := some 43) (v := ?_) (a' := ?_) #[true, true, true, true, true, true, true, true, true, true, true, true, true, true, true, false, false, false] rfl rfl (by kernel_rfl) (fun _ _ _ h => h) (Or.inl ⟨by rfl, ?_⟩) ?_ ?_
        rotate_left
        · intro w'
          go_simp
          with_reducible rfl
        rotate_left
        · simp only [Act.put, List.setIfInBounds_toArray, List.set_cons_zero, List.set_cons_succ, i64_w, i32_w]
          rfl
        refine last_ (i := 15) (N := some 44) #[true, true, true, true, true, true, true, true, true, true, true, true, true, true, true, true, false, false] rfl rfl (by kernel_rfl) (by decide) (fun K hK => ?_)
        refine value_ (w1 := ?_) (v := ?_) (by rfl) rfl ?_ ?_
        rotate_left 2
        · go_simp
          constructor
          · rfl
          · rfl
        refine hK.out _ _ ?_
        clear hK K
        refine norm_ (a' := ?_) ?_ ?_
        rotate_left
        · show Act.put _ (some 44) _ = _
          simp only [Act.put, List.setIfInBounds_toArray, List.set_cons_zero, List.set_cons_succ, i64_w, i32_w]
          rfl
        refine last_ (i := 16) (N := some 45) #[true, true, true, true, true, true, true, true, true, true, true, true, true, true, true, true, true, false] rfl rfl (by kernel_rfl) (by decide) (fun K hK => ?_)
        refine Kd.R_append_step (Kd.int .u8) (w0 := w) (W := wr.drew) w.heap.size (by rfl) (.tmp 29) (.tmp 44) 22 5 (.int .u8 0) 1 rfl Try.underlying22 info8 rfl (by decide) (by omega) (.slice A8 ms.length c8) ms (xyz : Int) [.int .u8 (xyz : Int)] (fun _ => True) (fun _ => False) rfl rfl ?aP (fun _ hk => hk.elim) ?aF ?aO ?aB ?aS ?aL ?_
        case aP => exact rfl
        case aB => exact below_drew HB.out
        case aF => exact (fun _ _ => trivial)
        case aO => exact Kd.R_below HR.out (below_drew (Below.refl _ _))
        case aS => exact HB.out.size
        case aL => (have := HL.out; have := HML.out; have := HNA.out; omega)
        intro v1 w3 ho hbel hg hat
        have HO := Aside0.mk ho
        have HBEL := Aside0.mk hbel
        clear ho hbel hg hat
        refine hK.out _ _ ?_
        clear hK K
        refine norm_ (a' := ?_) ?_ ?_
        rotate_left
        · show Act.put _ (some 45) _ = _
          simp only [Act.put, List.setIfInBounds_toArray, List.set_cons_zero, List.set_cons_succ, i64_w, i32_w]
          rfl
        refine pure_ (i := 17) (N := some 8) (v := ?_) (a' := ?_) #[true, true, true, true, true, true, true, true, true, true, true, true, true, true, true, true, true, true] rfl rfl (by kernel_rfl) (fun _ _ _ h => h) (Or.inl ⟨by rfl, ?_⟩) ?_ ?_
        rotate_left
        · intro w'
          go_simp
          with_reducible rfl
        rotate_left
        · simp only [Act.put, List.setIfInBounds_toArray, List.set_cons_zero, List.set_cons_succ, i64_w, i32_w]
          rfl
        refine done_ (by kernel_rfl) ?_
        go_wp2
        go_roundw
        case rel => exact ⟨k + 1, by omega, by go_num, ⟨by rw [HMS.out]; exact HO.out⟩, ⟨HBEL.out⟩⟩
        case measure => simp [intOf]; omega
      · have hltI : ¬ (k : Int) < (n : Int) := by omega
        rw [HN.out] at hltI
        obtain rfl : n = k := by omega
        obtain ⟨A8, c8, rfl, _, hC8⟩ := Kd.R_reads HR.out
        rw [mixL_length] at hC8 ⊢
        have HC8 := Aside0.mk hC8
        have hc1 := HC1.out
        have hc2 := HC2.out
        have hc3 := HC3.out
        have hv1 := HV1.out
        have hv2 := HV2.out
        have hni := congrArg (Nat.cast : Nat → Int) HN.out
        rw [hni] at hc1 hc2 hc3
        clear hni
        clear hC8
        go_upto_region 11 with (fail)
        refine start_ (n := 21) (S := fun w' => True) (ds := []) #[false, false, false, false, false, false, false, false, false, false, false, false, false, false, false, false, false, false, false, false, false] (by kernel_rfl) rfl rfl trivial (fun hHeld => ?_)
        refine pure_ (i := 0) (N := some 46) (v := ?_) (a' := ?_) #[true, false, false, false, false, false, false, false, false, false, false, false, false, false, false, false, false, false, false, false, false] rfl rfl (by kernel_rfl) (fun _ _ _ h => h) (Or.inl ⟨by rfl, ?_⟩) ?_ ?_
        rotate_left
        · intro w'
          go_simp
          with_reducible rfl
        rotate_left
        · simp only [Act.put, List.setIfInBounds_toArray, List.set_cons_zero, List.set_cons_succ, i64_w, i32_w]
          rfl
        refine pure_ (i := 2) (N := some 48) (v := ?_) (a' := ?_) #[true, false, true, false, false, false, false, false, false, false, false, false, false, false, false, false, false, false, false, false, false] rfl rfl (by kernel_rfl) (fun _ _ _ h => h) (Or.inl ⟨by rfl, ?_⟩) ?_ ?_
        rotate_left
        · intro w'
          go_simp
          with_reducible rfl
        rotate_left
        · simp only [Act.put, List.setIfInBounds_toArray, List.set_cons_zero, List.set_cons_succ, i64_w, i32_w]
          rfl
        refine pure_ (i := 3) (N := some 49) (v := ?_) (a' := ?_) #[true, false, true, true, false, false, false, false, false, false, false, false, false, false, false, false, false, false, false, false, false] rfl rfl (by kernel_rfl) (fun _ _ _ h => h) (Or.inl ⟨by rfl, ?_⟩) ?_ ?_
        rotate_left
        · intro w'
          go_simp
          with_reducible rfl
        rotate_left
        · simp only [Act.put, List.setIfInBounds_toArray, List.set_cons_zero, List.set_cons_succ, i64_w, i32_w]
          rfl
        refine pure_ (i := 4) (N := some 50) (v := ?_) (a' := ?_) #[true, false, true, true, true, false, false, false, false, false, false, false, false, false, false, false, false, false, false, false, false] rfl rfl (by kernel_rfl) (fun _ _ _ h => h) (Or.inl ⟨by rfl, ?_⟩) ?_ ?_
        rotate_left
        · intro w'
          go_simp
          with_reducible rfl
        rotate_left
        · simp only [Act.put, List.setIfInBounds_toArray, List.set_cons_zero, List.set_cons_succ, i64_w, i32_w]
          rfl
        refine pure_ (i := 6) (N := some 52) (v := ?_) (a' := ?_) #[true, false, true, true, true, false, true, false, false, false, false, false, false, false, false, false, false, false, false, false, false] rfl rfl (by kernel_rfl) (fun _ _ _ h => h) (Or.inl ⟨by rfl, ?_⟩) ?_ ?_
        rotate_left
        · intro w'
          go_simp
          with_reducible rfl
        rotate_left
        · simp only [Act.put, List.setIfInBounds_toArray, List.set_cons_zero, List.set_cons_succ, i64_w, i32_w]
          rfl
        refine pure_ (i := 7) (N := some 53) (v := ?_) (a' := ?_) #[true, false, true, true, true, false, true, true, false, false, false, false, false, false, false, false, false, false, false, false, false] rfl rfl (by kernel_rfl) (fun _ _ _ h => h) (Or.inl ⟨by rfl, ?_⟩) ?_ ?_
        rotate_left
        · intro w'
          go_simp
          with_reducible rfl
        rotate_left
        · simp only [Act.put, List.setIfInBounds_toArray, List.set_cons_zero, List.set_cons_succ, i64_w, i32_w]
          rfl
        refine pure_ (i := 8) (N := some 54) (v := ?_) (a' := ?_) #[true, false, true, true, true, false, true, true, true, false, false, false, false, false, false, false, false, false, false, false, false] rfl rfl (by kernel_rfl) (fun _ _ _ h => h) (Or.inl ⟨by rfl, ?_⟩) ?_ ?_
        rotate_left
        · intro w'
          go_simp
          with_reducible rfl
        rotate_left
        · simp only [Act.put, List.setIfInBounds_toArray, List.set_cons_zero, List.set_cons_succ, i64_w, i32_w]
          rfl
        refine pure_ (i := 11) (N := some 57) (v := ?_) (a' := ?_) #[true, false, true, true, true, false, true, true, true, false, false, true, false, false, false, false, false, false, false, false, false] rfl rfl (by kernel_rfl) (fun _ _ _ h => h) (Or.inl ⟨by rfl, ?_⟩) ?_ ?_
        rotate_left
        · intro w'
          go_simp
          with_reducible rfl
        rotate_left
        · simp only [Act.put, List.setIfInBounds_toArray, List.set_cons_zero, List.set_cons_succ, i64_w, i32_w]
          rfl
        refine pure_ (i := 12) (N := some 58) (v := ?_) (a' := ?_) #[true, false, true, true, true, false, true, true, true, false, false, true, true, false, false, false, false, false, false, false, false] rfl rfl (by kernel_rfl) (fun _ _ _ h => h) (Or.inl ⟨by rfl, ?_⟩) ?_ ?_
        rotate_left
        · intro w'
          go_simp
          with_reducible rfl
        rotate_left
        · simp only [Act.put, List.setIfInBounds_toArray, List.set_cons_zero, List.set_cons_succ, i64_w, i32_w]
          rfl
        refine pure_ (i := 13) (N := some 59) (v := ?_) (a' := ?_) #[true, false, true, true, true, false, true, true, true, false, false, true, true, true, false, false, false, false, false, false, false] rfl rfl (by kernel_rfl) (fun _ _ _ h => h) (Or.inl ⟨by rfl, ?_⟩) ?_ ?_
        rotate_left
        · intro w'
          go_simp
          with_reducible rfl
        rotate_left
        · simp only [Act.put, List.setIfInBounds_toArray, List.set_cons_zero, List.set_cons_succ, i64_w, i32_w]
          rfl
        refine one_ (i := 1) (N := some 47) #[true, true, true, true, true, false, true, true, true, false, false, true, true, true, false, false, false, false, false, false, false] rfl rfl (by kernel_rfl) (by decide) (fun K hK => ?_)
        refine goes_ Try.func10 (by kernel_rfl) rfl #[.slice A8 n c8] (by rfl) rfl rfl (by simp only [List.map_toArray, List.map_cons, List.map_nil]; rfl) ?_
        with_reducible refine (HS0.out A8 c8 _ (Kd.C_below HC8.out (below_drew (Below.refl _ _)))).mono ?_
        rintro e w4 ⟨rfl, hd4⟩
        refine ⟨_, rfl, ?_⟩
        have HB4 := Aside0.mk (below_from (below_drew HB.out) (Nat.le_refl _) (below_of_drawn hd4))
        clear hd4
        refine hK.out _ _ trivial (fun hHeld => ?_)
        clear hK K
        refine norm_ (a' := ?_) ?_ ?_
        rotate_left
        · show Act.put _ (some 47) _ = _
          simp only [Act.put, List.setIfInBounds_toArray, List.set_cons_zero, List.set_cons_succ, i64_w, i32_w]
          rfl
        refine one_ (i := 5) (N := some 51) #[true, true, true, true, true, true, true, true, true, false, false, true, true, true, false, false, false, false, false, false, false] rfl rfl (by kernel_rfl) (by decide) (fun K hK => ?_)
        refine goes_ Try.func10 (by kernel_rfl) rfl #[.slice A n ca] (by rfl) rfl rfl (by simp only [List.map_toArray, List.map_cons, List.map_nil]; rfl) ?_
        with_reducible refine (HS1.out _ HB4.out).mono ?_
        rintro e w5 ⟨rfl, hd5⟩
        refine ⟨_, rfl, ?_⟩
        have HB5 := Aside0.mk (below_from HB4.out (Nat.le_refl _) (below_of_drawn hd5))
        clear hd5
        refine hK.out _ _ trivial (fun hHeld => ?_)
        clear hK K
        refine norm_ (a' := ?_) ?_ ?_
        rotate_left
        · show Act.put _ (some 51) _ = _
          simp only [Act.put, List.setIfInBounds_toArray, List.set_cons_zero, List.set_cons_succ, i64_w, i32_w]
          rfl
        refine one_ (i := 9) (N := some 55) #[true, true, true, true, true, true, true, true, true, true, false, true, true, true, false, false, false, false, false, false, false] rfl rfl (by kernel_rfl) (by decide) (fun K hK => ?_)
        refine goes_ Try.func10 (by kernel_rfl) rfl #[.slice B n cb] (by rfl) rfl rfl (by simp only [List.map_toArray, List.map_cons, List.map_nil]; rfl) ?_
        with_reducible refine (HS2.out _ HB5.out).mono ?_
        rintro e w6 ⟨rfl, hd6⟩
        refine ⟨_, rfl, ?_⟩
        have HB6 := Aside0.mk (below_from HB5.out (Nat.le_refl _) (below_of_drawn hd6))
        clear hd6
        refine hK.out _ _ trivial (fun hHeld => ?_)
        clear hK K
        refine norm_ (a' := ?_) ?_ ?_
        rotate_left
        · show Act.put _ (some 55) _ = _
          simp only [Act.put, List.setIfInBounds_toArray, List.set_cons_zero, List.set_cons_succ, i64_w, i32_w]
          rfl
        refine pure_ (i := 10) (N := some 56) (v := ?_) (a' := ?_) #[true, true, true, true, true, true, true, true, true, true, true, true, true, true, false, false, false, false, false, false, false] rfl rfl (by kernel_rfl) (fun _ _ _ h => h) (Or.inl ⟨by rfl, ?_⟩) ?_ ?_
        rotate_left
        · intro w'
          go_simp
          with_reducible rfl
        rotate_left
        · simp only [Act.put, List.setIfInBounds_toArray, List.set_cons_zero, List.set_cons_succ, i64_w, i32_w]
          rfl
        refine one_ (i := 14) (N := some 60) #[true, true, true, true, true, true, true, true, true, true, true, true, true, true, true, false, false, false, false, false, false] rfl rfl (by kernel_rfl) (by decide) (fun K hK => ?_)
        refine goes_ Try.func10 (by kernel_rfl) rfl #[.slice C n cc] (by rfl) rfl rfl (by simp only [List.map_toArray, List.map_cons, List.map_nil]; rfl) ?_
        with_reducible refine (HS3.out _ HB6.out).mono ?_
        rintro e w7 ⟨rfl, hd7⟩
        refine ⟨_, rfl, ?_⟩
        have HB7 := Aside0.mk (below_from HB6.out (Nat.le_refl _) (below_of_drawn hd7))
        clear hd7
        refine hK.out _ _ trivial (fun hHeld => ?_)
        clear hK K
        refine norm_ (a' := ?_) ?_ ?_
        rotate_left
        · show Act.put _ (some 60) _ = _
          simp only [Act.put, List.setIfInBounds_toArray, List.set_cons_zero, List.set_cons_succ, i64_w, i32_w]
          rfl
        refine pure_ (i := 15) (N := some 61) (v := ?_) (a' := ?_) #[true, true, true, true, true, true, true, true, true, true, true, true, true, true, true, true, false, false, false, false, false] rfl rfl (by kernel_rfl) (fun _ _ _ h => h) (Or.inl ⟨by rfl, ?_⟩) ?_ ?_
        rotate_left
        · intro w'
          go_simp
          with_reducible rfl
        rotate_left
        · simp only [Act.put, List.setIfInBounds_toArray, List.set_cons_zero, List.set_cons_succ, i64_w, i32_w]
          rfl
        refine pure_ (i := 16) (N := some 62) (v := ?_) (a' := ?_) #[true, true, true, true, true, true, true, true, true, true, true, true, true, true, true, true, true, false, false, false, false] rfl rfl (by kernel_rfl) (fun _ _ _ h => h) (Or.inl ⟨by rfl, ?_⟩) ?_ ?_
        rotate_left
        · intro w'
          go_simp
          with_reducible rfl
        rotate_left
        · simp only [Act.put, List.setIfInBounds_toArray, List.set_cons_zero, List.set_cons_succ, i64_w, i32_w]
          rfl
        refine pure_ (i := 17) (N := some 63) (v := ?_) (a' := ?_) #[true, true, true, true, true, true, true, true, true, true, true, true, true, true, true, true, true, true, false, false, false] rfl rfl (by kernel_rfl) (fun _ _ _ h => h) (Or.inl ⟨by rfl, ?_⟩) ?_ ?_
        rotate_left
        · intro w'
          go_simp
          with_reducible rfl
        rotate_left
        · simp only [Act.put, List.setIfInBounds_toArray, List.set_cons_zero, List.set_cons_succ, i64_w, i32_w]
          rfl
        refine one_ (i := 18) (N := some 64) #[true, true, true, true, true, true, true, true, true, true, true, true, true, true, true, true, true, true, true, false, false] rfl rfl (by kernel_rfl) (by decide) (fun K hK => ?_)
        refine goes_ Try.func12 (by kernel_rfl) rfl #[] (by rfl) rfl rfl (by simp only [List.map_toArray, List.map_cons, List.map_nil]) ?_
        with_reducible refine (speaks_ok _).mono ?_
        rintro e w8 ⟨rfl, hB8⟩
        refine ⟨_, rfl, ?_⟩
        have HB8 := Aside0.mk (below_from HB7.out (Nat.le_refl _) hB8)
        clear hB8
        refine hK.out _ _ trivial (fun hHeld => ?_)
        clear hK K
        refine norm_ (a' := ?_) ?_ ?_
        rotate_left
        · show Act.put _ (some 64) _ = _
          simp only [Act.put, List.setIfInBounds_toArray, List.set_cons_zero, List.set_cons_succ, i64_w, i32_w]
          rfl
        refine pure_ (i := 19) (N := some 65) (v := ?_) (a' := ?_) #[true, true, true, true, true, true, true, true, true, true, true, true, true, true, true, true, true, true, true, true, false] rfl rfl (by kernel_rfl) (fun _ _ _ h => h) (Or.inl ⟨by rfl, ?_⟩) ?_ ?_
        rotate_left
        · intro w'
          go_simp
          with_reducible rfl
        rotate_left
        · simp only [Act.put, List.setIfInBounds_toArray, List.set_cons_zero, List.set_cons_succ, i64_w, i32_w]
          rfl
        refine pure_ (i := 20) (N := some 6) (v := ?_) (a' := ?_) #[true, true, true, true, true, true, true, true, true, true, true, true, true, true, true, true, true, true, true, true, true] rfl rfl (by kernel_rfl) (fun _ _ _ h => h) (Or.inl ⟨by rfl, ?_⟩) ?_ ?_
        rotate_left
        · intro w'
          go_simp
          with_reducible rfl
        rotate_left
        · simp only [Act.put, List.setIfInBounds_toArray, List.set_cons_zero, List.set_cons_succ, i64_w, i32_w]
          rfl
        refine done_ (by kernel_rfl) ?_
        go_wp2
        go_ret
        exact ⟨rfl, HB8.out⟩
end Go.Proofs.Ytebmempiednlgaa.Crc
