/- The laws of layer 2: the sums, what is sealed, the parts. -/
import Derived.Test.YtebmempiednlgaaCrcRef
import Derived.Lib.SlBytesConst
namespace Go.Proofs.Ytebmempiednlgaa.Crc
open Go.RowKit Go.Proofs.YtebmempiednlgaaW.PrintWords Go.Proofs.YtebmempiednlgaaW.PrintLast Go.Proofs.YtebmempiednlgaaW.PrintMore Go.Proofs.Ytebmempiednlgaa.Wire
open Go.Proofs.Ytebmempiednlgaa.Back (AllB numB numB_small)
set_option linter.unusedVariables false
set_option linter.unusedSimpArgs false
theorem C_lit {k : IntKind} (w : World) (xs : List Int) (C : Array Value) (t : TypeId) (fr : Nat × Nat) (hC : C.toList = nums k xs) (hl : xs.length ≤ 9223372036854775807) : Kd.C (Kd.int k) (w.alloc (.cells C t fr)) (some ⟨w.heap.size, 0, none⟩) xs.length xs := by
  refine ⟨rfl, hl, fun _ => ⟨_, rfl, fun j p hj => ⟨[.int k p], rfl, rfl, fun i u hu => ?_⟩⟩⟩
  have hi : i = 0 := by
    have := (List.getElem?_eq_some_iff.1 hu).1
    simp at this
    omega
  subst hi
  have e1 : j * (Kd.int k).sz + 0 = j := by show j * 1 + 0 = j; omega
  rw [e1]
  have hu2 : Value.int k p = u := by simpa using hu
  subst hu2
  rw [show (⟨w.heap.size, 0, none⟩ : Addr).add j = ⟨w.heap.size, j, none⟩ by simp [Addr.add]; omega, World.cell?_alloc_mark, ← Array.getElem?_toList, hC]
  simp [nums, hj]
theorem le_AllB : ∀ (k : Nat) (n : Int), AllB (le n k) := by
  intro k
  induction k with
  | zero => intro n z hz; simp [le] at hz
  | succ k ih =>
    intro n z hz
    rw [le, List.mem_cons] at hz
    rcases hz with rfl | hz
    · omega
    · exact ih _ z hz
theorem AllB_append {xs ys : List Int} (h : AllB xs) (k : AllB ys) : AllB (xs ++ ys) := fun x hx => (List.mem_append.1 hx).elim (h x) (k x)
theorem opOf_seal {xs : List Int} (hb : AllB xs) : opOf (xs ++ le (sumOf xs : Int) 4) = (xs, 0) := by
  have hl : (xs ++ le (sumOf xs : Int) 4).length - 4 = xs.length := by rw [List.length_append, le_length]; omega
  unfold opOf
  rw [if_neg (by rw [List.length_append, le_length]; omega), hl, List.drop_left, List.take_left, if_neg]
  exact fun h => h ((four_eq (le_length _ _) (le_AllB _ _) (sum_lt hb)).2 rfl)
set_option maxRecDepth 100000 in
set_option maxHeartbeats 8000000 in
theorem speaks_ok (w : World) : Calls Try.prog 12 #[] w fun e w' => e = .returned (.bool true) ∧ Below w.heap.size w w' := by
  have kc := fun (w : World) (C : Array Value) (n c : Nat) => Lib.run_convert_bytes_const (P := Try.prog) w 22 5 C n c Try.underlying22 Try.underlying5
  have ab : AllB [97, 98] := by intro x hx; simp at hx; omega
  have a9 : AllB [49, 50, 51, 52, 53, 54, 55, 56, 57] := by intro x hx; simp at hx; omega
  have s9 : sumOf [49, 50, 51, 52, 53, 54, 55, 56, 57] = 3421780262 := by decide +kernel
  have hop := opOf_seal ab
  have hla : ([97, 98] ++ le (sumOf [97, 98] : Int) 4).length = 6 := by rw [List.length_append, le_length]; rfl
  have hlb := AllB_append ab (le_AllB 4 (sumOf [97, 98] : Int))
  have hseal := seal_ok (some ⟨w.heap.size, 0, none⟩) 2 [97, 98] _ (C_lit w [97, 98] #[.int .u8 97, .int .u8 98] 5 (2, 3) rfl (by decide)) ab (by decide)
  generalize ([97, 98] ++ le (sumOf [97, 98] : Int) 4) = ys at hop hla hlb hseal
  have q6 : strOfNums [97, 98] = ⟨#[97, 98]⟩ := rfl
  have Q6 := Aside0.mk q6
  have A9 := Aside0.mk a9
  have S9 := Aside0.mk s9
  have AB := Aside0.mk ab
  have HOP := Aside0.mk hop
  have HLA := Aside0.mk hla
  have HLB := Aside0.mk hlb
  have hB0 : Below w.heap.size w (w.alloc (.cells #[.int .u8 97, .int .u8 98] 5 (2, 3))) := below_alloc (Below.refl _ _) _
  have HB0 := Aside0.mk hB0
  clear q6 a9 s9 ab hop hla hlb hB0
  go_enter Try.func12, Try.ntmps12
  go_wp2_with (first
    | (go_at_call 15; refine hseal.mono ?_; rintro e w2 ⟨u, rfl, hR, hB⟩; obtain ⟨A2, c2, rfl, hc2, hC2⟩ := Kd.R_reads hR; (have HB2 := Aside0.mk (below_from HB0.out (Nat.le_refl _) hB)); (have hopen := open_ok A2 c2 ys w2 hC2 hc2 HLB.out (by have := HLA.out; omega)); rw [HOP.out] at hopen; clear hR hB hC2 hseal)
    | (go_at_call 13; refine hopen.mono ?_; rintro e w3 ⟨u3, rfl, hR3, hB3⟩; obtain ⟨A3, c3, rfl, hc3, hC3⟩ := Kd.R_reads hR3; (have HB3 := Aside0.mk (below_from HB2.out (Nat.le_refl _) hB3)); (have HC3 := Aside0.mk hC3); (have hsum := sum_ok (some ⟨w3.heap.size, 0, none⟩) 9 [49, 50, 51, 52, 53, 54, 55, 56, 57] _ (C_lit w3 [49, 50, 51, 52, 53, 54, 55, 56, 57] #[.int .u8 49, .int .u8 50, .int .u8 51, .int .u8 52, .int .u8 53, .int .u8 54, .int .u8 55, .int .u8 56, .int .u8 57] 5 (9, 10) rfl (by decide)) A9.out); rw [S9.out] at hsum; clear hR3 hB3 hC3 hopen)
    | (go_at_call 10; refine hsum.mono ?_; rintro e w4 ⟨rfl, hd⟩; (have hB4 := below_alloc (Below.refl w3.heap.size w3) (.cells #[.int .u8 49, .int .u8 50, .int .u8 51, .int .u8 52, .int .u8 53, .int .u8 54, .int .u8 55, .int .u8 56, .int .u8 57] 5 (9, 10))); obtain ⟨nd, rfl⟩ := hd; (have hcv := fun W (hB : Below w3.heap.size w3 W) => Kd.C_string (P := Try.prog) (A := A3) (c := c3) Try.underlying22 Try.underlying5 Try.underlying9 (Kd.C_below HC3.out hB)); (have hcv4 := hcv _ (pw_below_drewN hB4 nd)); rw [Q6.out] at hcv4; simp only [List.length_cons, List.length_nil, Nat.reduceAdd] at hcv4; (have HB4 := Aside0.mk (pw_below_drewN (below_from HB3.out (Nat.le_refl _) hB4) nd)); clear hB4 hcv hsum))
  go_ret
  exact ⟨rfl, HB4.out⟩
set_option maxRecDepth 100000 in
set_option maxHeartbeats 8000000 in
theorem sums_ok (n : Int) (A : Option Addr) (c : Nat) (xs : List Int) (w : World) (hr : Kd.C (Kd.int .u8) w A xs.length xs) (hb : AllB xs) :
    Calls Try.prog 3 #[.int .i64 n, .slice A xs.length c] w fun e w' => e = .returned (.bool true) ∧ Below w.heap.size w w' := by
  have hm : ∃ u v : Int, ∀ W, Below w.heap.size w W → (Calls Try.prog 8 #[.int .i64 n, .slice A xs.length c] W fun e w' => e = .returned (.tuple #[.int .i64 u, .int .i64 v]) ∧ Drawn0 W w') ∧ (Calls Try.prog 9 #[.int .i64 n, .slice A xs.length c] W fun e w' => e = .returned (.tuple #[.int .i64 u, .int .i64 v]) ∧ Drawn0 W w') := by
    by_cases hn : 0 ≤ n ∧ n ≤ 4294967295
    · have e : n = (n.toNat : Int) := by omega
      refine ⟨(moreOf n.toNat xs : Int), 0, fun W hB => ⟨?_, ?_⟩⟩
      · have h := more_ok n.toNat (by omega) A c xs W (Kd.C_below hr hB) hb
        rwa [← e] at h
      · have h := refmore_ok n.toNat (by omega) A c xs W (Kd.C_below hr hB) hb
        rwa [← e] at h
    · refine ⟨0, 1, fun W hB => ⟨?_, ?_⟩⟩
      · refine (more_bad n hn A c xs W).mono ?_
        rintro e w' ⟨rfl, rfl⟩
        exact ⟨rfl, Drawn0.refl _⟩
      · refine (refmore_bad n hn A c xs W).mono ?_
        rintro e w' ⟨rfl, rfl⟩
        exact ⟨rfl, Drawn0.refl _⟩
  obtain ⟨u, v, hm⟩ := hm
  have HR := Aside0.mk hr
  have HB := Aside0.mk hb
  have HM := Aside0.mk hm
  have hm1 := (hm w (Below.refl _ _)).1
  clear hr hb hm
  go_enter Try.func3, Try.ntmps3
  go_wp2_with (first
    | (go_at_call 8; refine hm1.mono ?_; rintro e w2 ⟨rfl, ⟨nd, rfl⟩⟩; clear hm1)
    | (go_at_call 9; refine (HM.out _ (pw_below_drewN (Below.refl _ _) _)).2.mono ?_; rintro e w3 ⟨rfl, ⟨nd3, rfl⟩⟩)
    | (go_at_call 10; refine (sum_ok A c xs _ (Kd.C_below HR.out (pw_below_drewN (Below.refl _ _) _)) HB.out).mono ?_; rintro e w4 ⟨rfl, ⟨nd4, rfl⟩⟩)
    | (go_at_call 11; refine (refsum_ok A c xs _ (Kd.C_below HR.out (pw_below_drewN (Below.refl _ _) _)) HB.out).mono ?_; rintro e w5 ⟨rfl, ⟨nd5, rfl⟩⟩)
    | (go_at_call 12; refine (speaks_ok _).mono ?_; rintro e w6 ⟨rfl, hB6⟩; (have HB6 := Aside0.mk (below_from (pw_below_drewN (Below.refl w.heap.size w) _) (Nat.le_refl _) hB6)); clear hB6))
  go_ret
  exact ⟨rfl, HB6.out⟩
set_option maxRecDepth 100000 in
set_option maxHeartbeats 8000000 in
theorem seals_ok (A : Option Addr) (c : Nat) (xs : List Int) (w : World) (hr : Kd.C (Kd.int .u8) w A xs.length xs) (hc : xs.length ≤ c) (hb : AllB xs) (hl : xs.length ≤ 140737488351232) :
    Calls Try.prog 4 #[.slice A xs.length c] w fun e w' => e = .returned (.bool true) ∧ Below w.heap.size w w' := by
  have hop := open_ok A c xs w hr hc hb (by omega)
  have hopR := fun W (hB : Below w.heap.size w W) => refopen_ok A c xs W (Kd.C_below hr hB) hc hb (by omega)
  have hse := fun W (hB : Below w.heap.size w W) => seal_ok A c xs W (Kd.C_below hr hB) hb hl
  have hseR := fun W (hB : Below w.heap.size w W) => refseal_ok A c xs W (Kd.C_below hr hB) hb hl
  generalize xs ++ le (sumOf xs : Int) 4 = ys at hse hseR
  generalize (opOf xs).1 = os at hop hopR
  generalize (opOf xs).2 = oe at hop hopR
  obtain ⟨sy, hsy⟩ : ∃ s, s = strOfNums ys := ⟨_, rfl⟩
  obtain ⟨so, hso⟩ : ∃ s, s = strOfNums os := ⟨_, rfl⟩
  have hcvy : ∀ (A : Option Addr) (c : Nat) (W : World), Kd.C (Kd.int .u8) W A ys.length ys → (convert 22 9 (.slice A ys.length c)).run Try.prog W = .ok (.string sy) W := by
    intro A c W h
    rw [hsy]
    exact Kd.C_string Try.underlying22 Try.underlying5 Try.underlying9 h
  have hcvo : ∀ (A : Option Addr) (c : Nat) (W : World), Kd.C (Kd.int .u8) W A os.length os → (convert 22 9 (.slice A os.length c)).run Try.prog W = .ok (.string so) W := by
    intro A c W h
    rw [hso]
    exact Kd.C_string Try.underlying22 Try.underlying5 Try.underlying9 h
  have HOPR := Aside0.mk hopR
  have HSE := Aside0.mk hse
  have HSER := Aside0.mk hseR
  have HCVY := Aside0.mk hcvy
  have HCVO := Aside0.mk hcvo
  clear hr hb hc hl hopR hse hseR hcvy hcvo hsy hso
  go_enter Try.func4, Try.ntmps4
  go_upto_region 3 with (first
    | (go_at_call 13; refine hop.mono ?_; rintro e w2 ⟨u, rfl, hR, hB⟩; obtain ⟨A2, c2, rfl, hc2, hC2⟩ := Kd.R_reads hR; (have HB2 := Aside0.mk hB); (have HC2 := Aside0.mk hC2); (have hop2 := HOPR.out w2 hB); clear hR hB hC2 hc2 hop)
    | (go_at_call 14; refine hop2.mono ?_; rintro e w3 ⟨A3, c3, rfl, hc3, hC3, hB3⟩; (have HB3 := Aside0.mk (below_from HB2.out (Nat.le_refl _) hB3)); (have HC32 := Aside0.mk (Kd.C_below HC2.out hB3)); (have HC33 := Aside0.mk hC3); clear hB3 hC3 hc3 hop2))
  go_region_with (first
    | (go_at_call 15; refine (HSE.out _ (below_drew HB3.out)).mono ?_; rintro e w4 ⟨u4, rfl, hR4, hB4⟩; obtain ⟨A4, c4, rfl, hc4, hC4⟩ := Kd.R_reads hR4; (have HB4 := Aside0.mk (below_from (below_drew HB3.out) (Nat.le_refl _) hB4)); (have HC42 := Aside0.mk (Kd.C_below (Kd.C_below HC32.out (below_drew (Below.refl _ _))) hB4)); (have HC43 := Aside0.mk (Kd.C_below (Kd.C_below HC33.out (below_drew (Below.refl _ _))) hB4)); (have HC44 := Aside0.mk hC4); (have hq44 := HCVY.out A4 c4 w4 hC4); clear hR4 hB4 hC4 hc4)
    | (go_at_call 16; refine (HSER.out _ HB4.out).mono ?_; rintro e w5 ⟨u5, rfl, hR5, hB5⟩; obtain ⟨A5, c5, rfl, hc5, hC5⟩ := Kd.R_reads hR5; (have HB5 := Aside0.mk (below_from HB4.out (Nat.le_refl _) hB5)); (have hq54 := HCVY.out A4 c4 w5 (Kd.C_below HC44.out hB5)); (have hq55 := HCVY.out A5 c5 w5 hC5); (have hq52 := HCVO.out A2 c2 w5 (Kd.C_below HC42.out hB5)); (have hq53 := HCVO.out A3 c3 w5 (Kd.C_below HC43.out hB5)); clear hR5 hB5 hC5 hc5)
    | (go_at_call 12; refine (speaks_ok _).mono ?_; rintro e w6 ⟨rfl, hB6⟩; (have HB6 := Aside0.mk (below_from HB5.out (Nat.le_refl _) hB6)); clear hB6))
  all_goals
    go_wp2
    go_ret
    exact ⟨rfl, HB6.out⟩
theorem crcS_append (s : Nat) (xs ys : List Int) : crcS s (xs ++ ys) = crcS (crcS s xs) ys := List.foldl_append
theorem moreOf_sum {xs ys : List Int} (hb : AllB xs) : moreOf (sumOf xs) ys = sumOf (xs ++ ys) := by
  unfold moreOf sumOf
  rw [Nat.xor_assoc, Nat.xor_self, Nat.xor_zero, crcS_append]
set_option maxRecDepth 100000 in
set_option maxHeartbeats 8000000 in
theorem parts_ok (A : Option Addr) (c : Nat) (xs : List Int) (A' : Option Addr) (c' : Nat) (ys : List Int) (w : World) (hr : Kd.C (Kd.int .u8) w A xs.length xs) (hb : AllB xs) (hr' : Kd.C (Kd.int .u8) w A' ys.length ys) (hb' : AllB ys) (hl : xs.length + ys.length ≤ 140737488351232) :
    Calls Try.prog 5 #[.slice A xs.length c, .slice A' ys.length c'] w fun e w' => e = .returned (.bool true) ∧ Below w.heap.size w w' := by
  have hbz := AllB_append hb hb'
  have hlz : (xs ++ ys).length ≤ 140737488351232 := by rw [List.length_append]; exact hl
  have hop := opOf_seal hbz
  have hlz2 : ((xs ++ ys) ++ le (sumOf (xs ++ ys) : Int) 4).length = (xs ++ ys).length + 4 := by rw [List.length_append, le_length]
  have hbz2 := AllB_append hbz (le_AllB 4 (sumOf (xs ++ ys) : Int))
  have hms := moreOf_sum (ys := ys) hb
  have hse := fun (A : Option Addr) (c : Nat) W (h : Kd.C (Kd.int .u8) W A (xs ++ ys).length (xs ++ ys)) => seal_ok A c (xs ++ ys) W h hbz hlz
  have hsz := fun (A : Option Addr) (c : Nat) W (h : Kd.C (Kd.int .u8) W A (xs ++ ys).length (xs ++ ys)) => sum_ok A c (xs ++ ys) W h hbz
  have hs1 := fun W (hB : Below w.heap.size w W) => sum_ok A c xs W (Kd.C_below hr hB) hb
  have hlt := sum_lt hb
  have hm1 := fun W (hB : Below w.heap.size w W) => more_ok (sumOf xs) (by omega) A' c' ys W (Kd.C_below hr' hB) hb'
  rw [hms] at hm1
  have happ : xs ++ ys = xs ++ ys := rfl
  generalize hzz : xs ++ ys = zs at *
  generalize zs ++ le (sumOf zs : Int) 4 = ts at *
  obtain ⟨sz, hsz0⟩ : ∃ s, s = strOfNums zs := ⟨_, rfl⟩
  have hcvz : ∀ (A : Option Addr) (c : Nat) (W : World), Kd.C (Kd.int .u8) W A zs.length zs → (convert 22 9 (.slice A zs.length c)).run Try.prog W = .ok (.string sz) W := by
    intro A c W h
    rw [hsz0]
    exact Kd.C_string Try.underlying22 Try.underlying5 Try.underlying9 h
  have hopn := fun (A : Option Addr) (c : Nat) W (h : Kd.C (Kd.int .u8) W A ts.length ts) (hc : ts.length ≤ c) => open_ok A c ts W h hc hbz2 (by omega)
  rw [hop] at hopn
  have HR := Aside0.mk hr
  have HR' := Aside0.mk hr'
  have HL := Aside0.mk hl
  have HZZ := Aside0.mk hzz
  have HSE := Aside0.mk hse
  have HSZ := Aside0.mk hsz
  have HS1 := Aside0.mk hs1
  have HM1 := Aside0.mk hm1
  have HCVZ := Aside0.mk hcvz
  have HOPN := Aside0.mk hopn
  clear hr hr' hb hb' hl hbz hlz hop hlz2 hbz2 hms hse hsz hs1 hlt hm1 happ hzz hsz0 hcvz hopn
  go_enter Try.func5, Try.ntmps5
  go_wp2_with (first
    | ((with_reducible refine gate_builtin (b := .append) (xs := #[.tmp 10, .tmp 11]) rfl ?_); at_builtin; refine Kd.R_append_row (Value.int .u8) (0 : Int) (h1 := fun _ => rfl) (w0 := w) w.heap.size rfl (.tmp 10) (.tmp 11) 22 5 (.int .u8 0) 1 rfl Try.underlying22 info8 rfl (by decide) (.slice none 0 0) [] xs A xs.length c (fun _ => True) rfl rfl (fun _ _ => trivial) (Kd.R_nil _ _ _ _ _) HR.out (Below.refl _ _) (Nat.le_refl _) ?aL ?_; (case aL => (have := HL.out; simp; omega)); intro v1 w1 ho hbel hg hat; rw [List.nil_append] at ho; obtain ⟨A1, c1, rfl⟩ := Kd.R_slice ho; (have HO1 := Aside0.mk ho); (have HB1 := Aside0.mk hbel); clear ho hbel hg hat)
    | ((with_reducible refine gate_builtin (b := .append) (xs := #[.tmp 13, .tmp 14]) rfl ?_); at_builtin; refine Kd.R_append_row (Value.int .u8) (0 : Int) (h1 := fun _ => rfl) (w0 := w) w.heap.size rfl (.tmp 13) (.tmp 14) 22 5 (.int .u8 0) 1 rfl Try.underlying22 info8 rfl (by decide) (.slice A1 xs.length c1) xs ys A' ys.length c' (fun _ => True) rfl rfl (fun _ _ => trivial) HO1.out (Kd.C_below HR'.out HB1.out) HB1.out HB1.out.size (by have := HL.out; omega) ?_; intro v2 w2 ho hbel hg hat; rw [HZZ.out] at ho; obtain ⟨A2, c2, rfl, hc2, hC2⟩ := Kd.R_reads ho; (have HC2 := Aside0.mk hC2); (have HB2 := Aside0.mk hbel); (have hs2 := HS1.out w2 hbel); clear ho hbel hg hat hC2 hc2)
    | (go_at_call 10; refine hs2.mono ?_; rintro e w3 ⟨rfl, ⟨nd3, rfl⟩⟩; (have hm3 := HM1.out _ (pw_below_drewN HB2.out nd3)); clear hs2)
    | (go_at_call 8; refine hm3.mono ?_; rintro e w4 ⟨rfl, ⟨nd4, rfl⟩⟩; clear hm3)
    | (go_at_call 15; refine (HSE.out A2 c2 _ (Kd.C_below HC2.out (pw_below_drewN (Below.refl _ _) _))).mono ?_; rintro e w5 ⟨u5, rfl, hR5, hB5⟩; obtain ⟨A5, c5, rfl, hc5, hC5⟩ := Kd.R_reads hR5; (have HB5 := Aside0.mk (below_from (pw_below_drewN HB2.out _) (Nat.le_refl _) hB5)); (have HC5 := Aside0.mk (Kd.C_below (Kd.C_below HC2.out (pw_below_drewN (Below.refl _ _) _)) hB5)); (have hop5 := HOPN.out A5 c5 w5 hC5 hc5); clear hR5 hB5 hC5 hc5)
    | (go_at_call 13; refine hop5.mono ?_; rintro e w6 ⟨u6, rfl, hR6, hB6⟩; obtain ⟨A6, c6, rfl, hc6, hC6⟩ := Kd.R_reads hR6; (have HB6 := Aside0.mk (below_from HB5.out (Nat.le_refl _) hB6)); (have hC6z := (Kd.C_below HC5.out hB6)); (have HC6z := Aside0.mk hC6z); (have HC6 := Aside0.mk hC6); (have hsz6 := HSZ.out A2 c2 w6 hC6z); clear hR6 hB6 hC6 hC6z hc6 hop5)
    | (go_at_call 10; refine hsz6.mono ?_; rintro e w7 ⟨rfl, ⟨nd7, rfl⟩⟩; (have HB7 := Aside0.mk (pw_below_drewN HB6.out nd7)); (have hq1 := HCVZ.out A2 c2 _ (Kd.C_below HC6z.out (pw_below_drewN (Below.refl _ _) nd7))); (have hq2 := HCVZ.out A6 c6 _ (Kd.C_below HC6.out (pw_below_drewN (Below.refl _ _) nd7))); clear hsz6)
    | (go_at_call 12; refine (speaks_ok _).mono ?_; rintro e w8 ⟨rfl, hB8⟩; (have HB8 := Aside0.mk (below_from HB7.out (Nat.le_refl _) hB8)); clear hB8))
  go_ret
  exact ⟨rfl, HB8.out⟩
end Go.Proofs.Ytebmempiednlgaa.Crc
