/- The law PointsRedo, walked. -/
import Derived.Test.YtbpnigldojpapaaPointsLaw
namespace Go.Proofs.Ytbpnigldojpapaa.Points
open Go.RowKit Go.Proofs.YtbpnigldojpapaaW.PrintWords Go.Proofs.YtbpnigldojpapaaW.PrintLast Go.Proofs.YtbpnigldojpapaaW.PrintMore Go.Proofs.Ytbpnigldojpapaa.Wire Go.Proofs.Ytbpnigldojpapaa.Crc Go.Proofs.Ytbpnigldojpapaa.Pr
open Go.Proofs.Ytbpnigldojpapaa.Back (AllB numB numB_small)
set_option linter.unusedVariables false
set_option linter.unusedSimpArgs false
theorem info64 : (Try.prog.info? 3).map (fun i => (i.zero, i.size, i.bytes)) = some (some (.int .i64 0), 1, 8) := by kernel_rfl
def LawIn (w : World) (fs : List Int) (v5 v14 : Value) (wr : World) : Prop :=
  ∃ k : Nat, k ≤ fs.length ∧ v14 = .int .i64 k ∧ Aside0 (Kd.R (Kd.int .i64) 3 wr w.heap.size (fun _ => True) v5 (fs.take k)) ∧ Aside0 (Below w.heap.size w wr)
set_option maxRecDepth 100000 in
set_option maxHeartbeats 8000000 in
theorem lawredo_ok (A : Option Addr) (c : Nat) (l : List S25) (last : Int) (w : World) (hr : Kd.C k25 w A l.length l) (hl : l.length ≤ 8796093022208) :
    Calls Try.prog 3 #[.slice A l.length c, .int .i64 last] w fun e w' => e = .returned (.bool true) ∧ Below w.heap.size w w' := by
  have hre := fun W (hB : Below w.heap.size w W) => redo_ok A c l last W (Kd.C_below hr hB) hl
  obtain ⟨fs, hfs⟩ : ∃ fs, fs = l.map (·.f1) := ⟨_, rfl⟩
  have hfl : fs.length = l.length := by rw [hfs, List.length_map]
  have hrr := fun (A : Option Addr) (c : Nat) W (h : Kd.C (Kd.int .i64) W A fs.length fs) => refredo_ok A c fs last W h (by rw [hfl]; exact hl)
  rw [← hfs] at hre
  generalize redoF last fs = T at hre hrr
  obtain ⟨t1, t2⟩ := T
  dsimp only at hre hrr
  have HR := Aside0.mk hr
  have HFS := Aside0.mk hfs
  have HFL := Aside0.mk hfl
  have HL := Aside0.mk hl
  have HRE := Aside0.mk hre
  have HRR := Aside0.mk hrr
  have hna : l.length ≤ 9223372036854775807 := hr.2.1
  clear hr hl hre hrr hfs hfl
  go_enter Try.func3, Try.ntmps3
  go_wp2
  go_loopw [5, 14] (fun v5 v14 wr => LawIn w fs v5 v14 wr) (fun _ v14 _ => l.length - (intOf v14).toNat)
  case atStart => exact ⟨0, by omega, rfl, ⟨Kd.R_nil _ _ _ _ _⟩, ⟨Below.refl _ _⟩⟩
  case round =>
    obtain ⟨k, hk, rfl, HRk, HB⟩ := hrel
    rw [HFL.out] at hk
    obtain ⟨ys, hys⟩ : ∃ ys, ys = fs.take k := ⟨_, rfl⟩
    rw [← hys] at HRk
    obtain ⟨A1, c1, rfl⟩ := Kd.R_slice HRk.out
    by_cases hlt : k < l.length
    · have hltI : (k : Int) < (l.length : Int) := by omega
      have hk0 : (0 : Int) ≤ (k : Int) := by omega
      have hkm : (k : Int) < 140737488355328 := by have := HL.out; omega
      obtain ⟨ad, rfl, hx0, hx1⟩ := at_T25 (Kd.C_below HR.out HB.out) (k : Int) hk0 hltI
      have hdr : fs.take (k + 1) = ys ++ [(rd_T25 l (k : Int)).f1] := by
        rw [hys, HFS.out]
        rw [List.take_add_one, List.getElem?_eq_getElem (by rw [List.length_map]; exact hlt)]
        simp [rd_T25, List.getD_eq_getElem?_getD, hlt]
      rw [Int.toNat_natCast] at hx0 hx1
      generalize rd_T25 l (k : Int) = x at hx0 hx1 hdr
      obtain ⟨x0, x1⟩ := x
      dsimp only at hx0 hx1 hdr
      have hyl : ys.length = k := by rw [hys, List.length_take, HFL.out]; omega
      have HYL := Aside0.mk hyl
      have HSZ : Aside0 ((wr.alloc (.cells #[.int .i64 x0, .int .i64 x1] 25)).heap.size = wr.heap.size + 1) := ⟨by show (wr.heap.push _).size = _; simp⟩
      have HDR := Aside0.mk hdr
      clear hyl hdr hys
      go_wp2_with ((with_reducible refine gate_builtin (b := .append) (xs := #[.tmp 18, .tmp 21]) rfl ?_); at_builtin; refine Kd.R_append (Kd.int .i64) (w0 := w) w.heap.size rfl (.tmp 18) (.tmp 21) 23 3 (.int .i64 0) 8 rfl Try.underlying23 info64 rfl (by decide) (by omega) (.slice A1 ys.length c1) ys x1 [.int .i64 x1] (fun _ => True) (fun _ => False) rfl ?aX ?aP (fun _ hk => hk.elim) ?aF ?aO ?aB ?aS ?aL ?_; (case aX => rw [HSZ.out]; rfl); (case aP => exact rfl); (case aF => exact (fun _ _ => trivial)); (case aO => exact Kd.R_below HRk.out (below_alloc (Below.refl _ _) _)); (case aB => exact HB.out.alloc HB.out.size _); (case aS => exact (HB.out.alloc HB.out.size _).size); (case aL => (have := HL.out; have := HYL.out; omega)); intro v1 w1 ho hbel hg hat; obtain ⟨A7, c7, rfl⟩ := Kd.R_slice ho; (have HO := Aside0.mk ho); (have HB1 := Aside0.mk hbel); clear ho hbel hg hat)
      exact ⟨⟨k + 1, by rw [HFL.out]; omega, by simp, ⟨by rw [HDR.out]; have q := HO.out; rwa [show (ys ++ [x1]).length = ys.length + 1 by simp] at q⟩, HB1⟩, by simp [intOf]; omega⟩
    · have hnlt : ¬ (k : Int) < (l.length : Int) := by omega
      have hyl : ys = fs := by rw [hys]; exact List.take_of_length_le (by rw [HFL.out]; omega)
      clear hys
      subst hyl
      obtain ⟨A7, c7, hv, _, hC⟩ := Kd.R_reads HRk.out
      have hC7 : Kd.C (Kd.int .i64) wr A1 ys.length ys := by
        injection hv with h1 h2 h3
        rw [h1]
        exact hC
      have HC := Aside0.mk hC7
      have hre := HRE.out wr HB.out
      clear hv hC hC7
      go_wp2_with (first
        | (go_at_call 7; refine hre.mono ?_; rintro e w2 ⟨rfl, hB2⟩; (have hrr := HRR.out A1 c1 w2 (Kd.C_below HC.out hB2)); (have HB2 := Aside0.mk (below_from HB.out (Nat.le_refl _) hB2)); clear hB2 hre)
        | (go_at_call 8; refine hrr.mono ?_; rintro e w3 ⟨rfl, hB3⟩; (have HB3 := Aside0.mk (below_from HB2.out (Nat.le_refl _) hB3)); clear hB3 hrr)
        | (go_at_call 9; refine (speaks_ok _).mono ?_; rintro e w8 ⟨rfl, hB8⟩; (have HB8 := Aside0.mk (below_from HB3.out (Nat.le_refl _) hB8)); clear hB8))
      go_ret
      exact ⟨rfl, HB8.out⟩
end Go.Proofs.Ytbpnigldojpapaa.Points
