/- The law WireShort, walked. -/
import Derived.Test.YtjipjoadeeapnaaCutRd
namespace Go.Proofs.Ytjipjoadeeapnaa.Wire
open Go.RowKit Go.Proofs.YtjipjoadeeapnaaW.PrintWords Go.Proofs.YtjipjoadeeapnaaW.PrintLast Go.Proofs.YtjipjoadeeapnaaW.PrintMore Go.Proofs.Ytjipjoadeeapnaa.Pr
open Go.Proofs.Ytjipjoadeeapnaa.Back (AllB)
set_option linter.unusedVariables false
set_option linter.unusedSimpArgs false
set_option maxRecDepth 100000 in
set_option maxHeartbeats 16000000 in
theorem short_ok (A1 : Option Addr) (c1 : Nat) (l : List S27) (cut : Int) (w : World) (hl : wlen l ≤ 4194304) (hn : ∀ x ∈ l, x.f0 < 9223372036854775808)
    (hrl : Kd.C k27 w A1 l.length l) :
    Calls Try.prog 5 #[.slice A1 l.length c1, .int .i64 cut] w fun e w' => e = .returned (.bool true) ∧ Below w.heap.size w w' := by
  have hlen : l.length ≤ 9223372036854775807 := hrl.2.1
  have HRL := Aside0.mk hrl
  have HN := Aside0.mk hn
  have HL := Aside0.mk hl
  have HLL := Aside0.mk (length_wlen l)
  have hnew := new_ok w
  clear hrl hn hl
  go_enter Try.func5, Try.ntmps5
  go_upto_region 7 with (first
    | (go_at_call 9; refine hnew.mono ?_; rintro e w1 ⟨rfl, hw1, hB1⟩; (have HW1 := Aside0.mk (show Kept2 w w1 w.heap.size (fun k => k = w.heap.size) (.slice none 0 0) (.slice none 0 0) (encs []) [] [] from ⟨hw1, fun k hk => by rw [hk]; exact Nat.le_refl _, Kd.R_nil _ _ _ _ _, Kd.R_nil _ _ _ _ _, fun k hk => by simp [Value.ownBlock] at hk, fun k hk => by simp [Value.ownBlock] at hk, fun k hk => by simp [Value.ownBlock] at hk, hB1⟩)); clear hw1 hB1 hnew))
  have hlen0 : (0 : Int) ≤ (l.length : Int) := by omega
  go_loopw [6, 7, 24] (fun v6 v7 v24 wr => ∃ (k : Nat) (F : Nat → Prop) (kept : List S27) (ends : List Int), k ≤ l.length ∧ v24 = .int .i64 k ∧ Aside0 (EndsOf kept ends) ∧ Aside0 (Kept2 w wr w.heap.size F v6 v7 (encs kept) kept ends) ∧ Aside0 (∀ x ∈ kept, okI x = true) ∧ Aside0 ((encs kept).length + wlen (l.drop k) ≤ 4194304 ∧ kept.length ≤ k)) (fun _ _ v24 _ => l.length - (intOf v24).toNat)
  case atStart => exact ⟨0, _, [], [], by omega, rfl, ⟨rfl, fun i hi => by simp at hi⟩, HW1, ⟨fun x hx => by simp at hx⟩, ⟨by simpa [encs] using HL.out, by simp⟩⟩
  case round =>
    obtain ⟨k, F, kept, ends, hk, rfl, HEN, HBO, HOK, HYS⟩ := hrel
    obtain ⟨A4, c4, rfl⟩ := Kd.R_slice HBO.out.row6
    obtain ⟨A7, c7, rfl⟩ := Kd.R_slice HBO.out.row7
    by_cases hlt : k < l.length
    · have hltI : (k : Int) < (l.length : Int) := by omega
      have hk0 : (0 : Int) ≤ (k : Int) := by omega
      obtain ⟨ad, rfl, hx0, hx1, hx2⟩ := at_T27 (Kd.C_below HRL.out HBO.out.below) (k : Int) hk0 hltI
      rw [Int.toNat_natCast] at hx0 hx1 hx2
      have hwl := wlen_drop hlt
      have hxn : (rd_T27 l (k : Int)).f0 < 9223372036854775808 := HN.out _ (rd_mem hlt)
      generalize rd_T27 l (k : Int) = x at hx0 hx1 hx2 hwl hxn
      obtain ⟨xn, xz, xt⟩ := x
      dsimp only at hx0 hx1 hx2 hwl hxn
      have hFlt : ∀ j, F j → j < wr.heap.size := by obtain ⟨_, _, _, _, _, h⟩ := HBO.out.at_; exact h
      obtain ⟨BX, hBX⟩ : ∃ o, o = Obj.cells #[.int .i64 xn, .int .i64 xz, .string xt] 27 := ⟨_, rfl⟩
      have HBO1 := Aside0.mk (HBO.out.alloc BX)
      have hbx : ∀ W', Chg (wr.alloc BX) W' F → W'.cell? ⟨wr.heap.size, 0, none⟩ = some (.int .i64 xn) ∧ W'.cell? ⟨wr.heap.size, 1, none⟩ = some (.int .i64 xz) ∧ W'.cell? ⟨wr.heap.size, 2, none⟩ = some (.string xt) := by
        intro W' h
        have h2 := h.blk (heap_alloc_new wr _) (fun e => by have := hFlt _ e; omega)
        rw [hBX] at h2
        refine ⟨?_, ?_, ?_⟩ <;> simp [World.cell?, h2]
      have HKL : Aside0 ((kept.length + 1) * 32 ≤ 140737488355328) := ⟨by have := HYS.out.2; have := HL.out; have := HLL.out; omega⟩
      have HEL7 : Aside0 ((ends.length + 1) * 8 ≤ 140737488355328) := ⟨by have := HEN.out.1; have := HKL.out; omega⟩
      by_cases hz : xz = 0
      · subst hz
        have htx := wtext_any w.heap.size (encs kept) F xt (wr.alloc BX) HBO1.out.at_ (by have := HYS.out.1; omega)
        by_cases hs : xt.size ≤ 65535
        · have hok : okI ⟨xn, 0, xt⟩ = true := by unfold okI; rw [if_pos rfl]; exact decide_eq_true hs
          have henc : encI ⟨xn, 0, xt⟩ = le xt.size 2 ++ bytesOf xt := by unfold encI; rw [if_pos rfl]
          rw [if_pos hs, if_pos hs, ← henc, ← encs_snoc] at htx
          have HOK2 := Aside0.mk hok
          have HEL := Aside0.mk (encI_length hok)
          obtain ⟨YS, hYS⟩ : ∃ YS, YS = encs (kept ++ [⟨xn, 0, xt⟩]) := ⟨_, rfl⟩
          rw [← hYS] at htx
          have HYSS := Aside0.mk hYS
          have HBL : Aside0 (YS.length ≤ 140737488355328) := ⟨by have := HYS.out.1; have := HEL.out; rw [hYS, encs_snoc, List.length_append]; (try dsimp only at this); omega⟩
          clear hYS
          rw [hBX] at htx
          clear hok henc
          go_upto_region 10 with (first
            | (go_at_call 10; refine htx.mono ?_; rintro e w5 ⟨rfl, hg5⟩; rw [← hBX] at hg5; (have h52 := hg5.choose_spec.2.1); obtain ⟨b0, b1, b2⟩ := hbx _ h52; obtain ⟨F', hb⟩ := HBO1.out.gone hg5; (have HK5 := Aside0.mk hb); clear hb h52 hg5))
          go_wp2_with (first
            | ((with_reducible refine gate_builtin (b := .append) (xs := #[.tmp 52, .tmp 54]) rfl ?_); at_builtin; refine Kd.R_append k27 (w0 := w) w.heap.size rfl (.tmp 52) (.tmp 54) 22 27 (.agg #[.int .i64 0, .int .i64 0, .string ⟨#[]⟩]) 32 rfl Try.underlying22 infoI rfl (by decide) (by omega) (.slice A4 kept.length c4) kept ⟨xn, 0, xt⟩ [.int .i64 xn, .int .i64 0, .string xt] (fun _ => True) (fun _ => False) rfl rfl (k27_mkM _ _ _ _) (fun _ hk => hk.elim) (fun _ _ => trivial) HK5.out.row6 HK5.out.below HK5.out.below.size HKL.out ?_; intro v1 w7 ho hbel hg hat; (have HNEW0 := Aside0.mk (HK5.out.app6 ho hbel hg hat)); clear ho hbel hg hat; (have hby8 := bytes_from (w := w7) ⟨F', HNEW0.out.at_, HNEW0.out.low⟩ HBL.out))
            | (go_at_call 15; refine hby8.mono ?_; rintro e w8 ⟨A8, c8, rfl, _, _, hB8, _⟩; (have HK8 := Aside0.mk (HNEW0.out.step (Chg.of_below hB8 _))); clear hB8 hby8)
            | ((with_reducible refine gate_builtin (b := .append) (xs := #[.tmp 56, .tmp 60]) rfl ?_); at_builtin; refine Kd.R_append (Kd.int .i64) (w0 := w) w.heap.size rfl (.tmp 56) (.tmp 60) 42 3 (.int .i64 0) 8 rfl Try.underlying42 infoN rfl (by decide) (by omega) (.slice A7 ends.length c7) ends (YS.length : Int) [.int .i64 (YS.length : Int)] (fun _ => True) (fun _ => False) rfl rfl rfl (fun _ hk => hk.elim) (fun _ _ => trivial) HK8.out.row7 HK8.out.below HK8.out.below.size HEL7.out ?_; intro v2 w9 ho hbel hg hat; (have HNEW := Aside0.mk (HK8.out.app7 ho hbel hg hat)); clear ho hbel hg hat))
          go_roundw
          case rel =>
            refine ⟨k + 1, F', kept ++ [⟨xn, 0, xt⟩], _, by omega, by go_num, ⟨by have h := HEN.out.snoc ⟨xn, 0, xt⟩; rw [← HYSS.out] at h; exact h⟩, by rw [← HYSS.out]; exact HNEW, ⟨?_⟩, ⟨?_, ?_⟩⟩
            · intro y hy
              rcases List.mem_append.1 hy with h | h
              · exact HOK.out y h
              · rw [List.mem_singleton] at h; subst h; exact HOK2.out
            · have := HYS.out.1; have := HEL.out; rw [encs_snoc, List.length_append]; (try dsimp only at this); omega
            · have := HYS.out.2; simp; omega
          case measure => simp [intOf]; omega
        · rw [if_neg hs, if_neg hs] at htx
          rw [hBX] at htx
          go_wp2_with (first
            | (go_at_call 10; refine htx.mono ?_; rintro e w5 ⟨rfl, hg5⟩; rw [← hBX] at hg5; (have h52 := hg5.choose_spec.2.1); obtain ⟨b0, b1, b2⟩ := hbx _ h52; obtain ⟨F', hb⟩ := HBO1.out.gone hg5; (have HNEW := Aside0.mk hb); clear hb h52 hg5))
          go_roundw
          case rel => exact ⟨k + 1, F', _, _, by omega, by go_num, HEN, HNEW, HOK, ⟨by have := HYS.out.1; omega, by have := HYS.out.2; omega⟩⟩
          case measure => simp [intOf]; omega
      · have hz1 : (xz == 0) = false := beq_eq_false_iff_ne.mpr hz
        have hz2 : (xz != 0) = true := bne_iff_ne.mpr hz
        have htx := wnum_any w.heap.size (encs kept) F xn xz (wr.alloc BX) HBO1.out.at_ hxn (by have := HYS.out.1; omega)
        by_cases hs : numOk xn xz = true
        · have hok : okI ⟨xn, xz, xt⟩ = true := by unfold okI; rw [if_neg hz]; exact hs
          have henc : encI ⟨xn, xz, xt⟩ = le xn xz.toNat := by unfold encI; rw [if_neg hz]
          rw [if_pos hs, if_pos hs, ← henc, ← encs_snoc] at htx
          have HOK2 := Aside0.mk hok
          have HEL := Aside0.mk (encI_length hok)
          obtain ⟨YS, hYS⟩ : ∃ YS, YS = encs (kept ++ [⟨xn, xz, xt⟩]) := ⟨_, rfl⟩
          rw [← hYS] at htx
          have HYSS := Aside0.mk hYS
          have HBL : Aside0 (YS.length ≤ 140737488355328) := ⟨by have := HYS.out.1; have := HEL.out; rw [hYS, encs_snoc, List.length_append]; (try dsimp only at this); omega⟩
          clear hYS
          rw [hBX] at htx
          clear hok henc
          go_upto_region 10 with (first
            | (go_at_call 12; refine htx.mono ?_; rintro e w5 ⟨rfl, hg5⟩; rw [← hBX] at hg5; (have h52 := hg5.choose_spec.2.1); obtain ⟨b0, b1, b2⟩ := hbx _ h52; obtain ⟨F', hb⟩ := HBO1.out.gone hg5; (have HK5 := Aside0.mk hb); clear hb h52 hg5))
          go_wp2_with (first
            | ((with_reducible refine gate_builtin (b := .append) (xs := #[.tmp 52, .tmp 54]) rfl ?_); at_builtin; refine Kd.R_append k27 (w0 := w) w.heap.size rfl (.tmp 52) (.tmp 54) 22 27 (.agg #[.int .i64 0, .int .i64 0, .string ⟨#[]⟩]) 32 rfl Try.underlying22 infoI rfl (by decide) (by omega) (.slice A4 kept.length c4) kept ⟨xn, xz, xt⟩ [.int .i64 xn, .int .i64 xz, .string xt] (fun _ => True) (fun _ => False) rfl rfl (k27_mkM _ _ _ _) (fun _ hk => hk.elim) (fun _ _ => trivial) HK5.out.row6 HK5.out.below HK5.out.below.size HKL.out ?_; intro v1 w7 ho hbel hg hat; (have HNEW0 := Aside0.mk (HK5.out.app6 ho hbel hg hat)); clear ho hbel hg hat; (have hby8 := bytes_from (w := w7) ⟨F', HNEW0.out.at_, HNEW0.out.low⟩ HBL.out))
            | (go_at_call 15; refine hby8.mono ?_; rintro e w8 ⟨A8, c8, rfl, _, _, hB8, _⟩; (have HK8 := Aside0.mk (HNEW0.out.step (Chg.of_below hB8 _))); clear hB8 hby8)
            | ((with_reducible refine gate_builtin (b := .append) (xs := #[.tmp 56, .tmp 60]) rfl ?_); at_builtin; refine Kd.R_append (Kd.int .i64) (w0 := w) w.heap.size rfl (.tmp 56) (.tmp 60) 42 3 (.int .i64 0) 8 rfl Try.underlying42 infoN rfl (by decide) (by omega) (.slice A7 ends.length c7) ends (YS.length : Int) [.int .i64 (YS.length : Int)] (fun _ => True) (fun _ => False) rfl rfl rfl (fun _ hk => hk.elim) (fun _ _ => trivial) HK8.out.row7 HK8.out.below HK8.out.below.size HEL7.out ?_; intro v2 w9 ho hbel hg hat; (have HNEW := Aside0.mk (HK8.out.app7 ho hbel hg hat)); clear ho hbel hg hat))
          go_roundw
          case rel =>
            refine ⟨k + 1, F', kept ++ [⟨xn, xz, xt⟩], _, by omega, by go_num, ⟨by have h := HEN.out.snoc ⟨xn, xz, xt⟩; rw [← HYSS.out] at h; exact h⟩, by rw [← HYSS.out]; exact HNEW, ⟨?_⟩, ⟨?_, ?_⟩⟩
            · intro y hy
              rcases List.mem_append.1 hy with h | h
              · exact HOK.out y h
              · rw [List.mem_singleton] at h; subst h; exact HOK2.out
            · have := HYS.out.1; have := HEL.out; rw [encs_snoc, List.length_append]; (try dsimp only at this); omega
            · have := HYS.out.2; simp; omega
          case measure => simp [intOf]; omega
        · rw [if_neg hs, if_neg hs] at htx
          rw [hBX] at htx
          go_wp2_with (first
            | (go_at_call 12; refine htx.mono ?_; rintro e w5 ⟨rfl, hg5⟩; rw [← hBX] at hg5; (have h52 := hg5.choose_spec.2.1); obtain ⟨b0, b1, b2⟩ := hbx _ h52; obtain ⟨F', hb⟩ := HBO1.out.gone hg5; (have HNEW := Aside0.mk hb); clear hb h52 hg5))
          go_roundw
          case rel => exact ⟨k + 1, F', _, _, by omega, by go_num, HEN, HNEW, HOK, ⟨by have := HYS.out.1; omega, by have := HYS.out.2; omega⟩⟩
          case measure => simp [intOf]; omega
    · have hltI : ¬ (k : Int) < (l.length : Int) := by omega
      obtain ⟨ys, hys⟩ : ∃ ys, ys = encs kept := ⟨_, rfl⟩
      have hyl : ys.length ≤ 4194304 := by have := HYS.out.1; rw [hys]; omega
      have hby := bytes_from (w := wr) (g := w.heap.size) (b := w.heap.size) (xs := encs kept) ⟨F, HBO.out.at_, HBO.out.low⟩ (by have := HYS.out.1; omega)
      rw [← hys] at hby
      have hkl : kept.length ≤ 4194304 := by have := HYS.out.2; have := HL.out; have := HLL.out; omega
      have HY := Aside0.mk hys
      obtain ⟨m, hm, hcs⟩ : ∃ m : Nat, m ≤ ys.length ∧ ((0 ≤ cut ∧ cut = m) ∨ (cut < 0 ∧ m = ys.length) ∨ ((ys.length : Int) < cut ∧ 0 ≤ cut ∧ m = ys.length)) := by
        by_cases h1 : cut < 0
        · exact ⟨ys.length, Nat.le_refl _, .inr (.inl ⟨h1, rfl⟩)⟩
        · by_cases h2 : (ys.length : Int) < cut
          · exact ⟨ys.length, Nat.le_refl _, .inr (.inr ⟨h2, by omega, rfl⟩)⟩
          · exact ⟨cut.toNat, by omega, .inl ⟨by omega, by omega⟩⟩
      have htk : (ys.take m).length = m := by rw [List.length_take]; omega
      have hcut1 : ∀ (W : World) (A : Option Addr) (c : Nat), ys.length ≤ c → (Instr.slice 25 (.slice A ys.length c) none (some (.int .i64 (m : Int))) none).run Try.prog W = .ok (.slice A m c) W := by
        intro W A c hc
        have h := cut_to (P := Try.prog) 25 5 .i64 Try.underlying25 (info_parts info8).choose_spec.1 A ys.length c (m : Int) (by omega) (by omega) hc W
        rw [Int.toNat_natCast] at h
        exact h
      have HCUT := Aside0.mk hcut1
      have hmI : (m : Int) ≤ (ys.length : Int) := by omega
      have hm0 : (0 : Int) ≤ (m : Int) := by omega
      have HM := Aside0.mk hm
      have HTK := Aside0.mk htk
      clear hcut1 hys hm htk
      rcases hcs with ⟨h1, rfl⟩ | ⟨h1, rfl⟩ | ⟨h1, h2, rfl⟩
      · go_upto_region 20 with (first
          | (go_at_call 15; refine hby.mono ?_; rintro e w5 ⟨A5, c5, rfl, hc5, hC5, hB5, _⟩; (have hct := fun W => HCUT.out W A5 c5 hc5); (have hof := of_from (c := c5) (Kd.C_take hC5 HM.out) (by have := HTK.out; omega)); rw [HTK.out] at hof; (have HB5 := Aside0.mk hB5); clear hC5 hB5 hby)
          | (go_at_call 17; refine hof.mono ?_; rintro e w6 ⟨g2, rfl, hr2, hB2⟩; obtain ⟨Fr, hr2, hr2b⟩ := hr2; (have HR2 := Aside0.mk hr2); (have HR2B := Aside0.mk hr2b); (have HB2 := Aside0.mk hB2); clear hr2 hr2b hB2 hof))
        have HKC : Aside0 (Kd.C k27 w5 A4 kept.length kept) := ⟨by
          obtain ⟨A, c, e, _, hC⟩ := Kd.R_reads HBO.out.row6
          injection e with e1 e2 e3
          subst e1
          exact Kd.C_below hC HB5.out⟩
        have HEC : Aside0 (Kd.C (Kd.int .i64) w5 A7 ends.length ends) := ⟨by
          obtain ⟨A, c, e, _, hC⟩ := Kd.R_reads HBO.out.row7
          injection e with e1 e2 e3
          subst e1
          exact Kd.C_below hC HB5.out⟩
        have hel : ends.length = kept.length := HEN.out.1
        have HEL2 := Aside0.mk hel
        have hw5 : w.heap.size ≤ w5.heap.size := by have := HB5.out.size; have := HBO.out.below.size; omega
        have HBW5 := Aside0.mk (below_from HBO.out.below (Nat.le_refl _) HB5.out)
        have hst : RdInv m (encs (kept.take 0)).length (encs (kept.drop 0)) (ys.take m) 0 := by
          refine ⟨by rw [HY.out]; exact allB_take (encs_allB _) _, by rw [List.length_take]; omega, .inl ⟨by simp [encs], rfl, ?_⟩⟩
          rw [HY.out]
          simp [encs]
        have HST := Aside0.mk hst
        clear hst hel
        go_loopw [83] (fun v83 wx => ∃ (j : Nat) (xs : List Int) (wrong : Int), j ≤ kept.length ∧ v83 = .int .i64 j ∧ Aside0 (RdAt wx g2 xs wrong Fr) ∧ Aside0 (RdInv m (encs (kept.take j)).length (encs (kept.drop j)) xs wrong) ∧ Aside0 (Below w5.heap.size w5 wx)) (fun v83 _ => kept.length - (intOf v83).toNat)
        case atStart => exact ⟨0, _, 0, by omega, rfl, HR2, HST, HB2⟩
        case round =>
          obtain ⟨j, xs, wrong, hj, rfl, HRD, HIN, HB7⟩ := hrel
          have hg2 : w5.heap.size ≤ g2 := HR2B.out g2 HRD.out.mine
          by_cases hjl : j < kept.length
          · have hjI : (j : Int) < (kept.length : Int) := by omega
            have hjE : (j : Int) < (ends.length : Int) := by have := HEL2.out; omega
            have hj0 : (0 : Int) ≤ (j : Int) := by omega
            obtain ⟨ad, rfl, hx0, hx1, hx2⟩ := at_T27 (Kd.C_below HKC.out HB7.out) (j : Int) hj0 hjI
            rw [Int.toNat_natCast] at hx0 hx1 hx2
            obtain ⟨ad7, rfl, hce⟩ := C_cells HEC.out (by have := HEL2.out; omega)
            have hend : ∀ W', Below w5.heap.size w5 W' → W'.cell? (ad7.add j) = some (.int .i64 ((encs (kept.take (j + 1))).length : Int)) := by
              intro W' hB
              obtain ⟨ad8, e, hce8⟩ := C_cells (Kd.C_below HEC.out hB) (by have := HEL2.out; omega)
              injection e with e
              subst e
              rw [← HEN.out.2 j hjl]
              have hje : j < ends.length := by have := HEL2.out; omega
              refine hce8 j _ ?_
              simp only [nums, List.getElem?_map, List.getElem?_eq_getElem hje, List.getD_eq_getElem?_getD, Option.map_some, Option.getD_some]
            rw [encs_take hjl] at hend
            have hok : okI (rd_T27 kept (j : Int)) = true := HOK.out _ (rd_mem hjl)
            have hin := HIN.out
            have hxl : xs.length ≤ 140737488355328 := by have := hin.2.1; have := HM.out; omega
            have hxa := hin.1
            rw [encs_drop hjl] at hin
            have hnext := encs_take hjl
            generalize (encs (kept.take j)).length = off at hend hin hnext
            have hra := encs_allB (kept.drop (j + 1))
            generalize hrest : encs (kept.drop (j + 1)) = rest at hin hra
            generalize hoff : (encs (kept.take (j + 1))).length = off' at hnext
            generalize rd_T27 kept (j : Int) = x at hx0 hx1 hx2 hok hin hend hnext
            obtain ⟨xn, xz, xt⟩ := x
            dsimp only at hx0 hx1 hx2
            obtain ⟨BX, hBX⟩ : ∃ o, o = Obj.cells #[.int .i64 xn, .int .i64 xz, .string xt] 27 := ⟨_, rfl⟩
            have hg7 : g2 < wr.heap.size := by obtain ⟨_, _, h, _⟩ := HRD.out; exact blk_lt h
            have hdone : ∀ W', Chg (wr.alloc BX) W' (At g2) → Below w5.heap.size w5 W' := fun W' h =>
              (below_from HB7.out (Nat.le_refl _) (below_alloc (Below.refl _ _) BX)).trans (h.below (by have := HB7.out.size; simp; omega) (fun k hk => by rw [show k = g2 from hk]; exact hg2))
            have hbx : ∀ W', Chg (wr.alloc BX) W' (At g2) → W'.cell? ⟨wr.heap.size, 0, none⟩ = some (.int .i64 xn) ∧ W'.cell? ⟨wr.heap.size, 1, none⟩ = some (.int .i64 xz) ∧ W'.cell? ⟨wr.heap.size, 2, none⟩ = some (.string xt) ∧ W'.cell? (ad7.add j) = some (.int .i64 (off' : Int)) := by
              intro W' h
              have h2 := h.blk (heap_alloc_new wr _) (fun e => by have e2 : wr.heap.size = g2 := e; omega)
              rw [hBX] at h2
              refine ⟨?_, ?_, ?_, by rw [hnext]; exact hend _ (hdone _ h)⟩ <;> simp [World.cell?, h2]
            have HDONE := Aside0.mk hdone
            have HREST := Aside0.mk hrest
            have HOFF := Aside0.mk hoff
            clear hdone hrest hoff hce hend
            by_cases hz : xz = 0
            · subst hz
              have hs : xt.size ≤ 65535 := by unfold okI at hok; rw [if_pos rfl] at hok; exact of_decide_eq_true hok
              have henc : encI ⟨xn, 0, xt⟩ = le xt.size 2 ++ bytesOf xt := by unfold encI; rw [if_pos rfl]
              rw [henc] at hin hnext
              obtain ⟨s, ee, xs', wrong', hT, hI, hee⟩ := text_step hs hra hin
              have hrt := rdtext_ok g2 xs wrong 65535 Fr (wr.alloc BX) (HRD.out.below (below_alloc (Below.refl _ _) BX)) hxl (take2_ok hxa)
              rw [hT, hBX] at hrt
              rw [← hnext] at hI hee
              have HI := Aside0.mk hI
              generalize strOfNums s = ss at hrt
              clear hok henc hT hI hin hnext hra hxl hxa
              rcases hee with ⟨rfl, hle⟩ | ⟨rfl, hgt⟩
              all_goals
                go_wp2_with (first
                  | (go_at_call 18; refine hrt.mono ?_; rintro e w8 ⟨rfl, hr8, hc8⟩; rw [← hBX] at hc8; obtain ⟨b0, b1, b2, b7⟩ := hbx _ hc8; (have HR8 := Aside0.mk hr8); (have HC8 := Aside0.mk hc8); clear hr8 hc8))
                go_roundw
                case rel => exact ⟨j + 1, _, _, by omega, by go_num, HR8, by rw [HREST.out, HOFF.out]; exact HI, ⟨HDONE.out _ HC8.out⟩⟩
                case measure => simp [intOf]; omega
            · have hz1 : (xz == 0) = false := beq_eq_false_iff_ne.mpr hz
              have hs : numOk xn xz = true := by unfold okI at hok; rw [if_neg hz] at hok; exact hok
              have henc : encI ⟨xn, xz, xt⟩ = le xn xz.toNat := by unfold encI; rw [if_neg hz]
              obtain ⟨s, rfl⟩ : ∃ s : Nat, xz = s := ⟨xz.toNat, by have := top_cases hs; omega⟩
              rw [henc, Int.toNat_natCast] at hin hnext
              obtain ⟨v, ee, xs', wrong', hT, hI, hee⟩ := num_step hs hra hin
              have hrt := rdnum_ok g2 xs wrong (s : Int) Fr (wr.alloc BX) (HRD.out.below (below_alloc (Below.refl _ _) BX)) hxl
              rw [hT, hBX] at hrt
              rw [← hnext] at hI hee
              have HI := Aside0.mk hI
              clear hok henc hT hI hin hnext hra hxl hxa
              rcases hee with ⟨rfl, hle⟩ | ⟨rfl, hgt⟩
              all_goals
                go_wp2_with (first
                  | (go_at_call 19; refine hrt.mono ?_; rintro e w8 ⟨rfl, hr8, hc8⟩; rw [← hBX] at hc8; obtain ⟨b0, b1, b2, b7⟩ := hbx _ hc8; (have HR8 := Aside0.mk hr8); (have HC8 := Aside0.mk hc8); clear hr8 hc8))
                go_roundw
                case rel => exact ⟨j + 1, _, _, by omega, by go_num, HR8, by rw [HREST.out, HOFF.out]; exact HI, ⟨HDONE.out _ HC8.out⟩⟩
                case measure => simp [intOf]; omega
          · have hjI : ¬ (j : Int) < (kept.length : Int) := by omega
            have hsp := speaks_ok wr
            go_wp2_with (first
              | (go_at_call 16; refine hsp.mono ?_; rintro e w9 ⟨rfl, hB9⟩; (have HB9 := Aside0.mk hB9); clear hB9))
            go_ret
            exact ⟨rfl, below_from HBW5.out (Nat.le_refl _) (below_from HB7.out (Nat.le_refl _) HB9.out)⟩
      · go_upto_region 20 with (first
          | (go_at_call 15; refine hby.mono ?_; rintro e w5 ⟨A5, c5, rfl, hc5, hC5, hB5, _⟩; (have hct := fun W => HCUT.out W A5 c5 hc5); (have hof := of_from (c := c5) (Kd.C_take hC5 HM.out) (by have := HTK.out; omega)); rw [HTK.out] at hof; (have HB5 := Aside0.mk hB5); clear hC5 hB5 hby)
          | (go_at_call 17; refine hof.mono ?_; rintro e w6 ⟨g2, rfl, hr2, hB2⟩; obtain ⟨Fr, hr2, hr2b⟩ := hr2; (have HR2 := Aside0.mk hr2); (have HR2B := Aside0.mk hr2b); (have HB2 := Aside0.mk hB2); clear hr2 hr2b hB2 hof))
        have HKC : Aside0 (Kd.C k27 w5 A4 kept.length kept) := ⟨by
          obtain ⟨A, c, e, _, hC⟩ := Kd.R_reads HBO.out.row6
          injection e with e1 e2 e3
          subst e1
          exact Kd.C_below hC HB5.out⟩
        have HEC : Aside0 (Kd.C (Kd.int .i64) w5 A7 ends.length ends) := ⟨by
          obtain ⟨A, c, e, _, hC⟩ := Kd.R_reads HBO.out.row7
          injection e with e1 e2 e3
          subst e1
          exact Kd.C_below hC HB5.out⟩
        have hel : ends.length = kept.length := HEN.out.1
        have HEL2 := Aside0.mk hel
        have hw5 : w.heap.size ≤ w5.heap.size := by have := HB5.out.size; have := HBO.out.below.size; omega
        have HBW5 := Aside0.mk (below_from HBO.out.below (Nat.le_refl _) HB5.out)
        have hst : RdInv ys.length (encs (kept.take 0)).length (encs (kept.drop 0)) (ys.take ys.length) 0 := by
          refine ⟨by rw [HY.out]; exact allB_take (encs_allB _) _, by rw [List.length_take]; omega, .inl ⟨by simp [encs], rfl, ?_⟩⟩
          rw [HY.out]
          simp [encs]
        have HST := Aside0.mk hst
        clear hst hel
        go_loopw [83] (fun v83 wx => ∃ (j : Nat) (xs : List Int) (wrong : Int), j ≤ kept.length ∧ v83 = .int .i64 j ∧ Aside0 (RdAt wx g2 xs wrong Fr) ∧ Aside0 (RdInv ys.length (encs (kept.take j)).length (encs (kept.drop j)) xs wrong) ∧ Aside0 (Below w5.heap.size w5 wx)) (fun v83 _ => kept.length - (intOf v83).toNat)
        case atStart => exact ⟨0, _, 0, by omega, rfl, HR2, HST, HB2⟩
        case round =>
          obtain ⟨j, xs, wrong, hj, rfl, HRD, HIN, HB7⟩ := hrel
          have hg2 : w5.heap.size ≤ g2 := HR2B.out g2 HRD.out.mine
          by_cases hjl : j < kept.length
          · have hjI : (j : Int) < (kept.length : Int) := by omega
            have hjE : (j : Int) < (ends.length : Int) := by have := HEL2.out; omega
            have hj0 : (0 : Int) ≤ (j : Int) := by omega
            obtain ⟨ad, rfl, hx0, hx1, hx2⟩ := at_T27 (Kd.C_below HKC.out HB7.out) (j : Int) hj0 hjI
            rw [Int.toNat_natCast] at hx0 hx1 hx2
            obtain ⟨ad7, rfl, hce⟩ := C_cells HEC.out (by have := HEL2.out; omega)
            have hend : ∀ W', Below w5.heap.size w5 W' → W'.cell? (ad7.add j) = some (.int .i64 ((encs (kept.take (j + 1))).length : Int)) := by
              intro W' hB
              obtain ⟨ad8, e, hce8⟩ := C_cells (Kd.C_below HEC.out hB) (by have := HEL2.out; omega)
              injection e with e
              subst e
              rw [← HEN.out.2 j hjl]
              have hje : j < ends.length := by have := HEL2.out; omega
              refine hce8 j _ ?_
              simp only [nums, List.getElem?_map, List.getElem?_eq_getElem hje, List.getD_eq_getElem?_getD, Option.map_some, Option.getD_some]
            rw [encs_take hjl] at hend
            have hok : okI (rd_T27 kept (j : Int)) = true := HOK.out _ (rd_mem hjl)
            have hin := HIN.out
            have hxl : xs.length ≤ 140737488355328 := by have := hin.2.1; have := HM.out; omega
            have hxa := hin.1
            rw [encs_drop hjl] at hin
            have hnext := encs_take hjl
            generalize (encs (kept.take j)).length = off at hend hin hnext
            have hra := encs_allB (kept.drop (j + 1))
            generalize hrest : encs (kept.drop (j + 1)) = rest at hin hra
            generalize hoff : (encs (kept.take (j + 1))).length = off' at hnext
            generalize rd_T27 kept (j : Int) = x at hx0 hx1 hx2 hok hin hend hnext
            obtain ⟨xn, xz, xt⟩ := x
            dsimp only at hx0 hx1 hx2
            obtain ⟨BX, hBX⟩ : ∃ o, o = Obj.cells #[.int .i64 xn, .int .i64 xz, .string xt] 27 := ⟨_, rfl⟩
            have hg7 : g2 < wr.heap.size := by obtain ⟨_, _, h, _⟩ := HRD.out; exact blk_lt h
            have hdone : ∀ W', Chg (wr.alloc BX) W' (At g2) → Below w5.heap.size w5 W' := fun W' h =>
              (below_from HB7.out (Nat.le_refl _) (below_alloc (Below.refl _ _) BX)).trans (h.below (by have := HB7.out.size; simp; omega) (fun k hk => by rw [show k = g2 from hk]; exact hg2))
            have hbx : ∀ W', Chg (wr.alloc BX) W' (At g2) → W'.cell? ⟨wr.heap.size, 0, none⟩ = some (.int .i64 xn) ∧ W'.cell? ⟨wr.heap.size, 1, none⟩ = some (.int .i64 xz) ∧ W'.cell? ⟨wr.heap.size, 2, none⟩ = some (.string xt) ∧ W'.cell? (ad7.add j) = some (.int .i64 (off' : Int)) := by
              intro W' h
              have h2 := h.blk (heap_alloc_new wr _) (fun e => by have e2 : wr.heap.size = g2 := e; omega)
              rw [hBX] at h2
              refine ⟨?_, ?_, ?_, by rw [hnext]; exact hend _ (hdone _ h)⟩ <;> simp [World.cell?, h2]
            have HDONE := Aside0.mk hdone
            have HREST := Aside0.mk hrest
            have HOFF := Aside0.mk hoff
            clear hdone hrest hoff hce hend
            by_cases hz : xz = 0
            · subst hz
              have hs : xt.size ≤ 65535 := by unfold okI at hok; rw [if_pos rfl] at hok; exact of_decide_eq_true hok
              have henc : encI ⟨xn, 0, xt⟩ = le xt.size 2 ++ bytesOf xt := by unfold encI; rw [if_pos rfl]
              rw [henc] at hin hnext
              obtain ⟨s, ee, xs', wrong', hT, hI, hee⟩ := text_step hs hra hin
              have hrt := rdtext_ok g2 xs wrong 65535 Fr (wr.alloc BX) (HRD.out.below (below_alloc (Below.refl _ _) BX)) hxl (take2_ok hxa)
              rw [hT, hBX] at hrt
              rw [← hnext] at hI hee
              have HI := Aside0.mk hI
              generalize strOfNums s = ss at hrt
              clear hok henc hT hI hin hnext hra hxl hxa
              rcases hee with ⟨rfl, hle⟩ | ⟨rfl, hgt⟩
              all_goals
                go_wp2_with (first
                  | (go_at_call 18; refine hrt.mono ?_; rintro e w8 ⟨rfl, hr8, hc8⟩; rw [← hBX] at hc8; obtain ⟨b0, b1, b2, b7⟩ := hbx _ hc8; (have HR8 := Aside0.mk hr8); (have HC8 := Aside0.mk hc8); clear hr8 hc8))
                go_roundw
                case rel => exact ⟨j + 1, _, _, by omega, by go_num, HR8, by rw [HREST.out, HOFF.out]; exact HI, ⟨HDONE.out _ HC8.out⟩⟩
                case measure => simp [intOf]; omega
            · have hz1 : (xz == 0) = false := beq_eq_false_iff_ne.mpr hz
              have hs : numOk xn xz = true := by unfold okI at hok; rw [if_neg hz] at hok; exact hok
              have henc : encI ⟨xn, xz, xt⟩ = le xn xz.toNat := by unfold encI; rw [if_neg hz]
              obtain ⟨s, rfl⟩ : ∃ s : Nat, xz = s := ⟨xz.toNat, by have := top_cases hs; omega⟩
              rw [henc, Int.toNat_natCast] at hin hnext
              obtain ⟨v, ee, xs', wrong', hT, hI, hee⟩ := num_step hs hra hin
              have hrt := rdnum_ok g2 xs wrong (s : Int) Fr (wr.alloc BX) (HRD.out.below (below_alloc (Below.refl _ _) BX)) hxl
              rw [hT, hBX] at hrt
              rw [← hnext] at hI hee
              have HI := Aside0.mk hI
              clear hok henc hT hI hin hnext hra hxl hxa
              rcases hee with ⟨rfl, hle⟩ | ⟨rfl, hgt⟩
              all_goals
                go_wp2_with (first
                  | (go_at_call 19; refine hrt.mono ?_; rintro e w8 ⟨rfl, hr8, hc8⟩; rw [← hBX] at hc8; obtain ⟨b0, b1, b2, b7⟩ := hbx _ hc8; (have HR8 := Aside0.mk hr8); (have HC8 := Aside0.mk hc8); clear hr8 hc8))
                go_roundw
                case rel => exact ⟨j + 1, _, _, by omega, by go_num, HR8, by rw [HREST.out, HOFF.out]; exact HI, ⟨HDONE.out _ HC8.out⟩⟩
                case measure => simp [intOf]; omega
          · have hjI : ¬ (j : Int) < (kept.length : Int) := by omega
            have hsp := speaks_ok wr
            go_wp2_with (first
              | (go_at_call 16; refine hsp.mono ?_; rintro e w9 ⟨rfl, hB9⟩; (have HB9 := Aside0.mk hB9); clear hB9))
            go_ret
            exact ⟨rfl, below_from HBW5.out (Nat.le_refl _) (below_from HB7.out (Nat.le_refl _) HB9.out)⟩
      · go_upto_region 20 with (first
          | (go_at_call 15; refine hby.mono ?_; rintro e w5 ⟨A5, c5, rfl, hc5, hC5, hB5, _⟩; (have hct := fun W => HCUT.out W A5 c5 hc5); (have hof := of_from (c := c5) (Kd.C_take hC5 HM.out) (by have := HTK.out; omega)); rw [HTK.out] at hof; (have HB5 := Aside0.mk hB5); clear hC5 hB5 hby)
          | (go_at_call 17; refine hof.mono ?_; rintro e w6 ⟨g2, rfl, hr2, hB2⟩; obtain ⟨Fr, hr2, hr2b⟩ := hr2; (have HR2 := Aside0.mk hr2); (have HR2B := Aside0.mk hr2b); (have HB2 := Aside0.mk hB2); clear hr2 hr2b hB2 hof))
        have HKC : Aside0 (Kd.C k27 w5 A4 kept.length kept) := ⟨by
          obtain ⟨A, c, e, _, hC⟩ := Kd.R_reads HBO.out.row6
          injection e with e1 e2 e3
          subst e1
          exact Kd.C_below hC HB5.out⟩
        have HEC : Aside0 (Kd.C (Kd.int .i64) w5 A7 ends.length ends) := ⟨by
          obtain ⟨A, c, e, _, hC⟩ := Kd.R_reads HBO.out.row7
          injection e with e1 e2 e3
          subst e1
          exact Kd.C_below hC HB5.out⟩
        have hel : ends.length = kept.length := HEN.out.1
        have HEL2 := Aside0.mk hel
        have hw5 : w.heap.size ≤ w5.heap.size := by have := HB5.out.size; have := HBO.out.below.size; omega
        have HBW5 := Aside0.mk (below_from HBO.out.below (Nat.le_refl _) HB5.out)
        have hst : RdInv ys.length (encs (kept.take 0)).length (encs (kept.drop 0)) (ys.take ys.length) 0 := by
          refine ⟨by rw [HY.out]; exact allB_take (encs_allB _) _, by rw [List.length_take]; omega, .inl ⟨by simp [encs], rfl, ?_⟩⟩
          rw [HY.out]
          simp [encs]
        have HST := Aside0.mk hst
        clear hst hel
        go_loopw [83] (fun v83 wx => ∃ (j : Nat) (xs : List Int) (wrong : Int), j ≤ kept.length ∧ v83 = .int .i64 j ∧ Aside0 (RdAt wx g2 xs wrong Fr) ∧ Aside0 (RdInv ys.length (encs (kept.take j)).length (encs (kept.drop j)) xs wrong) ∧ Aside0 (Below w5.heap.size w5 wx)) (fun v83 _ => kept.length - (intOf v83).toNat)
        case atStart => exact ⟨0, _, 0, by omega, rfl, HR2, HST, HB2⟩
        case round =>
          obtain ⟨j, xs, wrong, hj, rfl, HRD, HIN, HB7⟩ := hrel
          have hg2 : w5.heap.size ≤ g2 := HR2B.out g2 HRD.out.mine
          by_cases hjl : j < kept.length
          · have hjI : (j : Int) < (kept.length : Int) := by omega
            have hjE : (j : Int) < (ends.length : Int) := by have := HEL2.out; omega
            have hj0 : (0 : Int) ≤ (j : Int) := by omega
            obtain ⟨ad, rfl, hx0, hx1, hx2⟩ := at_T27 (Kd.C_below HKC.out HB7.out) (j : Int) hj0 hjI
            rw [Int.toNat_natCast] at hx0 hx1 hx2
            obtain ⟨ad7, rfl, hce⟩ := C_cells HEC.out (by have := HEL2.out; omega)
            have hend : ∀ W', Below w5.heap.size w5 W' → W'.cell? (ad7.add j) = some (.int .i64 ((encs (kept.take (j + 1))).length : Int)) := by
              intro W' hB
              obtain ⟨ad8, e, hce8⟩ := C_cells (Kd.C_below HEC.out hB) (by have := HEL2.out; omega)
              injection e with e
              subst e
              rw [← HEN.out.2 j hjl]
              have hje : j < ends.length := by have := HEL2.out; omega
              refine hce8 j _ ?_
              simp only [nums, List.getElem?_map, List.getElem?_eq_getElem hje, List.getD_eq_getElem?_getD, Option.map_some, Option.getD_some]
            rw [encs_take hjl] at hend
            have hok : okI (rd_T27 kept (j : Int)) = true := HOK.out _ (rd_mem hjl)
            have hin := HIN.out
            have hxl : xs.length ≤ 140737488355328 := by have := hin.2.1; have := HM.out; omega
            have hxa := hin.1
            rw [encs_drop hjl] at hin
            have hnext := encs_take hjl
            generalize (encs (kept.take j)).length = off at hend hin hnext
            have hra := encs_allB (kept.drop (j + 1))
            generalize hrest : encs (kept.drop (j + 1)) = rest at hin hra
            generalize hoff : (encs (kept.take (j + 1))).length = off' at hnext
            generalize rd_T27 kept (j : Int) = x at hx0 hx1 hx2 hok hin hend hnext
            obtain ⟨xn, xz, xt⟩ := x
            dsimp only at hx0 hx1 hx2
            obtain ⟨BX, hBX⟩ : ∃ o, o = Obj.cells #[.int .i64 xn, .int .i64 xz, .string xt] 27 := ⟨_, rfl⟩
            have hg7 : g2 < wr.heap.size := by obtain ⟨_, _, h, _⟩ := HRD.out; exact blk_lt h
            have hdone : ∀ W', Chg (wr.alloc BX) W' (At g2) → Below w5.heap.size w5 W' := fun W' h =>
              (below_from HB7.out (Nat.le_refl _) (below_alloc (Below.refl _ _) BX)).trans (h.below (by have := HB7.out.size; simp; omega) (fun k hk => by rw [show k = g2 from hk]; exact hg2))
            have hbx : ∀ W', Chg (wr.alloc BX) W' (At g2) → W'.cell? ⟨wr.heap.size, 0, none⟩ = some (.int .i64 xn) ∧ W'.cell? ⟨wr.heap.size, 1, none⟩ = some (.int .i64 xz) ∧ W'.cell? ⟨wr.heap.size, 2, none⟩ = some (.string xt) ∧ W'.cell? (ad7.add j) = some (.int .i64 (off' : Int)) := by
              intro W' h
              have h2 := h.blk (heap_alloc_new wr _) (fun e => by have e2 : wr.heap.size = g2 := e; omega)
              rw [hBX] at h2
              refine ⟨?_, ?_, ?_, by rw [hnext]; exact hend _ (hdone _ h)⟩ <;> simp [World.cell?, h2]
            have HDONE := Aside0.mk hdone
            have HREST := Aside0.mk hrest
            have HOFF := Aside0.mk hoff
            clear hdone hrest hoff hce hend
            by_cases hz : xz = 0
            · subst hz
              have hs : xt.size ≤ 65535 := by unfold okI at hok; rw [if_pos rfl] at hok; exact of_decide_eq_true hok
              have henc : encI ⟨xn, 0, xt⟩ = le xt.size 2 ++ bytesOf xt := by unfold encI; rw [if_pos rfl]
              rw [henc] at hin hnext
              obtain ⟨s, ee, xs', wrong', hT, hI, hee⟩ := text_step hs hra hin
              have hrt := rdtext_ok g2 xs wrong 65535 Fr (wr.alloc BX) (HRD.out.below (below_alloc (Below.refl _ _) BX)) hxl (take2_ok hxa)
              rw [hT, hBX] at hrt
              rw [← hnext] at hI hee
              have HI := Aside0.mk hI
              generalize strOfNums s = ss at hrt
              clear hok henc hT hI hin hnext hra hxl hxa
              rcases hee with ⟨rfl, hle⟩ | ⟨rfl, hgt⟩
              all_goals
                go_wp2_with (first
                  | (go_at_call 18; refine hrt.mono ?_; rintro e w8 ⟨rfl, hr8, hc8⟩; rw [← hBX] at hc8; obtain ⟨b0, b1, b2, b7⟩ := hbx _ hc8; (have HR8 := Aside0.mk hr8); (have HC8 := Aside0.mk hc8); clear hr8 hc8))
                go_roundw
                case rel => exact ⟨j + 1, _, _, by omega, by go_num, HR8, by rw [HREST.out, HOFF.out]; exact HI, ⟨HDONE.out _ HC8.out⟩⟩
                case measure => simp [intOf]; omega
            · have hz1 : (xz == 0) = false := beq_eq_false_iff_ne.mpr hz
              have hs : numOk xn xz = true := by unfold okI at hok; rw [if_neg hz] at hok; exact hok
              have henc : encI ⟨xn, xz, xt⟩ = le xn xz.toNat := by unfold encI; rw [if_neg hz]
              obtain ⟨s, rfl⟩ : ∃ s : Nat, xz = s := ⟨xz.toNat, by have := top_cases hs; omega⟩
              rw [henc, Int.toNat_natCast] at hin hnext
              obtain ⟨v, ee, xs', wrong', hT, hI, hee⟩ := num_step hs hra hin
              have hrt := rdnum_ok g2 xs wrong (s : Int) Fr (wr.alloc BX) (HRD.out.below (below_alloc (Below.refl _ _) BX)) hxl
              rw [hT, hBX] at hrt
              rw [← hnext] at hI hee
              have HI := Aside0.mk hI
              clear hok henc hT hI hin hnext hra hxl hxa
              rcases hee with ⟨rfl, hle⟩ | ⟨rfl, hgt⟩
              all_goals
                go_wp2_with (first
                  | (go_at_call 19; refine hrt.mono ?_; rintro e w8 ⟨rfl, hr8, hc8⟩; rw [← hBX] at hc8; obtain ⟨b0, b1, b2, b7⟩ := hbx _ hc8; (have HR8 := Aside0.mk hr8); (have HC8 := Aside0.mk hc8); clear hr8 hc8))
                go_roundw
                case rel => exact ⟨j + 1, _, _, by omega, by go_num, HR8, by rw [HREST.out, HOFF.out]; exact HI, ⟨HDONE.out _ HC8.out⟩⟩
                case measure => simp [intOf]; omega
          · have hjI : ¬ (j : Int) < (kept.length : Int) := by omega
            have hsp := speaks_ok wr
            go_wp2_with (first
              | (go_at_call 16; refine hsp.mono ?_; rintro e w9 ⟨rfl, hB9⟩; (have HB9 := Aside0.mk hB9); clear hB9))
            go_ret
            exact ⟨rfl, below_from HBW5.out (Nat.le_refl _) (below_from HB7.out (Nat.le_refl _) HB9.out)⟩
end Go.Proofs.Ytjipjoadeeapnaa.Wire
