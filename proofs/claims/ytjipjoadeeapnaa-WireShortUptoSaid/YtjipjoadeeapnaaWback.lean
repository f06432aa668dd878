/- The law WireBack, walked. -/
import Derived.Test.YtjipjoadeeapnaaKept
namespace Go.Proofs.Ytjipjoadeeapnaa.Wire
open Go.RowKit Go.Proofs.YtjipjoadeeapnaaW.PrintWords Go.Proofs.YtjipjoadeeapnaaW.PrintLast Go.Proofs.YtjipjoadeeapnaaW.PrintMore Go.Proofs.Ytjipjoadeeapnaa.Pr
open Go.Proofs.Ytjipjoadeeapnaa.Back (AllB)
set_option linter.unusedVariables false
set_option linter.unusedSimpArgs false
theorem length_wlen : ∀ l : List S27, 8 * l.length ≤ wlen l
  | [] => by simp
  | x :: l => by
    have := length_wlen l
    simp only [wlen, List.map_cons, List.sum_cons, List.length_cons] at this ⊢
    omega
theorem encs_drop {l : List S27} {k : Nat} (h : k < l.length) : encs (l.drop k) = encI (rd_T27 l (k : Int)) ++ encs (l.drop (k + 1)) := by
  rw [List.drop_eq_getElem_cons h, encs_cons]
  simp only [rd_T27, Int.toNat_natCast, List.getD_eq_getElem?_getD, List.getElem?_eq_getElem h, Option.getD_some]
theorem rd_mem {l : List S27} {k : Nat} (h : k < l.length) : rd_T27 l (k : Int) ∈ l := by
  simp only [rd_T27, Int.toNat_natCast, List.getD_eq_getElem?_getD, List.getElem?_eq_getElem h, Option.getD_some]
  exact List.getElem_mem _
set_option maxRecDepth 100000 in
set_option maxHeartbeats 16000000 in
theorem wback_ok (A1 : Option Addr) (c1 : Nat) (l : List S27) (w : World) (hl : wlen l ≤ 4194304) (hn : ∀ x ∈ l, x.f0 < 9223372036854775808)
    (hrl : Kd.C k27 w A1 l.length l) :
    Calls Try.prog 7 #[.slice A1 l.length c1] w fun e w' => e = .returned (.bool true) ∧ Below w.heap.size w w' := by
  have hlen : l.length ≤ 9223372036854775807 := hrl.2.1
  have HRL := Aside0.mk hrl
  have HN := Aside0.mk hn
  have HL := Aside0.mk hl
  have HLL := Aside0.mk (length_wlen l)
  have hnew := new_ok w
  clear hrl hn hl
  go_enter Try.func7, Try.ntmps7
  go_upto_region 6 with (first
    | (go_at_call 9; refine hnew.mono ?_; rintro e w1 ⟨rfl, hw1, hB1⟩; (have HW1 := Aside0.mk (show Kept2 w w1 w.heap.size (fun k => k = w.heap.size) (.slice none 0 0) (.slice none 0 0) (encs []) [] [] from ⟨hw1, fun k hk => by rw [hk]; exact Nat.le_refl _, Kd.R_nil _ _ _ _ _, Kd.R_nil _ _ _ _ _, fun k hk => by simp [Value.ownBlock] at hk, fun k hk => by simp [Value.ownBlock] at hk, fun k hk => by simp [Value.ownBlock] at hk, hB1⟩)); clear hw1 hB1 hnew))
  have hlen0 : (0 : Int) ≤ (l.length : Int) := by omega
  go_loopw [4, 19] (fun v4 v19 wr => ∃ (k : Nat) (F : Nat → Prop) (kept : List S27), k ≤ l.length ∧ v19 = .int .i64 k ∧ Aside0 (Kept2 w wr w.heap.size F v4 (.slice none 0 0) (encs kept) kept []) ∧ Aside0 (∀ x ∈ kept, okI x = true) ∧ Aside0 ((encs kept).length + wlen (l.drop k) ≤ 4194304 ∧ kept.length ≤ k)) (fun _ v19 _ => l.length - (intOf v19).toNat)
  case atStart => exact ⟨0, _, [], by omega, rfl, HW1, ⟨fun x hx => by simp at hx⟩, ⟨by simpa [encs] using HL.out, by simp⟩⟩
  case round =>
    obtain ⟨k, F, kept, hk, rfl, HBO, HOK, HYS⟩ := hrel
    obtain ⟨A4, c4, rfl⟩ := Kd.R_slice HBO.out.row6
    by_cases hlt : k < l.length
    · have hltI : (k : Int) < (l.length : Int) := by omega
      have hk0 : (0 : Int) ≤ (k : Int) := by omega
      obtain ⟨ad, rfl, hx0, hx1, hx2⟩ := at_T27 (Kd.C_below HRL.out HBO.out.below) (k : Int) hk0 hltI
      rw [Int.toNat_natCast] at hx0 hx1 hx2
      have hwl := wlen_drop hlt
      have hxn : (rd_T27 l (k : Int)).f0 < 9223372036854775808 := HN.out _ (rd_mem hlt)
      generalize rd_T27 l (k : Int) = x at hx0 hx1 hx2 hwl hxn
      obtain ⟨xn, xz, xt⟩ := x
      dsimp only at hx0 hx1 hx2 hwl hxn
      have hFlt : ∀ j, F j → j < wr.heap.size := by obtain ⟨_, _, _, _, _, h⟩ := HBO.out.at_; exact h
      obtain ⟨BX, hBX⟩ : ∃ o, o = Obj.cells #[.int .i64 xn, .int .i64 xz, .string xt] 27 := ⟨_, rfl⟩
      have HBO1 := Aside0.mk (HBO.out.alloc BX)
      have hbx : ∀ W', Chg (wr.alloc BX) W' F → W'.cell? ⟨wr.heap.size, 0, none⟩ = some (.int .i64 xn) ∧ W'.cell? ⟨wr.heap.size, 1, none⟩ = some (.int .i64 xz) ∧ W'.cell? ⟨wr.heap.size, 2, none⟩ = some (.string xt) := by
        intro W' h
        have h2 := h.blk (heap_alloc_new wr _) (fun e => by have := hFlt _ e; omega)
        rw [hBX] at h2
        refine ⟨?_, ?_, ?_⟩ <;> simp [World.cell?, h2]
      have HKL : Aside0 ((kept.length + 1) * 32 ≤ 140737488355328) := ⟨by have := HYS.out.2; have := HL.out; have := HLL.out; omega⟩
      by_cases hz : xz = 0
      · subst hz
        have htx := wtext_any w.heap.size (encs kept) F xt (wr.alloc BX) HBO1.out.at_ (by have := HYS.out.1; omega)
        by_cases hs : xt.size ≤ 65535
        · have hok : okI ⟨xn, 0, xt⟩ = true := by unfold okI; rw [if_pos rfl]; exact decide_eq_true hs
          have henc : encI ⟨xn, 0, xt⟩ = le xt.size 2 ++ bytesOf xt := by unfold encI; rw [if_pos rfl]
          rw [if_pos hs, if_pos hs, ← henc, ← encs_snoc] at htx
          have HOK2 := Aside0.mk hok
          have HEL := Aside0.mk (encI_length hok)
          rw [hBX] at htx
          clear hok henc
          go_upto_region 9 with (first
            | (go_at_call 10; refine htx.mono ?_; rintro e w5 ⟨rfl, hg5⟩; rw [← hBX] at hg5; (have h52 := hg5.choose_spec.2.1); obtain ⟨b0, b1, b2⟩ := hbx _ h52; obtain ⟨F', hb⟩ := HBO1.out.gone hg5; (have HK5 := Aside0.mk hb); clear hb h52 hg5))
          go_wp2_with (first
            | ((with_reducible refine gate_builtin (b := .append) (xs := #[.tmp 47, .tmp 49]) rfl ?_); at_builtin; refine Kd.R_append k27 (w0 := w) w.heap.size rfl (.tmp 47) (.tmp 49) 22 27 (.agg #[.int .i64 0, .int .i64 0, .string ⟨#[]⟩]) 32 rfl Try.underlying22 infoI rfl (by decide) (by omega) (.slice A4 kept.length c4) kept ⟨xn, 0, xt⟩ [.int .i64 xn, .int .i64 0, .string xt] (fun _ => True) (fun _ => False) rfl rfl (k27_mkM _ _ _ _) (fun _ hk => hk.elim) (fun _ _ => trivial) HK5.out.row6 HK5.out.below HK5.out.below.size HKL.out ?_; intro v1 w7 ho hbel hg hat; (have HNEW := Aside0.mk (HK5.out.app6 ho hbel hg hat)); clear ho hbel hg hat))
          go_roundw
          case rel =>
            refine ⟨k + 1, F', kept ++ [⟨xn, 0, xt⟩], by omega, by go_num, HNEW, ⟨?_⟩, ⟨?_, ?_⟩⟩
            · intro y hy
              rcases List.mem_append.1 hy with h | h
              · exact HOK.out y h
              · rw [List.mem_singleton] at h; subst h; exact HOK2.out
            · have := HYS.out.1; have := HEL.out; rw [encs_snoc, List.length_append]; (try dsimp only at this); omega
            · have := HYS.out.2; simp; omega
          case measure => simp [intOf]; omega
        · rw [if_neg hs, if_neg hs] at htx
          rw [hBX] at htx
          go_wp2_with (first
            | (go_at_call 10; refine htx.mono ?_; rintro e w5 ⟨rfl, hg5⟩; rw [← hBX] at hg5; (have h52 := hg5.choose_spec.2.1); obtain ⟨b0, b1, b2⟩ := hbx _ h52; obtain ⟨F', hb⟩ := HBO1.out.gone hg5; (have HNEW := Aside0.mk hb); clear hb h52 hg5))
          go_roundw
          case rel => exact ⟨k + 1, F', _, by omega, by go_num, HNEW, HOK, ⟨by have := HYS.out.1; omega, by have := HYS.out.2; omega⟩⟩
          case measure => simp [intOf]; omega
      · have hz1 : (xz == 0) = false := beq_eq_false_iff_ne.mpr hz
        have hz2 : (xz != 0) = true := bne_iff_ne.mpr hz
        have htx := wnum_any w.heap.size (encs kept) F xn xz (wr.alloc BX) HBO1.out.at_ hxn (by have := HYS.out.1; omega)
        by_cases hs : numOk xn xz = true
        · have hok : okI ⟨xn, xz, xt⟩ = true := by unfold okI; rw [if_neg hz]; exact hs
          have henc : encI ⟨xn, xz, xt⟩ = le xn xz.toNat := by unfold encI; rw [if_neg hz]
          rw [if_pos hs, if_pos hs, ← henc, ← encs_snoc] at htx
          have HOK2 := Aside0.mk hok
          have HEL := Aside0.mk (encI_length hok)
          rw [hBX] at htx
          clear hok henc
          go_upto_region 9 with (first
            | (go_at_call 12; refine htx.mono ?_; rintro e w5 ⟨rfl, hg5⟩; rw [← hBX] at hg5; (have h52 := hg5.choose_spec.2.1); obtain ⟨b0, b1, b2⟩ := hbx _ h52; obtain ⟨F', hb⟩ := HBO1.out.gone hg5; (have HK5 := Aside0.mk hb); clear hb h52 hg5))
          go_wp2_with (first
            | ((with_reducible refine gate_builtin (b := .append) (xs := #[.tmp 47, .tmp 49]) rfl ?_); at_builtin; refine Kd.R_append k27 (w0 := w) w.heap.size rfl (.tmp 47) (.tmp 49) 22 27 (.agg #[.int .i64 0, .int .i64 0, .string ⟨#[]⟩]) 32 rfl Try.underlying22 infoI rfl (by decide) (by omega) (.slice A4 kept.length c4) kept ⟨xn, xz, xt⟩ [.int .i64 xn, .int .i64 xz, .string xt] (fun _ => True) (fun _ => False) rfl rfl (k27_mkM _ _ _ _) (fun _ hk => hk.elim) (fun _ _ => trivial) HK5.out.row6 HK5.out.below HK5.out.below.size HKL.out ?_; intro v1 w7 ho hbel hg hat; (have HNEW := Aside0.mk (HK5.out.app6 ho hbel hg hat)); clear ho hbel hg hat))
          go_roundw
          case rel =>
            refine ⟨k + 1, F', kept ++ [⟨xn, xz, xt⟩], by omega, by go_num, HNEW, ⟨?_⟩, ⟨?_, ?_⟩⟩
            · intro y hy
              rcases List.mem_append.1 hy with h | h
              · exact HOK.out y h
              · rw [List.mem_singleton] at h; subst h; exact HOK2.out
            · have := HYS.out.1; have := HEL.out; rw [encs_snoc, List.length_append]; (try dsimp only at this); omega
            · have := HYS.out.2; simp; omega
          case measure => simp [intOf]; omega
        · rw [if_neg hs, if_neg hs] at htx
          rw [hBX] at htx
          go_wp2_with (first
            | (go_at_call 12; refine htx.mono ?_; rintro e w5 ⟨rfl, hg5⟩; rw [← hBX] at hg5; (have h52 := hg5.choose_spec.2.1); obtain ⟨b0, b1, b2⟩ := hbx _ h52; obtain ⟨F', hb⟩ := HBO1.out.gone hg5; (have HNEW := Aside0.mk hb); clear hb h52 hg5))
          go_roundw
          case rel => exact ⟨k + 1, F', _, by omega, by go_num, HNEW, HOK, ⟨by have := HYS.out.1; omega, by have := HYS.out.2; omega⟩⟩
          case measure => simp [intOf]; omega
    · have hltI : ¬ (k : Int) < (l.length : Int) := by omega
      have hby := bytes_from (w := wr) (g := w.heap.size) (b := w.heap.size) (xs := encs kept) ⟨F, HBO.out.at_, HBO.out.low⟩ (by have := HYS.out.1; omega)
      have hkl : kept.length ≤ 4194304 := by have := HYS.out.2; have := HL.out; have := HLL.out; omega
      go_upto_region 15 with (first
        | (go_at_call 15; refine hby.mono ?_; rintro e w5 ⟨A5, c5, rfl, hc5, hC5, hB5, _⟩; (have hof := of_from (c := c5) hC5 (by have := HYS.out.1; omega)); (have HB5 := Aside0.mk hB5); clear hC5 hB5 hby)
        | (go_at_call 17; refine hof.mono ?_; rintro e w6 ⟨g2, rfl, hr2, hB2⟩; obtain ⟨Fr, hr2, hr2b⟩ := hr2; (have HR2 := Aside0.mk hr2); (have HR2B := Aside0.mk hr2b); (have HB2 := Aside0.mk hB2); clear hr2 hr2b hB2 hof))
      have HKC : Aside0 (Kd.C k27 w5 A4 kept.length kept) := ⟨by
        obtain ⟨A, c, e, _, hC⟩ := Kd.R_reads HBO.out.row6
        injection e with e1 e2 e3
        subst e1
        exact Kd.C_below hC HB5.out⟩
      have hw5 : w.heap.size ≤ w5.heap.size := by have := HB5.out.size; have := HBO.out.below.size; omega
      have HBW5 := Aside0.mk (below_from HBO.out.below (Nat.le_refl _) HB5.out)
      go_loopw [59] (fun v59 wr => ∃ j : Nat, j ≤ kept.length ∧ v59 = .int .i64 j ∧ Aside0 (RdAt wr g2 (encs (kept.drop j)) 0 Fr) ∧ Aside0 (Below w5.heap.size w5 wr)) (fun v59 _ => kept.length - (intOf v59).toNat)
      case atStart => exact ⟨0, by omega, rfl, by rw [List.drop_zero]; exact HR2, HB2⟩
      case round =>
        obtain ⟨j, hj, rfl, HRD, HB7⟩ := hrel
        have hg2 : w5.heap.size ≤ g2 := HR2B.out g2 HRD.out.mine
        by_cases hjl : j < kept.length
        · have hjI : (j : Int) < (kept.length : Int) := by omega
          have hj0 : (0 : Int) ≤ (j : Int) := by omega
          obtain ⟨ad, rfl, hx0, hx1, hx2⟩ := at_T27 (Kd.C_below HKC.out HB7.out) (j : Int) hj0 hjI
          rw [Int.toNat_natCast] at hx0 hx1 hx2
          have hok : okI (rd_T27 kept (j : Int)) = true := HOK.out _ (rd_mem hjl)
          have hlenE : (encs (kept.drop j)).length ≤ 140737488355328 := by
            have e : encs kept = encs (kept.take j) ++ encs (kept.drop j) := by
              unfold encs
              rw [← List.flatten_append, ← List.map_append, List.take_append_drop]
            have := congrArg List.length e
            rw [List.length_append] at this
            have := HYS.out.1
            omega
          have hallE := encs_allB (kept.drop j)
          have hrd := HRD.out
          rw [encs_drop hjl] at hrd hlenE hallE
          generalize rd_T27 kept (j : Int) = x at hx0 hx1 hx2 hok hrd hlenE hallE
          generalize hrest : encs (kept.drop (j + 1)) = rest at hrd hlenE hallE
          obtain ⟨xn, xz, xt⟩ := x
          dsimp only at hx0 hx1 hx2
          obtain ⟨BX, hBX⟩ : ∃ o, o = Obj.cells #[.int .i64 xn, .int .i64 xz, .string xt] 27 := ⟨_, rfl⟩
          have hg7 : g2 < wr.heap.size := by obtain ⟨_, _, h, _⟩ := hrd; exact blk_lt h
          have hbx : ∀ W', Chg (wr.alloc BX) W' (At g2) → W'.cell? ⟨wr.heap.size, 0, none⟩ = some (.int .i64 xn) ∧ W'.cell? ⟨wr.heap.size, 1, none⟩ = some (.int .i64 xz) ∧ W'.cell? ⟨wr.heap.size, 2, none⟩ = some (.string xt) := by
            intro W' h
            have h2 := h.blk (heap_alloc_new wr _) (fun e => by have e2 : wr.heap.size = g2 := e; omega)
            rw [hBX] at h2
            refine ⟨?_, ?_, ?_⟩ <;> simp [World.cell?, h2]
          have hdone : ∀ W', Chg (wr.alloc BX) W' (At g2) → Below w5.heap.size w5 W' := fun W' h =>
            (below_from HB7.out (Nat.le_refl _) (below_alloc (Below.refl _ _) BX)).trans (h.below (by have := HB7.out.size; simp; omega) (fun k hk => by rw [show k = g2 from hk]; exact hg2))
          have HDONE := Aside0.mk hdone
          have HREST := Aside0.mk hrest
          clear hdone hrest
          by_cases hz : xz = 0
          · subst hz
            have hs : xt.size ≤ 65535 := by unfold okI at hok; rw [if_pos rfl] at hok; exact of_decide_eq_true hok
            have henc : encI ⟨xn, 0, xt⟩ = le xt.size 2 ++ bytesOf xt := by unfold encI; rw [if_pos rfl]
            rw [henc] at hrd hlenE hallE
            have hrt := rdtext_ok g2 _ 0 65535 Fr (wr.alloc BX) (hrd.below (below_alloc (Below.refl _ _) BX)) hlenE (take2_ok hallE)
            rw [rdText_le hs, str_bytesOf, hBX] at hrt
            clear hok henc hlenE hallE hrd
            go_wp2_with (first
              | (go_at_call 18; refine hrt.mono ?_; rintro e w8 ⟨rfl, hr8, hc8⟩; rw [← hBX] at hc8; obtain ⟨b0, b1, b2⟩ := hbx _ hc8; (have HR8 := Aside0.mk hr8); (have HC8 := Aside0.mk hc8); clear hr8 hc8))
            go_roundw
            case rel => exact ⟨j + 1, by omega, by go_num, by rw [HREST.out]; exact HR8, ⟨HDONE.out _ HC8.out⟩⟩
            case measure => simp [intOf]; omega
          · have hz1 : (xz == 0) = false := beq_eq_false_iff_ne.mpr hz
            have hs : numOk xn xz = true := by unfold okI at hok; rw [if_neg hz] at hok; exact hok
            have henc : encI ⟨xn, xz, xt⟩ = le xn xz.toNat := by unfold encI; rw [if_neg hz]
            obtain ⟨s, rfl⟩ : ∃ s : Nat, xz = s := ⟨xz.toNat, by have := top_cases hs; omega⟩
            rw [henc, Int.toNat_natCast] at hrd hlenE hallE
            have hrt := rdnum_ok g2 _ 0 (s : Int) Fr (wr.alloc BX) (hrd.below (below_alloc (Below.refl _ _) BX)) hlenE
            rw [rdNum_le hs, hBX] at hrt
            clear hok henc hlenE hallE hrd
            go_wp2_with (first
              | (go_at_call 19; refine hrt.mono ?_; rintro e w8 ⟨rfl, hr8, hc8⟩; rw [← hBX] at hc8; obtain ⟨b0, b1, b2⟩ := hbx _ hc8; (have HR8 := Aside0.mk hr8); (have HC8 := Aside0.mk hc8); clear hr8 hc8))
            go_roundw
            case rel => exact ⟨j + 1, by omega, by go_num, by rw [HREST.out]; exact HR8, ⟨HDONE.out _ HC8.out⟩⟩
            case measure => simp [intOf]; omega
        · obtain rfl : j = kept.length := by omega
          have hjI : ¬ (kept.length : Int) < (kept.length : Int) := by omega
          have hrd := HRD.out
          rw [List.drop_of_length_le (Nat.le_refl _)] at hrd
          have hend := end_ok g2 (encs []) 0 Fr wr hrd
          rw [show rdEnd (encs []) 0 = 0 from rfl] at hend
          have hleft := fun n => left_ok g2 (encs []) 0 Fr (wr.drewN n) (hrd.chg ((Chg.refl wr (fun _ => False)).drewN n) (fun _ _ h => h))
          have hsp := fun n => speaks_ok (wr.drewN n)
          clear hrd
          go_wp2_with (first
            | (go_at_call 23; refine hend.mono ?_; rintro e w8 ⟨rfl, ⟨nd, rfl⟩⟩)
            | (go_at_call 22; refine (hleft _).mono ?_; rintro e w8 ⟨rfl, rfl⟩)
            | (go_at_call 16; refine (hsp _).mono ?_; rintro e w9 ⟨rfl, hB9⟩; (have HB9 := Aside0.mk hB9); clear hB9))
          go_ret
          have hlast : Below wr.heap.size wr w9 := ⟨HB9.out.os, HB9.out.tape, HB9.out.output, HB9.out.size, HB9.out.block⟩
          exact ⟨rfl, below_from HBW5.out (Nat.le_refl _) (below_from HB7.out (Nat.le_refl _) hlast)⟩
end Go.Proofs.Ytjipjoadeeapnaa.Wire
