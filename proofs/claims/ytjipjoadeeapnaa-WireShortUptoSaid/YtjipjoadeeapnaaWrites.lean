/- The law WireWrites, walked. -/
import Derived.Test.YtjipjoadeeapnaaRefWr
namespace Go.Proofs.Ytjipjoadeeapnaa.Wire
open Go.RowKit Go.Proofs.YtjipjoadeeapnaaW.PrintWords Go.Proofs.YtjipjoadeeapnaaW.PrintLast Go.Proofs.YtjipjoadeeapnaaW.PrintMore Go.Proofs.Ytjipjoadeeapnaa.Pr
set_option linter.unusedVariables false
set_option linter.unusedSimpArgs false
/-- How much the items write at most. -/
def wlen (l : List S27) : Nat := (l.map fun x => x.f2.size + 8).sum
theorem wlen_drop {l : List S27} {k : Nat} (h : k < l.length) : wlen (l.drop k) = ((rd_T27 l (k : Int)).f2.size + 8) + wlen (l.drop (k + 1)) := by
  rw [List.drop_eq_getElem_cons h]
  simp only [wlen, List.map_cons, List.sum_cons, rd_T27, Int.toNat_natCast, List.getD_eq_getElem?_getD, List.getElem?_eq_getElem h, Option.getD_some]
/-- What a writer's call leaves. -/
def WrGone (W w' : World) (g : Nat) (ys : List Int) (F : Nat → Prop) : Prop := ∃ F', WrAt w' g ys F' ∧ Chg W w' F ∧ ∀ k, F' k → F k ∨ W.heap.size ≤ k
theorem wtext_any (g : Nat) (ys : List Int) (F : Nat → Prop) (s : ByteArray) (w : World) (hw : WrAt w g ys F) (hl : ys.length + 8 + 65535 ≤ 140737488355328) :
    Calls Try.prog 10 #[.pointer (some ⟨g, 0, none⟩), .string s] w fun e w' => e = .returned (.int .i64 (if s.size ≤ 65535 then 0 else 2)) ∧ WrGone w w' g (if s.size ≤ 65535 then ys ++ (le s.size 2 ++ bytesOf s) else ys) F := by
  by_cases h : s.size ≤ 65535
  · rw [if_pos h, if_pos h]
    exact text_ok g ys F s w h hw hl
  · rw [if_neg h, if_neg h]
    refine (text_long _ s w (by omega)).mono ?_
    rintro e w' ⟨rfl, rfl⟩
    exact ⟨rfl, F, hw, Chg.refl _ _, fun k hk => .inl hk⟩
theorem wnum_any (g : Nat) (ys : List Int) (F : Nat → Prop) (n size : Int) (w : World) (hw : WrAt w g ys F) (hn : n < 9223372036854775808) (hl : ys.length + 8 ≤ 140737488355328) :
    Calls Try.prog 12 #[.pointer (some ⟨g, 0, none⟩), .int .i64 n, .int .i64 size] w fun e w' => e = .returned (.int .i64 (if numOk n size = true then 0 else 1)) ∧ WrGone w w' g (if numOk n size = true then ys ++ le n size.toNat else ys) F := by
  by_cases h : numOk n size = true
  · rw [if_pos h, if_pos h]
    exact num_ok g ys F n size w h hw hl
  · rw [if_neg h, if_neg h]
    refine (num_err _ n size w (by simpa using h) hn).mono ?_
    rintro e w' ⟨rfl, ⟨nd, rfl⟩⟩
    exact ⟨rfl, F, hw.chg ((Chg.refl w (fun _ => False)).drewN nd) (fun _ _ h => h), (Chg.refl _ _).drewN _, fun k hk => .inl hk⟩
/-- A row that is not the writer's stays. -/
theorem want_keep {b : Nat} {W w' : World} {F F' : Nat → Prop} {v : Value} {ys : List Int} (h : Kd.R (Kd.int .u8) 5 W b (fun j => ¬ F j) v ys) (hc : Chg W w' F) (hF : ∀ k, F' k → F k ∨ W.heap.size ≤ k) : Kd.R (Kd.int .u8) 5 w' b (fun j => ¬ F' j) v ys := by
  refine R_ok (R_chg h hc (fun k hk => hk)) (fun k hk hf => ?_)
  rcases hF k hf with h1 | h1
  · exact h.1 k hk h1
  · have := Kd.R_lt h k hk; omega
/-- What the loop holds. -/
structure WrBoth (w wr : World) (g : Nat) (F : Nat → Prop) (v : Value) (ys : List Int) : Prop where
  at_ : WrAt wr g ys F
  low : ∀ k, F k → w.heap.size ≤ k
  row : Kd.R (Kd.int .u8) 5 wr w.heap.size (fun j => ¬ F j) v ys
  below : Below w.heap.size w wr
theorem WrBoth.alloc {w wr : World} {g : Nat} {F : Nat → Prop} {v : Value} {ys : List Int} (h : WrBoth w wr g F v ys) (o : Obj) : WrBoth w (wr.alloc o) g F v ys :=
  ⟨h.at_.below (below_alloc (Below.refl _ _) o), h.low, Kd.R_alloc h.row o, below_alloc h.below o⟩
theorem WrBoth.drewN {w wr : World} {g : Nat} {F : Nat → Prop} {v : Value} {ys : List Int} (h : WrBoth w wr g F v ys) (n : Nat) : WrBoth w (wr.drewN n) g F v ys :=
  ⟨h.at_.chg ((Chg.refl wr (fun _ => False)).drewN n) (fun _ _ h => h), h.low, Kd.R_drewN h.row n, pw_below_drewN h.below n⟩
/-- behind a call that wrote nothing -/
theorem WrBoth.same {w wr w5 : World} {g : Nat} {F : Nat → Prop} {v : Value} {ys : List Int} (h : WrBoth w wr g F v ys) (hg : WrGone wr w5 g ys F) : ∃ F', WrBoth w w5 g F' v ys := by
  obtain ⟨F', h1, h2, h3⟩ := hg
  have hs := h.below.size
  exact ⟨F', h1, fun k hk => (h3 k hk).elim (h.low k) (fun h => by omega), want_keep h.row h2 h3, h.below.trans (h2.below hs h.low)⟩
set_option maxRecDepth 100000 in
set_option maxHeartbeats 8000000 in
theorem writes_ok (A1 : Option Addr) (c1 : Nat) (l : List S27) (w : World) (hl : wlen l ≤ 4194304) (hn : ∀ x ∈ l, x.f0 < 9223372036854775808)
    (hrl : Kd.C k27 w A1 l.length l) :
    Calls Try.prog 3 #[.slice A1 l.length c1] w fun e w' => e = .returned (.bool true) ∧ Below w.heap.size w w' := by
  have hlen : l.length ≤ 9223372036854775807 := hrl.2.1
  have HRL := Aside0.mk hrl
  have HN := Aside0.mk hn
  have HL := Aside0.mk hl
  have hnew := new_ok w
  clear hrl hn hl
  go_enter Try.func3, Try.ntmps3
  go_upto_region 6 with (first
    | (go_at_call 9; refine hnew.mono ?_; rintro e w1 ⟨rfl, hw1, hB1⟩; (have HW1 := Aside0.mk (show WrBoth w w1 w.heap.size (fun k => k = w.heap.size) (.slice none 0 0) [] from ⟨hw1, fun k hk => by rw [hk]; exact Nat.le_refl _, Kd.R_nil _ _ _ _ _, hB1⟩)); clear hw1 hB1 hnew))
  have hlen0 : (0 : Int) ≤ (l.length : Int) := by omega
  go_loopw [4, 14] (fun v4 v14 wr => ∃ (k : Nat) (F : Nat → Prop) (ys : List Int), k ≤ l.length ∧ v14 = .int .i64 k ∧ Aside0 (WrBoth w wr w.heap.size F v4 ys) ∧ Aside0 (ys.length + wlen (l.drop k) ≤ 4194304)) (fun _ v14 _ => l.length - (intOf v14).toNat)
  case atStart => exact ⟨0, _, [], by omega, rfl, HW1, ⟨by simpa using HL.out⟩⟩
  case round =>
    obtain ⟨k, F, ys, hk, rfl, HBO, HYS⟩ := hrel
    obtain ⟨A4, c4, rfl⟩ := Kd.R_slice HBO.out.row
    by_cases hlt : k < l.length
    · have hltI : (k : Int) < (l.length : Int) := by omega
      have hk0 : (0 : Int) ≤ (k : Int) := by omega
      obtain ⟨ad, rfl, hx0, hx1, hx2⟩ := at_T27 (Kd.C_below HRL.out HBO.out.below) (k : Int) hk0 hltI
      rw [Int.toNat_natCast] at hx0 hx1 hx2
      have hwl := wlen_drop hlt
      have hxn : (rd_T27 l (k : Int)).f0 < 9223372036854775808 := by
        refine HN.out _ ?_
        simp only [rd_T27, Int.toNat_natCast, List.getD_eq_getElem?_getD, List.getElem?_eq_getElem hlt, Option.getD_some]
        exact List.getElem_mem _
      generalize rd_T27 l (k : Int) = x at hx0 hx1 hx2 hwl hxn
      obtain ⟨xn, xz, xt⟩ := x
      dsimp only at hx0 hx1 hx2 hwl hxn
      have hFlt : ∀ j, F j → j < wr.heap.size := by obtain ⟨_, _, _, _, _, h⟩ := HBO.out.at_; exact h
      obtain ⟨BX, hBX⟩ : ∃ o, o = Obj.cells #[.int .i64 xn, .int .i64 xz, .string xt] 27 := ⟨_, rfl⟩
      have HBO1 := Aside0.mk (HBO.out.alloc BX)
      have hbx : ∀ W', Chg (wr.alloc BX) W' F → W'.cell? ⟨wr.heap.size, 0, none⟩ = some (.int .i64 xn) ∧ W'.cell? ⟨wr.heap.size, 1, none⟩ = some (.int .i64 xz) ∧ W'.cell? ⟨wr.heap.size, 2, none⟩ = some (.string xt) := by
        intro W' h
        have h2 := h.blk (heap_alloc_new wr _) (fun e => by have := hFlt _ e; omega)
        rw [hBX] at h2
        refine ⟨?_, ?_, ?_⟩ <;> simp [World.cell?, h2]
      by_cases hz : xz = 0
      · subst hz
        have htx := wtext_any w.heap.size ys F xt (wr.alloc BX) HBO1.out.at_ (by have := HYS.out; omega)
        by_cases hs : xt.size ≤ 65535
        · rw [if_pos hs, if_pos hs] at htx
          have hsI : ((xt.size : Int) ≤ 65535) := by omega
          rw [hBX] at htx
          go_upto_region 13 with (first
            | (go_at_call 10; refine htx.mono ?_; rintro e w5 ⟨rfl, hg5⟩; rw [← hBX] at hg5; obtain ⟨F', h51, h52, h53⟩ := hg5; obtain ⟨b0, b1, b2⟩ := hbx _ h52; (have H51 := Aside0.mk h51); (have H52 := Aside0.mk h52); (have H53 := Aside0.mk h53); clear h51 h52 h53))
          have href := reftext_ok xt w5 hs
          obtain ⟨zs, hzs⟩ : ∃ zs, zs = le xt.size 2 ++ bytesOf xt := ⟨_, rfl⟩
          have HZ : Aside0 (zs.length = 2 + xt.size) := ⟨by rw [hzs, List.length_append, le_length, bytesOf_length]⟩
          rw [← hzs] at href H51
          clear hzs
          obtain ⟨ys5, hys5⟩ : ∃ ys5, ys5 = ys ++ zs := ⟨_, rfl⟩
          rw [← hys5] at H51
          have HLOW : Aside0 (∀ j, F' j → w.heap.size ≤ j) := ⟨fun j hj => (H53.out j hj).elim (HBO.out.low j) (fun h => by have := HBO1.out.below.size; omega)⟩
          have HNX : ∀ w6, Below (w5).heap.size (w5) w6 → Kd.R (Kd.int .u8) 5 w6 w.heap.size (fun j => ¬ F' j) (.slice A4 ys.length c4) ys ∧ Below w.heap.size w w6 ∧ w.heap.size ≤ w6.heap.size ∧ (∀ j, w6.heap.size ≤ j → ¬ F' j) ∧ WrAt w6 w.heap.size ys5 F' := by
            intro w6 hB6
            have h5 : WrAt (w5) w.heap.size ys5 F' := H51.out
            have hlt5 : ∀ j, F' j → j < (w5).heap.size := by obtain ⟨_, _, _, _, _, h⟩ := h5; exact h
            have hb5 : Below w.heap.size w (w5) := HBO1.out.below.trans (H52.out.below (B := w.heap.size) HBO1.out.below.size HBO.out.low)
            have hb6 := below_from hb5 (Nat.le_refl _) hB6
            exact ⟨Kd.R_below (want_keep HBO1.out.row H52.out H53.out) hB6, hb6, hb6.size, fun j hj hf => by have := hlt5 j hf; have := hB6.size; omega, h5.below hB6⟩
          rw [hys5] at HNX
          go_wp2_with (first
            | (go_at_call 11; refine href.mono ?_; rintro e w6 ⟨u6, rfl, hR6, hB6⟩; obtain ⟨A6, c6, rfl, _, hC6⟩ := Kd.R_reads hR6; obtain ⟨ho6, hb6, hs6, hf6, hw6⟩ := HNX w6 hB6; (have HO6 := Aside0.mk ho6); (have HB6 := Aside0.mk hb6); (have HS6 := Aside0.mk hs6); (have HF6 := Aside0.mk hf6); (have HW6 := Aside0.mk hw6); (have HC6 := Aside0.mk hC6); clear hR6 hB6 hC6 ho6 hb6 hs6 hf6 hw6)
            | ((with_reducible refine gate_builtin (b := .append) (xs := #[.tmp 42, .tmp 45]) rfl ?_); at_builtin; refine Kd.R_append_row (Value.int .u8) (0 : Int) (h1 := fun _ => rfl) (w0 := w) w.heap.size rfl (.tmp 42) (.tmp 45) 25 5 (.int .u8 0) 1 rfl Try.underlying25 info8 rfl (by decide) (.slice A4 ys.length c4) ys zs A6 zs.length c6 (fun j => ¬ F' j) rfl rfl HF6.out HO6.out HC6.out HB6.out HS6.out (by have := HYS.out; have := HZ.out; omega) ?_; intro v1 w7 ho hbel hg hat; (have HNEW := Aside0.mk (show WrBoth w w7 w.heap.size F' v1 (ys ++ zs) from ⟨HW6.out.chg (Chg.of_grown hg) (fun k hk e => HO6.out.1 k e.symm hk), HLOW.out, ho, hbel⟩)); clear ho hbel hg hat))
          go_roundw
          case rel => exact ⟨k + 1, F', _, by omega, by go_num, HNEW, ⟨by have := HYS.out; have := HZ.out; rw [List.length_append]; omega⟩⟩
          case measure => simp [intOf]; omega
        · rw [if_neg hs, if_neg hs] at htx
          have hsI : ¬ ((xt.size : Int) ≤ 65535) := by omega
          rw [hBX] at htx
          go_wp2_with (first
            | (go_at_call 10; refine htx.mono ?_; rintro e w5 ⟨rfl, hg5⟩; rw [← hBX] at hg5; (have h52 := hg5.choose_spec.2.1); obtain ⟨b0, b1, b2⟩ := hbx _ h52; obtain ⟨F', hb⟩ := HBO1.out.same hg5; (have HNEW := Aside0.mk hb); clear hb h52 hg5))
          go_roundw
          case rel => exact ⟨k + 1, F', _, by omega, by go_num, HNEW, ⟨by have := HYS.out; omega⟩⟩
          case measure => simp [intOf]; omega
      · have hz1 : (xz == 0) = false := beq_eq_false_iff_ne.mpr hz
        have htx := wnum_any w.heap.size ys F xn xz (wr.alloc BX) HBO1.out.at_ hxn (by have := HYS.out; omega)
        have hfits := fun W => fits_any xn xz W hxn
        by_cases hs : numOk xn xz = true
        · rw [if_pos hs, if_pos hs] at htx
          rw [hs] at hfits
          obtain ⟨h0, hcs⟩ := top_cases hs
          obtain ⟨s, rfl⟩ : ∃ s : Nat, xz = s := ⟨xz.toNat, by omega⟩
          rw [Int.toNat_natCast] at htx
          rw [hBX] at htx
          have hs8 : s ≤ 8 := by omega
          clear hcs
          go_upto_region 18 with (first
            | (go_at_call 12; refine htx.mono ?_; rintro e w5 ⟨rfl, hg5⟩; rw [← hBX] at hg5; obtain ⟨F', h51, h52, h53⟩ := hg5; obtain ⟨b0, b1, b2⟩ := hbx _ h52; (have H51 := Aside0.mk h51); (have H52 := Aside0.mk h52); (have H53 := Aside0.mk h53); clear h51 h52 h53)
            | (go_at_call 13; refine (hfits _).mono ?_; rintro e w5' ⟨rfl, ⟨nd, rfl⟩⟩))
          obtain ⟨ys5, hys5⟩ : ∃ ys5, ys5 = ys ++ le xn s := ⟨_, rfl⟩
          rw [← hys5] at H51
          have HZ : Aside0 ((le xn s).length ≤ 8) := ⟨by rw [le_length]; exact hs8⟩
          replace H51 : Aside0 (WrAt (w5.drewN nd) w.heap.size ys5 F') := ⟨H51.out.chg ((Chg.refl w5 (fun _ => False)).drewN nd) (fun _ _ h => h)⟩
          replace H52 : Aside0 (Chg (wr.alloc BX) (w5.drewN nd) F) := ⟨H52.out.drewN nd⟩
          have HLOW : Aside0 (∀ j, F' j → w.heap.size ≤ j) := ⟨fun j hj => (H53.out j hj).elim (HBO.out.low j) (fun h => by have := HBO1.out.below.size; omega)⟩
          have HNX : ∀ w6, Below (w5.drewN nd).heap.size (w5.drewN nd) w6 → Kd.R (Kd.int .u8) 5 w6 w.heap.size (fun j => ¬ F' j) (.slice A4 ys.length c4) ys ∧ Below w.heap.size w w6 ∧ w.heap.size ≤ w6.heap.size ∧ (∀ j, w6.heap.size ≤ j → ¬ F' j) ∧ WrAt w6 w.heap.size ys5 F' := by
            intro w6 hB6
            have h5 : WrAt (w5.drewN nd) w.heap.size ys5 F' := H51.out
            have hlt5 : ∀ j, F' j → j < (w5.drewN nd).heap.size := by obtain ⟨_, _, _, _, _, h⟩ := h5; exact h
            have hb5 : Below w.heap.size w (w5.drewN nd) := HBO1.out.below.trans (H52.out.below (B := w.heap.size) HBO1.out.below.size HBO.out.low)
            have hb6 := below_from hb5 (Nat.le_refl _) hB6
            exact ⟨Kd.R_below (want_keep HBO1.out.row H52.out H53.out) hB6, hb6, hb6.size, fun j hj hf => by have := hlt5 j hf; have := hB6.size; omega, h5.below hB6⟩
          rw [hys5] at HNX
          have href := refnum_ok xn s (w5.drewN nd) h0 hxn hs8
          go_wp2_with (first
            | (go_at_call 14; refine href.mono ?_; rintro e w6 ⟨u6, rfl, hR6, hB6⟩; obtain ⟨A6, c6, rfl, _, hC6⟩ := Kd.R_reads hR6; obtain ⟨ho6, hb6, hs6, hf6, hw6⟩ := HNX w6 hB6; (have HO6 := Aside0.mk ho6); (have HB6 := Aside0.mk hb6); (have HS6 := Aside0.mk hs6); (have HF6 := Aside0.mk hf6); (have HW6 := Aside0.mk hw6); (have HC6 := Aside0.mk hC6); clear hR6 hB6 hC6 ho6 hb6 hs6 hf6 hw6)
            | ((with_reducible refine gate_builtin (b := .append) (xs := #[.tmp 71, .tmp 76]) rfl ?_); at_builtin; refine Kd.R_append_row (Value.int .u8) (0 : Int) (h1 := fun _ => rfl) (w0 := w) w.heap.size rfl (.tmp 71) (.tmp 76) 25 5 (.int .u8 0) 1 rfl Try.underlying25 info8 rfl (by decide) (.slice A4 ys.length c4) ys (le xn s) A6 (le xn s).length c6 (fun j => ¬ F' j) rfl rfl HF6.out HO6.out HC6.out HB6.out HS6.out (by have := HYS.out; have := HZ.out; omega) ?_; intro v1 w7 ho hbel hg hat; (have HNEW := Aside0.mk (show WrBoth w w7 w.heap.size F' v1 (ys ++ (le xn s)) from ⟨HW6.out.chg (Chg.of_grown hg) (fun k hk e => HO6.out.1 k e.symm hk), HLOW.out, ho, hbel⟩)); clear ho hbel hg hat))
          go_roundw
          case rel => exact ⟨k + 1, F', _, by omega, by go_num, HNEW, ⟨by have := HYS.out; have := HZ.out; rw [List.length_append]; omega⟩⟩
          case measure => simp [intOf]; omega
        · rw [if_neg hs, if_neg hs] at htx
          rw [show numOk xn xz = false by simpa using hs] at hfits
          rw [hBX] at htx
          go_wp2_with (first
            | (go_at_call 12; refine htx.mono ?_; rintro e w5 ⟨rfl, hg5⟩; rw [← hBX] at hg5; (have h52 := hg5.choose_spec.2.1); obtain ⟨b0, b1, b2⟩ := hbx _ h52; obtain ⟨F', hb⟩ := HBO1.out.same hg5; (have HNEW := Aside0.mk hb); clear hb h52 hg5)
            | (go_at_call 13; refine (hfits _).mono ?_; rintro e w5' ⟨rfl, ⟨nd, rfl⟩⟩))
          go_roundw
          case rel => exact ⟨k + 1, F', _, by omega, by go_num, ⟨HNEW.out.drewN _⟩, ⟨by have := HYS.out; omega⟩⟩
          case measure => simp [intOf]; omega
    · have hltI : ¬ (k : Int) < (l.length : Int) := by omega
      obtain ⟨sb, hsb⟩ : ∃ sb, sb = strOfNums ys := ⟨_, rfl⟩
      have hyl : ys.length ≤ 140737488355328 := by have := HYS.out; omega
      have hcv : ∀ W, Below wr.heap.size wr W → (convert 25 9 (.slice A4 ys.length c4)).run Try.prog W = .ok (.string sb) W := by
        intro W hB
        obtain ⟨A, c, e, _, hC⟩ := Kd.R_reads HBO.out.row
        injection e with e1 e2 e3
        subst e1
        rw [hsb]
        exact Kd.C_string Try.underlying25 Try.underlying5 Try.underlying9 (Kd.C_below hC hB)
      have hst : (convert 25 9 (.slice A4 ys.length c4)).run Try.prog wr.drew = .ok (.string sb) wr.drew ∧ Below wr.heap.size wr wr.drew := ⟨hcv _ (below_drew (Below.refl _ _)), below_drew (Below.refl _ _)⟩
      have hby : ∀ W, ((convert 25 9 (.slice A4 ys.length c4)).run Try.prog W = .ok (.string sb) W ∧ Below wr.heap.size wr W) → Calls Try.prog 15 #[.pointer (some ⟨w.heap.size, 0, none⟩)] W fun e W' => ∃ A c, e = .returned (.slice A ys.length c) ∧ (convert 25 9 (.slice A ys.length c)).run Try.prog W' = .ok (.string sb) W' ∧ ((convert 25 9 (.slice A4 ys.length c4)).run Try.prog W' = .ok (.string sb) W' ∧ Below wr.heap.size wr W') := by
        intro W hS
        refine (bytes_from ⟨F, HBO.out.at_.below hS.2, HBO.out.low⟩ hyl).mono ?_
        rintro e W' ⟨A, c, rfl, hc, hC, hB, _⟩
        have hB' := below_from hS.2 (Nat.le_refl _) hB
        refine ⟨A, c, rfl, ?_, hcv _ hB', hB'⟩
        rw [hsb]
        exact Kd.C_string Try.underlying25 Try.underlying5 Try.underlying9 hC
      have hsp : ∀ W, ((convert 25 9 (.slice A4 ys.length c4)).run Try.prog W = .ok (.string sb) W ∧ Below wr.heap.size wr W) → Calls Try.prog 16 #[] W fun e W' => e = .returned (.bool true) ∧ ((convert 25 9 (.slice A4 ys.length c4)).run Try.prog W' = .ok (.string sb) W' ∧ Below wr.heap.size wr W') := by
        intro W hS
        refine (speaks_ok W).mono ?_
        rintro e W' ⟨rfl, hB⟩
        have hB' := below_from hS.2 (Nat.le_refl _) hB
        exact ⟨rfl, hcv _ hB', hB'⟩
      clear hcv hsb
      go_upto_region 20 with (fail)
      obtain ⟨hst1, hst2⟩ := hst
      go_region_with (first
        | (go_at_call 15; refine (hby _ ⟨hst1, hst2⟩).mono ?_; rintro e w6 ⟨A6, c6, rfl, hcv6, hcv7, hB6⟩; (have HB6 := Aside0.mk hB6); clear hB6)
        | (go_at_call 16; refine (hsp _ ⟨hcv7, HB6.out⟩).mono ?_; rintro e w7 ⟨rfl, hcv8, hB7⟩; (have HB7 := Aside0.mk hB7); clear hB7))
      all_goals
        go_wp2
        go_ret
        exact ⟨rfl, below_from HBO.out.below (Nat.le_refl _) HB7.out⟩
end Go.Proofs.Ytjipjoadeeapnaa.Wire
