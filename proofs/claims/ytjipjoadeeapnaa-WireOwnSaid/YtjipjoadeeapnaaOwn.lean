/- The law WireOwn, walked. -/
import Derived.Test.YtjipjoadeeapnaaFits
namespace Go.Proofs.Ytjipjoadeeapnaa.Wire
open Go.RowKit Go.Proofs.YtjipjoadeeapnaaW.PrintWords Go.Proofs.YtjipjoadeeapnaaW.PrintLast Go.Proofs.YtjipjoadeeapnaaW.PrintMore
open Go.Proofs.Ytjipjoadeeapnaa.Back (AllB)
set_option linter.unusedVariables false
set_option linter.unusedSimpArgs false
theorem cells_set {w : World} {g j : Nat} {cur : Array Value} {t : TypeId} {x : Value} (h : w.heap[g]? = some (.cells cur t (0, 0))) : (w.setCell ⟨g, j, none⟩ x).heap[g]? = some (.cells (cur.setIfInBounds j x) t (0, 0)) := by
  have hlt := lt_of_block h
  have h' : w.heap[g] = .cells cur t (0, 0) := by simpa [Array.getElem?_eq_getElem hlt] using h
  show (w.heap.modify g _)[g]? = _
  rw [Array.getElem?_eq_getElem (by simpa using hlt), Array.getElem_modify_self, h']
  rfl
theorem cells_cell {w : World} {g j : Nat} {cur : Array Value} {t : TypeId} {x : Value} (h : w.heap[g]? = some (.cells cur t (0, 0))) (hx : cur[j]? = some x) : w.cell? ⟨g, j, none⟩ = some x ∧ w.frozen? ⟨g, j, none⟩ = false := by
  simp [World.cell?, World.frozen?, h, hx]
/-- Some bytes that can be written: at block g. -/
def ByteRow (w : World) (g n : Nat) : Prop := ∃ cur : Array Value, w.heap[g]? = some (.cells cur 5 (0, 0)) ∧ ∀ j, j < n → ∃ v : Int, cur[j]? = some (.int .u8 v)
theorem ByteRow.set {w : World} {g n j : Nat} (h : ByteRow w g n) (v : Int) : ByteRow (w.setCell ⟨g, j, none⟩ (.int .u8 v)) g n := by
  obtain ⟨cur, h1, h2⟩ := h
  refine ⟨_, cells_set h1, fun i hi => ?_⟩
  obtain ⟨u, hu⟩ := h2 i hi
  by_cases e : i = j
  · subst e
    have hlt : i < cur.size := (Array.getElem?_eq_some_iff.1 hu).1
    exact ⟨v, by simp [Array.getElem?_setIfInBounds, hlt]⟩
  · exact ⟨u, by rw [Array.getElem?_setIfInBounds, if_neg (fun h => e h.symm)]; exact hu⟩
theorem row_of {w : World} {base : Nat} {ok : Nat → Prop} {u : Value} {xs : List Int} (h : Kd.R (Kd.int .u8) 5 w base ok u xs) (hp : 0 < xs.length) : ∃ g cap, u = .slice (some ⟨g, 0, none⟩) xs.length cap ∧ base ≤ g ∧ g < w.heap.size ∧ ByteRow w g xs.length := by
  obtain ⟨g, cap, rfl, hb, hlt, cells, hc⟩ := Kd.R_form h hp
  refine ⟨g, cap, rfl, hb, hlt, cells, hc, fun j hj => ?_⟩
  obtain ⟨A, c, e, _, hC⟩ := Kd.R_reads h
  injection e with e1 e2 e3
  subst e1
  obtain ⟨ad, e, hcell⟩ := C_cells hC hp
  injection e with e
  subst e
  have h2 := hcell j (.int .u8 xs[j]) (by simp [nums, hj])
  have e3 : (⟨g, 0, none⟩ : Addr).add j = ⟨g, j, none⟩ := by rw [Addr.add_lit]; simp
  rw [e3] at h2
  refine ⟨xs[j], ?_⟩
  simpa [World.cell?, hc] using h2
set_option maxRecDepth 100000 in
set_option maxHeartbeats 8000000 in
theorem own_ok (A : Option Addr) (c : Nat) (b : List Int) (w : World) (hr : Kd.C (Kd.int .u8) w A b.length b) (hl : b.length ≤ 140737488351232) (hb : AllB b) :
    Calls Try.prog 4 #[.slice A b.length c] w fun e w' => e = .returned (.bool true) ∧ Below w.heap.size w w' := by
  have HR := Aside0.mk hr
  have HL := Aside0.mk hl
  have HBB := Aside0.mk hb
  have q2 : ∀ s : ByteArray, s = ⟨#[97, 98]⟩ → ([] : List Int) ++ (le s.size 2 ++ bytesOf s) = [2, 0, 97, 98] := by rintro s rfl; rfl
  have q7 : strOfNums [2, 0, 97, 98] = ⟨#[2, 0, 97, 98]⟩ := rfl
  have Q2 := Aside0.mk q2
  have Q7 := Aside0.mk q7
  clear hr hl hb q2 q7
  go_enter Try.func4, Try.ntmps4
  go_upto_region 9 with (first
    | ((with_reducible refine gate_builtin (b := .append) (xs := #[.tmp 8, .tmp 9]) rfl ?_); at_builtin; refine Kd.R_append_row (Value.int .u8) (0 : Int) (h1 := fun _ => rfl) (w0 := w) w.heap.size rfl (.tmp 8) (.tmp 9) 25 5 (.int .u8 0) 1 rfl Try.underlying25 info8 rfl (by decide) (.slice none 0 0) [] b A b.length c (fun _ => True) rfl rfl (fun _ _ => trivial) (Kd.R_nil _ _ _ _ _) HR.out (Below.refl _ _) (Nat.le_refl _) ?aL ?_; (case aL => (have := HL.out; simp; omega)); intro v1 w1 ho hbel hg hat; rw [List.nil_append] at ho; obtain ⟨A1, c1, rfl, hc1, hC1⟩ := Kd.R_reads ho; (have HC1 := Aside0.mk hC1); (have HB1 := Aside0.mk hbel); (have hof := of_from (c := c) (Kd.C_below HR.out hbel) (by have := HL.out; omega)); clear ho hbel hg hat hC1)
    | (go_at_call 17; refine hof.mono ?_; rintro e w2 ⟨g2, rfl, hr2, hB2⟩; obtain ⟨Fr, hr2, hr2b⟩ := hr2; (have HR2 := Aside0.mk hr2); (have HR2B := Aside0.mk hr2b); (have HB2 := Aside0.mk hB2); (have hnew := new_from w2); clear hr2 hr2b hB2 hof)
    | (go_at_call 9; refine hnew.mono ?_; rintro e w3 ⟨rfl, hw3, hB3⟩; (have htx := text_from (w := w3) ⟨#[97, 98]⟩ hw3 hB3.size (by decide)); rw [if_pos (by decide), if_pos (by decide), Q2.out _ rfl] at htx; (have HB3 := Aside0.mk hB3); clear hw3 hB3 hnew)
    | (go_at_call 10; refine htx.mono ?_; rintro e w4 ⟨rfl, hw4, hB4⟩; obtain ⟨Fw, hw4, hw4b⟩ := hw4; (have HB4 := Aside0.mk (HB3.out.trans hB4)); (have hby := bytes_ok _ _ _ _ hw4 (by decide)); (have HW4 := Aside0.mk hw4); (have HW4B := Aside0.mk hw4b); clear hw4 hw4b hB4 htx)
    | (go_at_call 15; refine hby.mono ?_; rintro e w5 ⟨u5, rfl, hR5, hB5⟩; obtain ⟨g5, c5, rfl, hg5, hg5', hrow⟩ := row_of hR5 (by decide); (have HROW := Aside0.mk hrow); (have HB5 := Aside0.mk hB5); clear hR5 hB5 hby hrow))
  have hl0 : (0 : Int) ≤ 0 := Int.le_refl _
  go_loopw [7, 29] (fun _ v29 wr => ∃ k : Nat, k ≤ 4 ∧ v29 = .int .i64 k ∧ Aside0 (ByteRow wr g5 4) ∧ Aside0 (Chg w5 wr (fun k => k = g5))) (fun _ v29 _ => 4 - (intOf v29).toNat)
  case atStart => exact ⟨0, by omega, rfl, HROW, ⟨Chg.refl _ _⟩⟩
  case round =>
    obtain ⟨k, hk, rfl, hrow, hchg⟩ := hrel
    by_cases hlt : k < 4
    · have hltI : (k : Int) < 4 := by omega
      have hk0 : (0 : Int) ≤ (k : Int) := by omega
      obtain ⟨cur, hcur, hall⟩ := hrow.out
      obtain ⟨v, hv⟩ := hall k hlt
      obtain ⟨hce, hfr⟩ := cells_cell hcur hv
      clear hall hv hcur
      go_wp2
      go_roundw
      case rel =>
        exact ⟨k + 1, by omega, by go_num, ⟨hrow.out.set _⟩, ⟨hchg.out.trans (Chg.setCell _ _ _) (fun k hk => .inl hk)⟩⟩
      case measure => simp [intOf]; omega
    · have hltI : ¬ (k : Int) < 4 := by omega
      have hlt2 : ∀ k, Fr k → k < w2.heap.size := by obtain ⟨_, _, _, _, _, _, _, h⟩ := HR2.out; exact h
      have hlt4 : ∀ k, Fw k → k < w4.heap.size := by obtain ⟨_, _, _, _, _, h⟩ := HW4.out; exact h
      have s24 : w2.heap.size ≤ w4.heap.size := HB4.out.size
      have s45 : w4.heap.size ≤ w5.heap.size := HB5.out.size
      have s12 : w1.heap.size ≤ w2.heap.size := HB2.out.size
      have s01 : w.heap.size ≤ w1.heap.size := HB1.out.size
      have hr4 : RdAt wr g2 b 0 Fr := ((HR2.out.below HB4.out).below HB5.out).chg hchg.out (fun k hk e => by have := hlt2 k hk; omega)
      have hw4 : WrAt wr w2.heap.size [2, 0, 97, 98] Fw := (HW4.out.below HB5.out).chg hchg.out (fun k hk e => by have := hlt4 k hk; omega)
      have hrt := rdtext_ok g2 b 0 3 Fr wr hr4 (by have := HL.out; omega) (take2_ok HBB.out)
      have hB1 : ∀ w6, Chg wr w6 Fr → Below w1.heap.size w1 w6 := fun w6 h =>
        (below_from (HB2.out.trans (below_lower HB4.out s12)) (Nat.le_refl _) (below_lower HB5.out (Nat.le_refl _))).trans ((hchg.out.below (B := w1.heap.size) (by omega) (fun k hk => by omega)).trans (h.below (by have := hchg.out.size; omega) (fun k hk => HR2B.out k hk)))
      have hall : ∀ w6, Chg wr w6 Fr → Below w.heap.size w w6 ∧ (convert 25 9 (.slice A1 b.length c1)).run Try.prog w6 = .ok (.string (strOfNums b)) w6 ∧ (convert 25 9 (.slice A b.length c)).run Try.prog w6 = .ok (.string (strOfNums b)) w6 ∧ WrFrom w2.heap.size w6 w2.heap.size [2, 0, 97, 98] := by
        intro w6 h
        have hb1 := hB1 w6 h
        have hb0 := below_from HB1.out (Nat.le_refl _) hb1
        exact ⟨hb0, Kd.C_string Try.underlying25 Try.underlying5 Try.underlying9 (Kd.C_below HC1.out hb1), Kd.C_string Try.underlying25 Try.underlying5 Try.underlying9 (Kd.C_below HR.out hb0), Fw, hw4.chg h (fun k hk hf => by have := hlt2 k hf; have := HW4B.out k hk; omega), HW4B.out⟩
      have HALL := Aside0.mk hall
      clear hall hB1 hr4 hw4
      go_upto_region 14 with (go_at_call 18; refine hrt.mono ?_; rintro e w6 ⟨rfl, _, hc6⟩; obtain ⟨hb6, hcv1, hcv2, hw6⟩ := HALL.out w6 hc6; (have hby6 := bytes_from hw6 (by decide)); (have HB6 := Aside0.mk hb6); clear hc6 hw6 hrt hb6)
      generalize strOfNums b = sb at hcv1 hcv2
      go_wp2_with (first
        | (go_at_call 15; refine hby6.mono ?_; rintro e w7 ⟨A7, c7, rfl, hc7, hC7, hB7, _⟩; (have hcv := Kd.C_string (P := Try.prog) (A := A7) (c := c7) Try.underlying25 Try.underlying5 Try.underlying9 hC7); rw [Q7.out] at hcv; simp only [List.length_cons, List.length_nil, Nat.reduceAdd] at hcv; (have HB7 := Aside0.mk (below_from HB6.out (Nat.le_refl _) hB7)); clear hC7 hB7 hby6)
        | (go_at_call 16; refine (speaks_ok w7).mono ?_; rintro e w8 ⟨rfl, hB8⟩; (have HB8 := Aside0.mk (below_from HB7.out (Nat.le_refl _) hB8)); clear hB8))
      go_ret
      exact ⟨rfl, HB8.out⟩
end Go.Proofs.Ytjipjoadeeapnaa.Wire
