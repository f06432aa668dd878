/- The law WireReads, walked. -/
import Derived.Test.YtjipjoadeeapnaaFits
namespace Go.Proofs.Ytjipjoadeeapnaa.Wire
open Go.RowKit Go.Proofs.YtjipjoadeeapnaaW.PrintWords Go.Proofs.YtjipjoadeeapnaaW.PrintLast Go.Proofs.YtjipjoadeeapnaaW.PrintMore Go.Proofs.Ytjipjoadeeapnaa.Pr
open Go.Proofs.Ytjipjoadeeapnaa.Back (AllB)
set_option linter.unusedVariables false
set_option linter.unusedSimpArgs false
theorem rdNum_sub {xs : List Int} {wrong size : Int} {T : (Int × Int) × (List Int × Int)} (h : rdNum xs wrong size = T) : ∃ m, T.2.1 = xs.drop m := by
  subst h
  unfold rdNum
  split
  · exact ⟨0, rfl⟩
  · split
    · exact ⟨0, rfl⟩
    · split
      · exact ⟨0, rfl⟩
      · split
        · exact ⟨0, rfl⟩
        · exact ⟨_, rfl⟩
theorem rdText_sub {xs : List Int} {wrong most : Int} {T : (List Int × Int) × (List Int × Int)} (h : rdText xs wrong most = T) : ∃ m, T.2.1 = xs.drop m := by
  subst h
  unfold rdText
  split
  · exact ⟨0, rfl⟩
  · split
    · exact ⟨0, rfl⟩
    · split
      · exact ⟨0, rfl⟩
      · split
        · exact ⟨0, rfl⟩
        · split
          · exact ⟨0, rfl⟩
          · exact ⟨_, rfl⟩
theorem allB_drop {xs : List Int} (h : AllB xs) (m : Nat) : AllB (xs.drop m) := fun x hx => h x (List.mem_of_mem_drop hx)
/-- Both readers have the same left. -/
structure Both (w wr : World) (g2 g3 : Nat) (Fr Ff : Nat → Prop) (b : List Int) (xs : List Int) (wrong : Int) : Prop where
  rd : RdAt wr g2 xs wrong Fr
  rf : RfAt wr g3 xs wrong Ff
  below : Below w.heap.size w wr
  len : xs.length ≤ b.length
  all : AllB xs
set_option maxRecDepth 100000 in
set_option maxHeartbeats 8000000 in
theorem reads_ok (A : Option Addr) (c : Nat) (b : List Int) (A1 : Option Addr) (c1 : Nat) (l : List S27) (w : World) (hr : Kd.C (Kd.int .u8) w A b.length b) (hcb : b.length ≤ c) (hl : b.length ≤ 140737488351232) (hb : AllB b)
    (hrl : Kd.C k27 w A1 l.length l) :
    Calls Try.prog 6 #[.slice A b.length c, .slice A1 l.length c1] w fun e w' => e = .returned (.bool true) ∧ Below w.heap.size w w' := by
  have hlen : l.length ≤ 9223372036854775807 := hrl.2.1
  have HR := Aside0.mk hr
  have HRL := Aside0.mk hrl
  have HL := Aside0.mk hl
  have HC := Aside0.mk hcb
  have HBB := Aside0.mk hb
  have hof := of_from (c := c) hr (by omega)
  clear hr hl hb hrl hcb
  go_enter Try.func6, Try.ntmps6
  go_upto_region 6 with (first
    | (go_at_call 17; refine hof.mono ?_; rintro e w2 ⟨g2, rfl, hr2, hB2⟩; obtain ⟨Fr, hr2, hr2b⟩ := hr2; (have HR2 := Aside0.mk hr2); (have HR2B := Aside0.mk hr2b); (have HB2 := Aside0.mk hB2); clear hr2 hr2b hB2 hof))
  have hlen0 : (0 : Int) ≤ (l.length : Int) := by omega
  have hg2 : w.heap.size ≤ g2 := HR2B.out g2 HR2.out.mine
  have hg3 : g2 < w2.heap.size := by obtain ⟨_, _, _, _, _, _, h5, h6⟩ := HR2.out; exact h6 g2 h5
  have hF3 : ∀ k, Fr k → k ≠ w2.heap.size := fun k hk => by obtain ⟨_, _, _, _, _, _, _, h6⟩ := HR2.out; have := h6 k hk; omega
  obtain ⟨Ff, hFf⟩ : ∃ Ff : Nat → Prop, Ff = fun k => k = w2.heap.size ∨ ∃ ad, A = some ad ∧ 0 < b.length ∧ k = ad.block := ⟨_, rfl⟩
  have hold : ∀ ad, A = some ad → 0 < b.length → ad.block < w.heap.size := by
    intro ad e h0
    subst e
    obtain ⟨ad', e, hc⟩ := C_cells HR.out h0
    injection e with e
    subst e
    have := hc 0 (.int .u8 b[0]) (by simp [nums, h0])
    rw [Addr.add_zero'] at this
    exact World.block_lt_of_cell? w _ this
  have hF2 : ∀ k, Ff k → k ≠ g2 := by
    rw [hFf]
    rintro k (rfl | ⟨ad, e, h0, rfl⟩)
    · omega
    · have := hold ad e h0; omega
  have hs2 : w.heap.size ≤ w2.heap.size := HB2.out.size
  have hstart : Both w (w2.alloc (.cells #[.slice A b.length c, .int .i64 0] 48)) g2 w2.heap.size Fr Ff b b 0 := by
    refine ⟨HR2.out.below (below_alloc (Below.refl _ _) _), ⟨A, c, heap_alloc_new w2 _, HC.out, Kd.C_below HR.out (HB2.out.alloc hs2 _), ?_, ?_, ?_⟩, HB2.out.alloc hs2 _, Nat.le_refl _, HBB.out⟩
    · intro ad e h0
      rw [hFf]
      exact ⟨.inr ⟨ad, e, h0, rfl⟩, by have := hold ad e h0; omega⟩
    · rw [hFf]; exact .inl rfl
    · rw [hFf]
      rintro k (rfl | ⟨ad, e, h0, rfl⟩)
      · exact blk_lt (heap_alloc_new w2 _)
      · have := hold ad e h0; simp; omega
  have HS := Aside0.mk hstart
  have HF2 := Aside0.mk hF2
  have HF3 := Aside0.mk hF3
  clear hstart hF2 hF3 hold hFf
  go_loopw [26] (fun v26 wr => ∃ (k : Nat) (xs : List Int) (wrong : Int), k ≤ l.length ∧ v26 = .int .i64 k ∧ Aside0 (Both w wr g2 w2.heap.size Fr Ff b xs wrong)) (fun v26 _ => l.length - (intOf v26).toNat)
  case atStart => exact ⟨0, b, 0, by omega, rfl, HS⟩
  case round =>
    obtain ⟨k, xs, wrong, hk, rfl, HBO⟩ := hrel
    by_cases hlt : k < l.length
    · have hltI : (k : Int) < (l.length : Int) := by omega
      have hk0 : (0 : Int) ≤ (k : Int) := by omega
      obtain ⟨ad, rfl, hx0, hx1, hx2⟩ := at_T27 (Kd.C_below HRL.out HBO.out.below) (k : Int) hk0 hltI
      rw [Int.toNat_natCast] at hx0 hx1 hx2
      generalize rd_T27 l (k : Int) = x at hx0 hx1 hx2
      obtain ⟨xn, xz, xt⟩ := x
      dsimp only at hx0 hx1 hx2
      have hxl : xs.length ≤ 140737488355328 := by have := HL.out; have := HBO.out.len; omega
      have hg2r : g2 < wr.heap.size := by obtain ⟨_, _, _, _, _, _, h5, h6⟩ := HBO.out.rd; exact h6 g2 h5
      have hbx : ∀ W', Chg (wr.alloc (.cells #[.int .i64 xn, .int .i64 xz, .string xt] 27)) W' (At g2) → W'.cell? ⟨wr.heap.size, 0, none⟩ = some (.int .i64 xn) ∧ W'.cell? ⟨wr.heap.size, 1, none⟩ = some (.int .i64 xz) := by
        intro W' h
        have h2 := h.blk (heap_alloc_new wr _) (fun e => by have e2 : wr.heap.size = g2 := e; omega)
        constructor <;> simp [World.cell?, h2]
      by_cases hz : xz = 0
      · subst hz
        have hrt := fun W (hB : Below wr.heap.size wr W) => rdtext_ok g2 xs wrong xn Fr W (HBO.out.rd.below hB) hxl (take2_ok HBO.out.all)
        have hft := fun W W' (hB : Below wr.heap.size wr W) (hc : Chg W W' (At g2)) => rftext_ok w2.heap.size xs wrong xn Ff W' ((HBO.out.rf.below hB).chg hc HF2.out) hxl HBO.out.all
        rcases hT : rdText xs wrong xn with ⟨⟨ts, te⟩, txs, tw⟩
        rw [hT] at hrt hft
        generalize strOfNums ts = tss at hrt hft
        have HT := Aside0.mk hT
        clear hT
        go_upto_region 17 with (first
          | (go_at_call 18; refine (hrt _ (by repeat (first | exact Below.refl _ _ | apply below_alloc | apply pw_below_drewN | apply below_drew))).mono ?_; rintro e w5 ⟨rfl, hr5, hc5⟩; (have HR5 := Aside0.mk hr5); (have HC5 := Aside0.mk hc5); obtain ⟨b0, b1⟩ := hbx _ hc5; clear hr5 hc5)
          | (go_at_call 20; refine (hft _ _ (by repeat (first | exact Below.refl _ _ | apply below_alloc | apply pw_below_drewN | apply below_drew)) HC5.out).mono ?_; rintro e w6 ⟨rfl, hr6, hc6⟩; (have HR6 := Aside0.mk hr6); (have HC6 := Aside0.mk hc6); clear hr6 hc6))
        obtain ⟨m, hm⟩ := rdText_sub HT.out
        have hm' : txs = xs.drop m := hm
        have hbo : Both w w6 g2 w2.heap.size Fr Ff b txs tw := by
          refine ⟨HR5.out.chg HC6.out (fun k hk => HF3.out k hk), HR6.out, ?_, ?_, ?_⟩
          · have s5 := HC5.out.size
            have s0 := HBO.out.below.size
            have s1 : wr.heap.size ≤ (wr.alloc (.cells #[.int .i64 xn, .int .i64 0, .string xt] 27)).heap.size := by simp
            exact ((below_from HBO.out.below (Nat.le_refl _) (below_alloc (Below.refl _ _) _)).trans (HC5.out.below (B := w.heap.size) (by first | exact Nat.le_trans s0 s1 | omega) (fun k hk => by rw [show k = g2 from hk]; exact hg2))).trans (HC6.out.below (B := w.heap.size) (by omega) (fun k hk => by rw [show k = w2.heap.size from hk]; exact hs2))
          · rw [hm', List.length_drop]; have := HBO.out.len; omega
          · rw [hm']; exact allB_drop HBO.out.all m
        have HBO2 := Aside0.mk hbo
        obtain ⟨A6, c6, h61, _⟩ := hbo.rf
        obtain ⟨hc60, _⟩ := two_cells h61
        have hleft := fun n => (left_ok g2 txs tw Fr (w6.drewN n) (hbo.rd.chg ((Chg.refl w6 (fun _ => False)).drewN n) (fun _ _ h => h))).mono fun _ _ h => (⟨h.1, h.2.symm⟩ : _ ∧ _)
        have hend := fun n => (end_ok g2 txs tw Fr (w6.drewN n) (hbo.rd.chg ((Chg.refl w6 (fun _ => False)).drewN n) (fun _ _ h => h))).mono fun _ _ h => (⟨h.1, h.2.out⟩ : _ ∧ ∃ m, _)
        have hrfe := fun n => (rfend_ok w2.heap.size txs tw Ff (w6.drewN n) (hbo.rf.chg ((Chg.refl w6 (fun _ => False)).drewN n) (fun _ _ h => h))).mono fun _ _ h => (⟨h.1, h.2.out⟩ : _ ∧ ∃ m, _)
        clear hbo h61 hm hm' hrt hft
        go_quiet ((first
          | (go_at_call 22; exact Calls.quiet_of_same (hleft _))
          | (go_at_call 23; exact Calls.quiet_of (hend _))
          | (go_at_call 24; exact Calls.quiet_of (hrfe _))))
        go_wp2
        go_roundw
        case rel => exact ⟨k + 1, txs, tw, by omega, by go_num, ⟨⟨HBO2.out.rd.chg ((Chg.refl w6 (fun _ => False)).drewN _) (fun _ _ h => h), HBO2.out.rf.chg ((Chg.refl w6 (fun _ => False)).drewN _) (fun _ _ h => h), pw_below_drewN HBO2.out.below _, HBO2.out.len, HBO2.out.all⟩⟩⟩
        case measure => simp [intOf]; omega
      · have hz1 : (xz == 0) = false := beq_eq_false_iff_ne.mpr hz
        have hrt := fun W (hB : Below wr.heap.size wr W) => rdnum_ok g2 xs wrong xz Fr W (HBO.out.rd.below hB) hxl
        have hft := fun W W' (hB : Below wr.heap.size wr W) (hc : Chg W W' (At g2)) => rfnum_ok w2.heap.size xs wrong xz Ff W' ((HBO.out.rf.below hB).chg hc HF2.out) hxl HBO.out.all
        rcases hT : rdNum xs wrong xz with ⟨⟨ts, te⟩, txs, tw⟩
        rw [hT] at hrt hft
        have HT := Aside0.mk hT
        clear hT
        go_upto_region 17 with (first
          | (go_at_call 19; refine (hrt _ (by repeat (first | exact Below.refl _ _ | apply below_alloc | apply pw_below_drewN | apply below_drew))).mono ?_; rintro e w5 ⟨rfl, hr5, hc5⟩; (have HR5 := Aside0.mk hr5); (have HC5 := Aside0.mk hc5); obtain ⟨b0, b1⟩ := hbx _ hc5; clear hr5 hc5)
          | (go_at_call 21; refine (hft _ _ (by repeat (first | exact Below.refl _ _ | apply below_alloc | apply pw_below_drewN | apply below_drew)) HC5.out).mono ?_; rintro e w6 ⟨rfl, hr6, hc6⟩; (have HR6 := Aside0.mk hr6); (have HC6 := Aside0.mk hc6); clear hr6 hc6))
        obtain ⟨m, hm⟩ := rdNum_sub HT.out
        have hm' : txs = xs.drop m := hm
        have hbo : Both w w6 g2 w2.heap.size Fr Ff b txs tw := by
          refine ⟨HR5.out.chg HC6.out (fun k hk => HF3.out k hk), HR6.out, ?_, ?_, ?_⟩
          · have s5 := HC5.out.size
            have s0 := HBO.out.below.size
            have s1 : wr.heap.size ≤ (wr.alloc (.cells #[.int .i64 xn, .int .i64 xz, .string xt] 27)).heap.size := by simp
            exact ((below_from HBO.out.below (Nat.le_refl _) (below_alloc (Below.refl _ _) _)).trans (HC5.out.below (B := w.heap.size) (by first | exact Nat.le_trans s0 s1 | omega) (fun k hk => by rw [show k = g2 from hk]; exact hg2))).trans (HC6.out.below (B := w.heap.size) (by omega) (fun k hk => by rw [show k = w2.heap.size from hk]; exact hs2))
          · rw [hm', List.length_drop]; have := HBO.out.len; omega
          · rw [hm']; exact allB_drop HBO.out.all m
        have HBO2 := Aside0.mk hbo
        obtain ⟨A6, c6, h61, _⟩ := hbo.rf
        obtain ⟨hc60, _⟩ := two_cells h61
        have hleft := fun n => (left_ok g2 txs tw Fr (w6.drewN n) (hbo.rd.chg ((Chg.refl w6 (fun _ => False)).drewN n) (fun _ _ h => h))).mono fun _ _ h => (⟨h.1, h.2.symm⟩ : _ ∧ _)
        have hend := fun n => (end_ok g2 txs tw Fr (w6.drewN n) (hbo.rd.chg ((Chg.refl w6 (fun _ => False)).drewN n) (fun _ _ h => h))).mono fun _ _ h => (⟨h.1, h.2.out⟩ : _ ∧ ∃ m, _)
        have hrfe := fun n => (rfend_ok w2.heap.size txs tw Ff (w6.drewN n) (hbo.rf.chg ((Chg.refl w6 (fun _ => False)).drewN n) (fun _ _ h => h))).mono fun _ _ h => (⟨h.1, h.2.out⟩ : _ ∧ ∃ m, _)
        clear hbo h61 hm hm' hrt hft
        go_quiet ((first
          | (go_at_call 22; exact Calls.quiet_of_same (hleft _))
          | (go_at_call 23; exact Calls.quiet_of (hend _))
          | (go_at_call 24; exact Calls.quiet_of (hrfe _))))
        go_wp2
        go_roundw
        case rel => exact ⟨k + 1, txs, tw, by omega, by go_num, ⟨⟨HBO2.out.rd.chg ((Chg.refl w6 (fun _ => False)).drewN _) (fun _ _ h => h), HBO2.out.rf.chg ((Chg.refl w6 (fun _ => False)).drewN _) (fun _ _ h => h), pw_below_drewN HBO2.out.below _, HBO2.out.len, HBO2.out.all⟩⟩⟩
        case measure => simp [intOf]; omega
    · have hltI : ¬ (k : Int) < (l.length : Int) := by omega
      have hsp := speaks_ok wr
      go_wp2_with (go_at_call 16; refine hsp.mono ?_; rintro e w8 ⟨rfl, hB8⟩; (have HB8 := Aside0.mk (below_from HBO.out.below (Nat.le_refl _) hB8)); clear hB8)
      go_ret
      exact ⟨rfl, HB8.out⟩
end Go.Proofs.Ytjipjoadeeapnaa.Wire
