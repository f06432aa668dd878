/- What is written is read again: plain laws of layer 1. -/
import Derived.Test.YtjipjoadeeapnaaRefWr
namespace Go.Proofs.Ytjipjoadeeapnaa.Wire
open Go.RowKit Go.Proofs.YtjipjoadeeapnaaW.PrintWords Go.Proofs.YtjipjoadeeapnaaW.PrintLast Go.Proofs.YtjipjoadeeapnaaW.PrintMore Go.Proofs.Ytjipjoadeeapnaa.Pr
open Go.Proofs.Ytjipjoadeeapnaa.Back (numB numB_small numB_eight AllB hor hor_lt hor_last pow_le7)
set_option linter.unusedVariables false
set_option linter.unusedSimpArgs false
theorem le_allB : ∀ (n : Int) (k : Nat), AllB (le n k)
  | _, 0 => fun x hx => by simp [le] at hx
  | n, k + 1 => fun x hx => by
    rw [le, List.mem_cons] at hx
    rcases hx with rfl | hx
    · omega
    · exact le_allB _ k x hx
theorem hor_le : ∀ (k : Nat) (n : Int), 0 ≤ n → n < 256 ^ k → (hor (le n k) : Int) = n
  | 0, n, h0, h1 => by simp at h1; simp [le, hor]; omega
  | k + 1, n, h0, h1 => by
    rw [le, hor]
    have h2 : n / 256 < 256 ^ k := by
      rw [Int.pow_succ] at h1
      omega
    have ih := hor_le k (n / 256) (by omega) h2
    have : (n % 256).toNat = n % 256 := by omega
    rw [Int.natCast_add, Int.natCast_mul, ih, this]
    omega
theorem numB_le {n : Int} {s : Nat} (h : numOk n (s : Int) = true) : numB (le n s) = n := by
  obtain ⟨h0, hc⟩ := top_cases h
  have hb := le_allB n s
  have hl := le_length n s
  rcases hc with ⟨hs, h1⟩ | ⟨hs, h1⟩ | ⟨hs, h1⟩ | ⟨hs, h1⟩
  · obtain rfl : s = 1 := by omega
    rw [numB_small hb (by omega), hor_le 1 n h0 (by simpa using h1)]
  · obtain rfl : s = 2 := by omega
    rw [numB_small hb (by omega), hor_le 2 n h0 (by simpa using h1)]
  · obtain rfl : s = 4 := by omega
    rw [numB_small hb (by omega), hor_le 4 n h0 (by simpa using h1)]
  · obtain rfl : s = 8 := by omega
    have hh := hor_le 8 n h0 (Int.lt_of_lt_of_le h1 (by decide))
    have h7 := (hor_last hl hb).1 (by omega)
    rw [(numB_eight hb hl).1 h7, hh]
theorem numOk_sized {n size : Int} (h : numOk n size = true) : sizedB size = true := sizedB_yes (by obtain ⟨_, hc⟩ := top_cases h; omega)
theorem rdNum_le {n : Int} {s : Nat} (h : numOk n (s : Int) = true) (rest : List Int) : rdNum (le n s ++ rest) 0 (s : Int) = ((n, 0), (rest, 0)) := by
  unfold rdNum
  have hl := le_length n s
  rw [if_neg (by rw [numOk_sized h]; decide), if_neg (by simp), if_neg (by rw [List.length_append, hl]; omega), Int.toNat_natCast]
  have ht : (le n s ++ rest).take s = le n s := by rw [List.take_append_of_le_length (by omega), List.take_of_length_le (by omega)]
  have hd : (le n s ++ rest).drop s = rest := by rw [List.drop_append_of_le_length (by omega), List.drop_of_length_le (by omega)]; rfl
  have h0 := (top_cases h).1
  rw [ht, hd, numB_le h, if_neg (by omega)]
theorem rdNum_short {xs : List Int} {size : Int} (hs : sizedB size = true) (h : (xs.length : Int) < size) : rdNum xs 0 size = ((0, 10), (xs, 10)) := by
  unfold rdNum
  rw [if_neg (by rw [hs]; decide), if_neg (by simp), if_pos h]
theorem rdNum_wrong {xs : List Int} {size wrong : Int} (hs : sizedB size = true) (h : wrong ≠ 0) : rdNum xs wrong size = ((0, wrong), (xs, wrong)) := by
  unfold rdNum
  rw [if_neg (by rw [hs]; decide), if_pos h]
theorem size_numOk {n : Nat} (h : n ≤ 65535) : numOk (n : Int) ((2 : Nat) : Int) = true := by
  show numOk (n : Int) 2 = true
  unfold numOk numTop
  rw [decide_eq_true (show (0 : Int) ≤ n by omega), if_neg (by decide), if_pos rfl, decide_eq_true (by omega)]
  rfl
theorem take2_le {n : Nat} (h : n ≤ 65535) (rest : List Int) : numB ((le (n : Int) 2 ++ rest).take 2) = n := by
  have hl := le_length (n : Int) 2
  rw [List.take_append_of_le_length (by omega), List.take_of_length_le (by omega), numB_le (size_numOk h)]
theorem rdText_le {t : ByteArray} (h : t.size ≤ 65535) (rest : List Int) : rdText (le t.size 2 ++ bytesOf t ++ rest) 0 65535 = ((bytesOf t, 0), (rest, 0)) := by
  unfold rdText
  have hl := le_length (t.size : Int) 2
  have hb : (bytesOf t).length = t.size := bytesOf_length t
  rw [List.append_assoc, take2_le h]
  rw [if_neg (by omega), if_neg (by simp), if_neg (by rw [List.length_append, hl]; omega), if_neg (by rw [List.length_append, List.length_append, hl, hb]; omega), if_neg (by omega), Int.toNat_natCast]
  have hd : (le (t.size : Int) 2 ++ (bytesOf t ++ rest)).drop 2 = bytesOf t ++ rest := by rw [List.drop_append_of_le_length (by omega), List.drop_of_length_le (by omega)]; rfl
  have hd2 : (le (t.size : Int) 2 ++ (bytesOf t ++ rest)).drop (2 + t.size) = rest := by
    rw [← List.drop_drop, hd, List.drop_append_of_le_length (by omega), List.drop_of_length_le (by omega)]; rfl
  rw [hd, hd2, List.take_append_of_le_length (by omega), List.take_of_length_le (by omega)]
theorem rdText_short {t : ByteArray} (h : t.size ≤ 65535) {m : Nat} (hm : m < 2 + t.size) (rest : List Int) : ∃ s, rdText ((le t.size 2 ++ bytesOf t ++ rest).take m) 0 65535 = ((s, 10), ((le t.size 2 ++ bytesOf t ++ rest).take m, 10)) := by
  have hl := le_length (t.size : Int) 2
  have hb : (bytesOf t).length = t.size := bytesOf_length t
  have hlen : ((le t.size 2 ++ bytesOf t ++ rest).take m).length = m := by
    rw [List.length_take, List.length_append, List.length_append, hl, hb]
    omega
  refine ⟨[], ?_⟩
  unfold rdText
  rw [if_neg (by omega), if_neg (by simp)]
  by_cases h2 : m < 2
  · rw [if_pos (by omega)]
  · have ht : ((le t.size 2 ++ bytesOf t ++ rest).take m).take 2 = (le (t.size : Int) 2 ++ (bytesOf t ++ rest)).take 2 := by
      rw [List.take_take, List.append_assoc, Nat.min_eq_left (by omega)]
    rw [if_neg (by omega), ht, take2_le h, hlen, if_pos (by omega)]
theorem rdText_wrong {xs : List Int} {wrong : Int} (h : wrong ≠ 0) : rdText xs wrong 65535 = (([], wrong), (xs, wrong)) := by
  unfold rdText
  rw [if_neg (by omega), if_pos h]
theorem str_bytesOf (t : ByteArray) : strOfNums (bytesOf t) = t := by
  apply ByteArray.ext
  apply Array.toList_inj.1
  rw [Go.strOfNums_data]
  simp only [bytesOf, List.map_map]
  conv => rhs; rw [← List.map_id t.data.toList]
  apply List.map_congr_left
  intro x _
  simp
theorem bytesOf_allB (t : ByteArray) : AllB (bytesOf t) := by
  intro x hx
  simp only [bytesOf, List.mem_map] at hx
  obtain ⟨y, _, rfl⟩ := hx
  have := y.toNat_lt
  omega
/-- The item as it is written. -/
def encI (x : S27) : List Int := if x.f1 = 0 then le x.f2.size 2 ++ bytesOf x.f2 else le x.f0 x.f1.toNat
/-- Is it written? -/
def okI (x : S27) : Bool := if x.f1 = 0 then decide (x.f2.size ≤ 65535) else numOk x.f0 x.f1
def encs (l : List S27) : List Int := (l.map encI).flatten
theorem encs_cons (x : S27) (l : List S27) : encs (x :: l) = encI x ++ encs l := rfl
theorem encs_snoc (l : List S27) (x : S27) : encs (l ++ [x]) = encs l ++ encI x := by simp [encs]
theorem encI_allB (x : S27) : AllB (encI x) := by
  unfold encI
  split
  · intro y hy
    rcases List.mem_append.1 hy with h | h
    · exact le_allB _ _ y h
    · exact bytesOf_allB _ y h
  · exact le_allB _ _
theorem encs_allB (l : List S27) : AllB (encs l) := by
  intro y hy
  simp only [encs, List.mem_flatten, List.mem_map] at hy
  obtain ⟨_, ⟨x, _, rfl⟩, h⟩ := hy
  exact encI_allB x y h
theorem encI_length {x : S27} (h : okI x = true) : (encI x).length ≤ x.f2.size + 8 := by
  unfold okI at h
  unfold encI
  split
  · rw [List.length_append, le_length, bytesOf_length]; omega
  · rename_i hz
    rw [if_neg hz] at h
    rw [le_length]
    have := top_cases h
    omega
end Go.Proofs.Ytjipjoadeeapnaa.Wire
