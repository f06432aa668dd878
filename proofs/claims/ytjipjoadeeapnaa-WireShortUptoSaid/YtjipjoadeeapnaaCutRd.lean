/- Reading what was written and then cut: plain laws. -/
import Derived.Test.YtjipjoadeeapnaaWback
namespace Go.Proofs.Ytjipjoadeeapnaa.Wire
open Go.RowKit Go.Proofs.YtjipjoadeeapnaaW.PrintWords Go.Proofs.YtjipjoadeeapnaaW.PrintLast Go.Proofs.YtjipjoadeeapnaaW.PrintMore Go.Proofs.Ytjipjoadeeapnaa.Pr
open Go.Proofs.Ytjipjoadeeapnaa.Back (AllB)
set_option linter.unusedVariables false
set_option linter.unusedSimpArgs false
theorem allB_take {xs : List Int} (h : AllB xs) (m : Nat) : AllB (xs.take m) := fun x hx => h x (List.mem_of_mem_take hx)
/-- What the reader of the first m bytes holds, when the first off bytes have been asked for and es would follow. -/
def RdInv (m off : Nat) (es xs : List Int) (wrong : Int) : Prop := AllB xs ∧ xs.length ≤ m ∧ ((off ≤ m ∧ wrong = 0 ∧ xs = es.take (m - off)) ∨ (m < off ∧ wrong = 10))
theorem take_app {e rest : List Int} {k : Nat} (h : e.length ≤ k) : (e ++ rest).take k = e ++ rest.take (k - e.length) := by
  rw [List.take_append, List.take_of_length_le h]
theorem text_step {m off : Nat} {t : ByteArray} {rest xs : List Int} {wrong : Int} (ht : t.size ≤ 65535) (hr : AllB rest) (h : RdInv m off ((le t.size 2 ++ bytesOf t) ++ rest) xs wrong) :
    ∃ s ee xs' wrong', rdText xs wrong 65535 = ((s, ee), (xs', wrong')) ∧ RdInv m (off + (le t.size 2 ++ bytesOf t).length) rest xs' wrong' ∧ ((ee = 0 ∧ off + (le t.size 2 ++ bytesOf t).length ≤ m) ∨ (ee = 10 ∧ m < off + (le t.size 2 ++ bytesOf t).length)) := by
  have hl : (le t.size 2 ++ bytesOf t).length = 2 + t.size := by rw [List.length_append, le_length, bytesOf_length]
  obtain ⟨h1, h2, ⟨h3, rfl, rfl⟩ | ⟨h3, rfl⟩⟩ := h
  · by_cases hc : off + (2 + t.size) ≤ m
    · refine ⟨bytesOf t, 0, rest.take (m - (off + (le t.size 2 ++ bytesOf t).length)), 0, ?_, ⟨?_, ?_, .inl ⟨by omega, rfl, rfl⟩⟩, .inl ⟨rfl, by omega⟩⟩
      · rw [take_app (by omega), rdText_le ht, Nat.sub_sub]
      · exact allB_take hr _
      · rw [List.length_take]; omega
    · obtain ⟨s, hs⟩ := rdText_short ht (show m - off < 2 + t.size by omega) rest
      exact ⟨s, 10, _, 10, hs, ⟨h1, h2, .inr ⟨by omega, rfl⟩⟩, .inr ⟨rfl, by omega⟩⟩
  · exact ⟨[], 10, xs, 10, rdText_wrong (by decide), ⟨h1, h2, .inr ⟨by omega, rfl⟩⟩, .inr ⟨rfl, by omega⟩⟩
theorem num_step {m off s : Nat} {n : Int} {rest xs : List Int} {wrong : Int} (hn : numOk n (s : Int) = true) (hr : AllB rest) (h : RdInv m off (le n s ++ rest) xs wrong) :
    ∃ v ee xs' wrong', rdNum xs wrong (s : Int) = ((v, ee), (xs', wrong')) ∧ RdInv m (off + (le n s).length) rest xs' wrong' ∧ ((ee = 0 ∧ off + (le n s).length ≤ m) ∨ (ee = 10 ∧ m < off + (le n s).length)) := by
  have hl := le_length n s
  have hz := numOk_sized hn
  obtain ⟨h1, h2, ⟨h3, rfl, rfl⟩ | ⟨h3, rfl⟩⟩ := h
  · by_cases hc : off + s ≤ m
    · refine ⟨n, 0, rest.take (m - (off + (le n s).length)), 0, ?_, ⟨?_, ?_, .inl ⟨by omega, rfl, rfl⟩⟩, .inl ⟨rfl, by omega⟩⟩
      · rw [take_app (by omega), rdNum_le hn, Nat.sub_sub]
      · exact allB_take hr _
      · rw [List.length_take]; omega
    · refine ⟨0, 10, _, 10, rdNum_short hz ?_, ⟨h1, h2, .inr ⟨by omega, rfl⟩⟩, .inr ⟨rfl, by omega⟩⟩
      rw [List.length_take]; omega
  · exact ⟨0, 10, xs, 10, rdNum_wrong hz (by decide), ⟨h1, h2, .inr ⟨by omega, rfl⟩⟩, .inr ⟨rfl, by omega⟩⟩
theorem encs_take {l : List S27} {k : Nat} (h : k < l.length) : (encs (l.take (k + 1))).length = (encs (l.take k)).length + (encI (rd_T27 l (k : Int))).length := by
  rw [List.take_add_one, List.getElem?_eq_getElem h]
  simp only [rd_T27, Int.toNat_natCast, List.getD_eq_getElem?_getD, List.getElem?_eq_getElem h, Option.getD_some, Option.toList_some]
  rw [encs_snoc, List.length_append]
/-- Where each item ended. -/
def EndsOf (kept : List S27) (ends : List Int) : Prop := ends.length = kept.length ∧ ∀ i, i < kept.length → ends.getD i 0 = ((encs (kept.take (i + 1))).length : Int)
theorem EndsOf.snoc {kept : List S27} {ends : List Int} (h : EndsOf kept ends) (x : S27) : EndsOf (kept ++ [x]) (ends ++ [((encs (kept ++ [x])).length : Int)]) := by
  obtain ⟨h1, h2⟩ := h
  refine ⟨by simp [h1], fun i hi => ?_⟩
  rw [List.length_append] at hi
  by_cases hl : i < kept.length
  · rw [List.getD_eq_getElem?_getD, List.getElem?_append_left (by omega), ← List.getD_eq_getElem?_getD, h2 i hl, List.take_append_of_le_length (by omega)]
  · have e : i = kept.length := by simp at hi; omega
    subst e
    rw [List.getD_eq_getElem?_getD, List.getElem?_append_right (by omega), h1, Nat.sub_self]
    rw [List.take_of_length_le (by simp)]
    rfl
end Go.Proofs.Ytjipjoadeeapnaa.Wire
