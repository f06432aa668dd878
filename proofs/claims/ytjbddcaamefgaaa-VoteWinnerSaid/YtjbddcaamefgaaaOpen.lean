/- What a law's arguments are, read as data, as the printed texts tell them (the kinds of the print's words): numbers, bools, texts, slices, structs, and all of them inside one another; and how large they are. -/
import Derived.Test.YtjbddcaamefgaaaRows
import Derived.Test.YtjbddcaamefgaaaWWords
import Derived.WalkKit
import Derived.OpenShut
import Derived.SizedLaws
import Derived.ChangeArms
import Derived.ChangeOld
import Derived.DataReads
namespace Go.Proofs.Ytjbddcaamefgaaa.Open
open Go.RowKit Go.ChangeShapes Go.WideShapes Go.Proofs.YtjbddcaamefgaaaW.PrintWords
abbrev reachN : Nat := 140737488351232
/-- What a reading at type t gives: a value of kind d, of which g holds, of size m. -/
structure Opn (P : Program) (t : TypeId) {α : Type} (d : Kd α) (g : α → Prop) (m : α → Nat) : Prop where
  sz : P.cellsOf t = d.sz
  out : ∀ (H : Type) (enc : TypeId × Value → H) (W : World) (n : Nat) (cs : List Value) (x : DataW H × List MemPlace), DataW.trod enc P W 0 (fun _ => true) true n t cs = some x →
    (∀ q ∈ x.1.weights P t, q ≤ reachN) → ∃ y : α, d.K W y cs ∧ g y ∧ m y ≤ Rows.uptoBulk x.1

section
variable {P : Program} {t e : TypeId}
theorem opn_int {k : IntKind} (ht : P.underlying t = some (.int k)) (hc : P.cellsOf t = 1) : Opn P t (Kd.int k) (fun y => (Lit.int k y).wf = true) (fun _ => 1) where
  sz := hc
  out := by
    intro H enc W n cs x h _
    obtain ⟨y, rfl, rfl, hw⟩ := DataW.trod_int ht h
    exact ⟨y, rfl, hw, Nat.le_refl _⟩
theorem opn_bool (ht : P.underlying t = some .bool) (hc : P.cellsOf t = 1) : Opn P t Kd.bool (fun _ => True) (fun _ => 1) where
  sz := hc
  out := by
    intro H enc W n cs x h _
    obtain ⟨y, rfl, rfl⟩ := DataW.trod_bool ht h
    exact ⟨y, rfl, trivial, Nat.le_refl _⟩
theorem opn_string (ht : P.underlying t = some .string) (hc : P.cellsOf t = 1) : Opn P t Kd.string (fun y => y.size ≤ reachN) (fun y => y.size + 1) where
  sz := hc
  out := by
    intro H enc W n cs x h hq
    obtain ⟨y, rfl, rfl, hw⟩ := DataW.trod_string ht h
    have := hq y.data.toList.length (by simp [DataW.weights])
    exact ⟨y, rfl, by simpa using this, by simp [Rows.uptoBulk]⟩

theorem list_of {α : Type} (p : Nat → α → Prop) : ∀ len, (∀ i, i < len → ∃ y, p i y) → ∃ ys : List α, ys.length = len ∧ ∀ i y, ys[i]? = some y → p i y
  | 0, _ => ⟨[], rfl, fun i y h => by simp at h⟩
  | len + 1, h => by
    obtain ⟨ys, hl, hy⟩ := list_of p len (fun i hi => h i (by omega))
    obtain ⟨y, hp⟩ := h len (by omega)
    refine ⟨ys ++ [y], by simp [hl], fun i z hz => ?_⟩
    by_cases hi : i < len
    · rw [List.getElem?_append_left (by omega)] at hz
      exact hy i z hz
    · by_cases he : i = len
      · subst he
        rw [List.getElem?_append_right (by omega), hl] at hz
        simp at hz
        subst hz
        exact hp
      · rw [List.getElem?_eq_none (by simp; omega)] at hz
        cases hz
theorem bulk_sum {H α : Type} (m : α → Nat) : ∀ (ys : List α) (es : List (DataW H)), ys.length = es.length → (∀ (i : Nat) (y : α) (x : DataW H), ys[i]? = some y → es[i]? = some x → m y ≤ Rows.uptoBulk x) → (ys.map m).sum ≤ Rows.uptoBulkAll es
  | [], [], _, _ => by simp
  | [], _ :: _, h, _ => by simp at h
  | _ :: _, [], h, _ => by simp at h
  | y :: ys, x :: es, h, hm => by
    have ih := bulk_sum m ys es (by simpa using h) (fun i a b ha hb => hm (i + 1) a b (by simpa using ha) (by simpa using hb))
    have h0 := hm 0 y x rfl rfl
    simp only [List.map_cons, List.sum_cons, Rows.uptoBulkAll]
    omega
theorem addr_add (a : Addr) (x y : Nat) : (a.add x).add y = a.add (x + y) := by
  by_cases hx : x = 0
  · subst hx; simp [Addr.add]
  · by_cases hy : y = 0
    · subst hy; simp [Addr.add]
    · simp [Addr.add, hx, hy, Nat.add_assoc]
theorem weights_all {H : Type} {P : Program} {e : TypeId} : ∀ (es : List (DataW H)) (x : DataW H), x ∈ es → ∀ q ∈ x.weights P e, q ∈ DataW.weightsAll P e es
  | [], _, h => by simp at h
  | y :: r, x, h => by
    intro q hq
    simp only [DataW.weightsAll, List.mem_append]
    rcases List.mem_cons.1 h with rfl | h
    · exact .inl hq
    · exact .inr (weights_all r x h q hq)
/-- A slice: its length times its element's bytes is within reach. -/
theorem opn_slice {α : Type} {d : Kd α} {g : α → Prop} {m : α → Nat} {B : Nat} (ht : P.underlying t = some (.slice e)) (hc : P.cellsOf t = 1) (hB : P.bytesOf e = B) (he : Opn P e d g m) :
    Opn P t (Kd.slice e d) (fun xs => xs.length ≤ maxLen ∧ xs.length * B ≤ reachN ∧ ∀ y ∈ xs, g y) (fun xs => (xs.map m).sum + 1) where
  sz := hc
  out := by
    intro H enc W n cs x h hq
    rcases DataW.trod_slice ht h with ⟨rfl, rfl⟩ | ⟨a, len, cap, elems, rest, n, _, rfl, rfl, hb, hl, hm, hlen, hel, hsp, _⟩
    · exact ⟨[], ⟨none, 0, rfl, Nat.le_refl _, Kd.C_nil d W⟩, ⟨by simp, by simp, by simp⟩, by simp [Rows.uptoBulk]⟩
    · have hw : ∀ q ∈ DataW.weightsAll P e (elems.map (·.1)), q ≤ reachN := fun q hq' => hq q (by simp only [DataW.weights, ht]; exact List.mem_cons_of_mem _ (List.mem_append_left _ hq'))
      have h0 := hq (((elems.map (·.1)).length + (rest.map (·.1)).length) * P.bytesOf e) (by simp only [DataW.weights, ht]; exact List.mem_cons_self)
      have each : ∀ i, i < len → ∃ y : α, ∃ c : List Value, ∃ z : DataW H × List MemPlace, elems[i]? = some z ∧ d.K W y c ∧ g y ∧ m y ≤ Rows.uptoBulk z.1 ∧ ∀ j u, c[j]? = some u → W.cell? (a.add (i * d.sz + j)) = some u := by
        intro i hi
        have h1 := hel i hi
        rw [List.getElem?_eq_getElem (by omega)] at h1
        obtain ⟨c, hcs, hx⟩ := Option.bind_eq_some_iff.1 h1
        obtain ⟨_, hcl, hcell⟩ := World.cells?_some hcs
        obtain ⟨y, hy, hg, hbk⟩ := he.out H enc W n c _ hx (fun q hq' => hw q (weights_all _ _ (List.mem_map_of_mem (List.getElem_mem (by omega))) q hq'))
        refine ⟨y, c, _, List.getElem?_eq_getElem (by omega), hy, hg, hbk, fun j u hu => ?_⟩
        have hj : j < P.cellsOf e := by
          have := (List.getElem?_eq_some_iff.1 hu).1
          omega
        have h2 := hcell j hj
        rw [hu, he.sz, addr_add] at h2
        exact h2
      obtain ⟨ys, hyl, hys⟩ := list_of _ len each
      have hyl2 : ys.length = elems.length := by omega
      refine ⟨ys, ⟨some a, cap, by rw [hyl], by omega, ?_⟩, ⟨by omega, ?_, ?_⟩, ?_⟩
      · refine ⟨rfl, by unfold maxLen at hm; omega, fun _ => ⟨a, rfl, fun j p hp => ?_⟩⟩
        obtain ⟨c, z, _, hK, _, _, hcell⟩ := hys j p hp
        exact ⟨c, d.K_len hK, hK, hcell⟩
      · rw [hB] at h0
        simp only [List.length_map] at h0
        have : ys.length * B ≤ (elems.length + rest.length) * B := Nat.mul_le_mul_right _ (by omega)
        omega
      · intro y hy
        obtain ⟨j, hj, rfl⟩ := List.getElem_of_mem hy
        obtain ⟨c, z, _, _, hg, _⟩ := hys j _ (List.getElem?_eq_getElem hj)
        exact hg
      · have := bulk_sum m ys (elems.map (·.1)) (by simp [hyl2]) (fun i y z hy hz => by
          obtain ⟨c, z', h2, _, _, h3, _⟩ := hys i y hy
          rw [List.getElem?_map, h2] at hz
          simp at hz
          subst hz
          exact h3)
        simp only [Rows.uptoBulk]
        omega

/-- The fields of a struct from cell o on. -/
structure OpnF (P : Program) (fs : List Field) (o : Nat) {α : Type} (d : Kd α) (g : α → Prop) (m : α → Nat) : Prop where
  out : ∀ (H : Type) (enc : TypeId × Value → H) (W : World) (n : Nat) (cs : List Value) (xs : List (DataW H × List MemPlace)), cs.length = o + d.sz → xs.length = fs.length →
    (∀ (i : Nat) (f : Field), fs[i]? = some f → DataW.trod enc P W 0 (fun _ => true) true n f.type ((cs.drop f.offset).take (P.cellsOf f.type)) = xs[i]?) →
    (∀ q ∈ DataW.weightsEach P (fs.map (·.type)) (xs.map (·.1)), q ≤ reachN) → ∃ y : α, d.K W y (cs.drop o) ∧ g y ∧ m y ≤ Rows.uptoBulkAll (xs.map (·.1))
theorem opnF_last {α : Type} {f : Field} {o : Nat} {d : Kd α} {g : α → Prop} {m : α → Nat} (hf : f.offset = o) (h : Opn P f.type d g m) : OpnF P [f] o d g m where
  out := by
    intro H enc W n cs xs hcs hxs hel hq
    match xs, hxs with
    | [x], _ =>
      have h0 := hel 0 f rfl
      rw [hf, h.sz, List.take_of_length_le (by rw [List.length_drop]; omega)] at h0
      obtain ⟨y, hy, hg, hb⟩ := h.out H enc W n _ x (by simpa using h0) (fun q hq' => hq q (by simp [DataW.weightsEach]; exact hq'))
      exact ⟨y, hy, hg, by simp [Rows.uptoBulkAll]; exact hb⟩
theorem opnF_cons {α β : Type} {f : Field} {fs : List Field} {o : Nat} {a : Kd α} {b : Kd β} {g : α → Prop} {m : α → Nat} {g' : β → Prop} {m' : β → Nat} (hf : f.offset = o) (h : Opn P f.type a g m) (hr : OpnF P fs (o + a.sz) b g' m') :
    OpnF P (f :: fs) o (Kd.pair a b) (fun y => g y.1 ∧ g' y.2) (fun y => m y.1 + m' y.2) where
  out := by
    intro H enc W n cs xs hcs hxs hel hq
    match xs, hxs with
    | x :: xs, hxs =>
      have hsz : (Kd.pair a b).sz = a.sz + b.sz := rfl
      have h0 := hel 0 f rfl
      rw [hf, h.sz] at h0
      obtain ⟨y, hy, hg, hb⟩ := h.out H enc W n _ x (by simpa using h0) (fun q hq' => hq q (by simp only [List.map_cons, DataW.weightsEach]; exact List.mem_append_left _ hq'))
      obtain ⟨z, hz, hg', hb'⟩ := hr.out H enc W n cs xs (by omega) (by simpa using hxs) (fun i f' hf' => by simpa using hel (i + 1) f' (by simpa using hf')) (fun q hq' => hq q (by simp only [List.map_cons, DataW.weightsEach]; exact List.mem_append_right _ hq'))
      refine ⟨(y, z), ⟨(cs.drop o).take a.sz, cs.drop (o + a.sz), ?_, hy, hz⟩, ⟨hg, hg'⟩, ?_⟩
      · rw [← List.drop_drop, List.take_append_drop]
      · simp only [List.map_cons, Rows.uptoBulkAll]
        omega
/-- A struct, told by a Lean structure. -/
theorem opn_struct {α β : Type} {fs : Array Field} {d : Kd α} {g : α → Prop} {m : α → Nat} (ht : P.underlying t = some (.struct fs)) (hc : P.cellsOf t = d.sz) (h : OpnF P fs.toList 0 d g m) (f : β → α) (inv : α → β) (hfi : ∀ a, f (inv a) = a) :
    Opn P t (Kd.iso d f) (fun y => g (f y)) (fun y => m (f y) + 1) where
  sz := hc
  out := by
    intro H enc W n cs x hx hq
    obtain ⟨xs, n, _, rfl, hl, hxs, hel⟩ := DataW.trod_struct ht hx
    obtain ⟨y, hy, hg, hb⟩ := h.out H enc W n cs xs (by omega) (by simpa using hxs) (fun i f' hf' => hel i f' (by simpa using hf')) (fun q hq' => hq q (by simp only [DataW.weights, ht]; exact hq'))
    refine ⟨inv y, ?_, ?_, ?_⟩
    · show d.K W (f (inv y)) cs
      rw [hfi]
      simpa using hy
    · rw [hfi]; exact hg
    · rw [hfi]; simp only [Rows.uptoBulk]; omega
end
/-- All weights of a row's arguments, one argument at a time. -/
theorem weights_at {H : Type} {P : Program} {ts : List TypeId} {ds : List (DataW H)} (h : (DataW.weightsEach P ts ds).all (· ≤ reachBytes) = true) {j : Nat} {t : TypeId} {d : DataW H} (ht : ts[j]? = some t) (hd : ds[j]? = some d) : ∀ q ∈ d.weights P t, q ≤ reachN := by
  intro q hq
  have h1 := List.all_eq_true.1 h _ (DataW.weights_mem_each ht hd q hq)
  have h2 : q ≤ reachBytes := by simpa using h1
  exact h2
end Go.Proofs.Ytjbddcaamefgaaa.Open
