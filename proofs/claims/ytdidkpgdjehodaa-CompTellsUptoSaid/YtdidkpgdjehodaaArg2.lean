/- An argument of type [][]int reads as a list of lists whose rows are no longer than what it holds. -/
import Derived.Test.YtdidkpgdjehodaaArg
namespace Go.Proofs.Ytdidkpgdjehodaa
open Go.ChangeShapes Go.WideShapes Go.ChangeAt Go.RowKit Go.Deep
set_option linter.unusedVariables false

theorem bulk_one {H : Type} (d : DataW H) : 1 ≤ Rows.uptoBulk d := by
  cases d with
  | lit l => cases l <;> simp [Rows.uptoBulk]
  | nil => simp [Rows.uptoBulk]
  | ptr d => simp [Rows.uptoBulk]
  | slice elems spare => simp [Rows.uptoBulk]
  | agg parts => simp [Rows.uptoBulk]
  | iface t d => simp [Rows.uptoBulk]
  | map entries => simp [Rows.uptoBulk]
  | held h => simp [Rows.uptoBulk]
theorem bulk_part {H : Type} {d : DataW H} {l : List (DataW H)} (h : d ∈ l) : Rows.uptoBulk d ≤ Rows.uptoBulkAll l := by
  induction l with
  | nil => cases h
  | cons x r ih =>
    simp only [Rows.uptoBulkAll]
    cases List.mem_cons.1 h with
    | inl e => subst e; omega
    | inr e => have := ih e; omega
theorem bulk_len {H : Type} (l : List (DataW H)) : l.length ≤ Rows.uptoBulkAll l := by
  induction l with
  | nil => simp [Rows.uptoBulkAll]
  | cons x r ih => have := bulk_one x; simp only [Rows.uptoBulkAll, List.length_cons]; omega

theorem arg_rows_small {H : Type} {enc : TypeId × Value → H} {W : World} {base : Nat} {v : Value} {d : DataW H} {p : List MemPlace}
    (hok : Value.okWide Try.prog W .any base 22 v) (h0 : DataW.Trod enc Try.prog W 0 (fun _ => true) true 22 v d p) : ∃ xss : List (List Int), RowsAt W v xss ∧ ∀ j (hj : j < xss.length), xss[j].length ≤ Rows.uptoBulk d := by
  obtain ⟨a0, len, cap, rfl⟩ := okWide_slice Try.underlying22 hok
  obtain ⟨fuel, hf⟩ := h0
  rcases open_int_rows Try.underlying22 Try.underlying29 Try.underlying3 Try.cellsInts Try.cellsInt hf with ⟨hcs, _⟩ | ⟨a, len', cap', A, L, C, Z, hcs, _, hl, hm, hd, hrows⟩
  · simp [Value.cells] at hcs
    obtain ⟨rfl, rfl, rfl⟩ := hcs
    exact ⟨[], ⟨[], ⟨rfl, none, 0, rfl, Nat.le_refl _, Nat.zero_le _, fun h => absurd h (Nat.lt_irrefl _)⟩, fun k u x hu => by simp at hu⟩, fun j hj => absurd hj (Nat.not_lt_zero _)⟩
  simp [Value.cells] at hcs
  obtain ⟨rfl, rfl, rfl⟩ := hcs
  refine ⟨(List.range len).map fun r => (Z r).take (L r), ⟨(List.range len).map fun r => .slice (A r) (L r) (C r), ?_, fun k u x hu hx => ?_⟩, fun j hj => ?_⟩
  · rw [List.length_map, List.length_range]
    refine ⟨by simp, some a, cap, rfl, hl, hm, fun hpos => ⟨a, rfl, ?_, fun j u hu => ?_⟩⟩
    · have := World.block_lt_of_cell? W _ (hrows 0 (by omega)).1
      rwa [block_of_add] at this
    · rw [List.getElem?_map, Option.map_eq_some_iff] at hu
      obtain ⟨r, hr, rfl⟩ := hu
      obtain ⟨hj, e⟩ := List.getElem?_eq_some_iff.1 hr
      simp at hj e
      subst e
      exact (hrows _ (by omega)).1
  · rw [List.getElem?_map, Option.map_eq_some_iff] at hu hx
    obtain ⟨r, hr, rfl⟩ := hu
    obtain ⟨r', hr', rfl⟩ := hx
    obtain rfl : r = r' := Option.some.inj (hr.symm.trans hr')
    obtain ⟨hj, e⟩ := List.getElem?_eq_some_iff.1 hr
    simp at hj e
    subst e
    obtain ⟨_, h1, h2, h3, _, h4, h5⟩ := hrows k (by omega)
    exact ints_take h1 h2 h3 h4 fun a' ha => (h5 a' ha).2
  · have hj' : j < len := by simpa using hj
    obtain ⟨_, h1, h2, h3, _, h4, h5⟩ := hrows j (by omega)
    have hd1 : d = .slice ((List.range len).map fun r => intRow .i64 (A r) (L r) (Z r)) ((List.range (cap - len)).map fun j => intRow .i64 (A (len + j)) (L (len + j)) (Z (len + j))) := congrArg Prod.fst hd
    have hin : intRow (H := H) .i64 (A j) (L j) (Z j) ∈ (List.range len).map fun r => intRow (H := H) .i64 (A r) (L r) (Z r) := List.mem_map.2 ⟨j, List.mem_range.2 hj', rfl⟩
    have b1 := bulk_part hin
    have b2 : Rows.uptoBulkAll ((List.range len).map fun r => intRow (H := H) .i64 (A r) (L r) (Z r)) ≤ Rows.uptoBulk d := by
      rw [hd1]
      simp only [Rows.uptoBulk]
      omega
    have b3 : (Z j).length ≤ Rows.uptoBulk (intRow (H := H) .i64 (A j) (L j) (Z j)) := by
      cases hA : A j with
      | none => have := h4 hA; omega
      | some a' =>
        have e1 := bulk_len (lits (H := H) .i64 ((Z j).take (L j)))
        have e2 := bulk_len (lits (H := H) .i64 ((Z j).drop (L j)))
        have l1 : (lits (H := H) .i64 ((Z j).take (L j))).length = ((Z j).take (L j)).length := by simp [lits]
        have l2 : (lits (H := H) .i64 ((Z j).drop (L j))).length = ((Z j).drop (L j)).length := by simp [lits]
        have e3 : (Z j).length = ((Z j).take (L j)).length + ((Z j).drop (L j)).length := by rw [← List.length_append, List.take_append_drop]
        simp only [intRow, Rows.uptoBulk]
        omega
    simp only [List.getElem_map, List.getElem_range]
    rw [List.length_take]
    omega
end Go.Proofs.Ytdidkpgdjehodaa
