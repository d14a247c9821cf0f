/- Lists put in order, each number once. Plain facts. -/
import Derived.Lib.SlicesCompact
namespace Go.Proofs.YtahkpkaodeeemaaGreat
set_option linter.unusedVariables false

/-- A list in order. -/
def sortL (zs : List Int) : List Int := zs.mergeSort fun x y => decide (x ≤ y)
theorem sortL_perm (zs : List Int) : (sortL zs).Perm zs := List.mergeSort_perm _ _
theorem sortL_up (zs : List Int) : (sortL zs).Pairwise (· ≤ ·) := by
  have h := List.pairwise_mergeSort (le := fun x y : Int => decide (x ≤ y)) (fun a b c h1 h2 => by simp at *; omega) (fun a b => by simp; omega) zs
  exact h.imp fun h => by simpa using h
/-- .. each number once. -/
def normL (zs : List Int) : List Int := Lib.compact (sortL zs)

theorem compact_mem (zs : List Int) (x : Int) : x ∈ Lib.compact zs ↔ x ∈ zs := by
  unfold Lib.compact Lib.compactUpTo
  rw [List.mem_map]
  constructor
  · rintro ⟨j, hj, rfl⟩
    rw [List.mem_filter, List.mem_range] at hj
    rw [getElem!_pos _ j (by simpa using hj.1)]
    simp
  · intro hx
    obtain ⟨m, hm, rfl⟩ := List.mem_iff_getElem.1 hx
    have key : ∀ m, (hm : m < zs.length) → ∃ j, j ∈ (List.range zs.length).filter (Lib.keeps zs.toArray) ∧ zs.toArray[j]! = zs[m] := by
      intro m
      induction m with
      | zero =>
        intro hm
        refine ⟨0, ?_, ?_⟩
        · rw [List.mem_filter, List.mem_range]
          exact ⟨hm, Lib.keeps_lt_one _ 0 (by omega)⟩
        · rw [getElem!_pos _ 0 (by simpa using hm)]
          simp
      | succ m ih =>
        intro hm
        have e1 : zs.toArray[m + 1]! = zs[m + 1] := by rw [getElem!_pos _ _ (by simpa using hm)]; simp
        have e2 : zs.toArray[m]! = zs[m] := by rw [getElem!_pos _ _ (by simpa using (show m < zs.length by omega))]; simp
        by_cases e : zs[m + 1] = zs[m]
        · obtain ⟨j, h1, h2⟩ := ih (by omega)
          exact ⟨j, h1, h2.trans e.symm⟩
        · refine ⟨m + 1, ?_, e1⟩
          rw [List.mem_filter, List.mem_range]
          exact ⟨hm, Lib.keeps_pos (by rw [e1, Nat.add_sub_cancel, e2]; exact e)⟩
    exact key m hm
theorem compact_up {zs : List Int} (h : zs.Pairwise (· ≤ ·)) : (Lib.compact zs).Pairwise (· < ·) := by
  unfold Lib.compact Lib.compactUpTo
  rw [List.pairwise_map]
  have hr : ((List.range zs.length).filter (Lib.keeps zs.toArray)).Pairwise (· < ·) := List.Pairwise.filter _ List.pairwise_lt_range
  refine List.Pairwise.imp_of_mem (R := (· < ·)) ?_ hr
  intro i j hi hj hij
  rw [List.mem_filter, List.mem_range] at hi hj
  have hle := List.pairwise_iff_getElem.1 h
  have e : ∀ k (hk : k < zs.length), zs.toArray[k]! = zs[k] := fun k hk => by rw [getElem!_pos _ _ (by simpa using hk)]; simp
  have hne : zs[j]'hj.1 ≠ zs[j - 1]'(by omega) := by
    intro heq
    have := Lib.keeps_neg (d := zs.toArray) (m := j) (by omega) (by rw [e j hj.1, e (j - 1) (by omega)]; exact heq)
    rw [this] at hj
    exact absurd hj.2 (by decide)
  rw [e i hi.1, e j hj.1]
  have h1 : zs[j - 1]'(by omega) ≤ zs[j]'hj.1 := hle (j - 1) j (by omega) hj.1 (by omega)
  by_cases hij2 : i = j - 1
  · subst hij2; omega
  · have h2 : zs[i]'hi.1 ≤ zs[j - 1]'(by omega) := hle i (j - 1) hi.1 (by omega) (by omega)
    omega
theorem compact_len (zs : List Int) : (Lib.compact zs).length ≤ zs.length := by
  unfold Lib.compact Lib.compactUpTo
  rw [List.length_map]
  have := List.length_filter_le (Lib.keeps zs.toArray) (List.range zs.length)
  simpa using this
theorem normL_up (zs : List Int) : (normL zs).Pairwise (· < ·) := compact_up (sortL_up zs)
theorem normL_mem (zs : List Int) (x : Int) : x ∈ normL zs ↔ x ∈ zs := by
  unfold normL
  rw [compact_mem]
  exact (sortL_perm zs).mem_iff
theorem normL_len (zs : List Int) : (normL zs).length ≤ zs.length := by
  have h1 := compact_len (sortL zs)
  have h2 := (sortL_perm zs).length_eq
  unfold normL
  omega
/-- A list that rises is told by what it holds. -/
theorem up_unique {l m : List Int} (hl : l.Pairwise (· < ·)) (hm : m.Pairwise (· < ·)) (h : ∀ x, x ∈ l ↔ x ∈ m) : l = m := by
  have n1 : l.Nodup := hl.imp fun h => by omega
  have n2 : m.Nodup := hm.imp fun h => by omega
  exact List.Perm.eq_of_pairwise (le := (· < ·)) (fun a b _ _ h1 h2 => by omega) hl hm ((List.perm_ext_iff_of_nodup n1 n2).2 h)
theorem normL_of {l zs : List Int} (hl : l.Pairwise (· < ·)) (h : ∀ x, x ∈ l ↔ x ∈ zs) : normL zs = l :=
  up_unique (normL_up zs) hl fun x => (normL_mem zs x).trans (h x).symm
theorem normL_self {l : List Int} (hl : l.Pairwise (· < ·)) : normL l = l := normL_of hl fun _ => Iff.rfl
end Go.Proofs.YtahkpkaodeeemaaGreat
