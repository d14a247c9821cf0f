/- Plain facts on needs: no program in sight. -/
import Derived.Test.YtahkpkaodeeemaaGreatMem
namespace Go.Proofs.YtahkpkaodeeemaaGreat

/-- P1401's errors: 2 too long, 1 no place, 0 none. -/
def refused (xss : List (List Int)) : Int :=
  if 1024 < xss.length then 2 else if xss.any (fun l => decide (1024 < l.length)) then 2
  else if xss.any (fun l => l.any fun k => decide (k < 0) || decide ((xss.length : Int) ≤ k)) then 1 else 0

theorem refused_long {xss : List (List Int)} (h : 1024 < xss.length) : refused xss = 2 := by simp [refused, h]
theorem refused_row {xss : List (List Int)} {k : Nat} (hk : k < xss.length) (h : 1024 < xss[k].length) : refused xss = 2 := by
  unfold refused
  have : xss.any (fun l => decide (1024 < l.length)) = true := by
    rw [List.any_eq_true]
    exact ⟨xss[k], List.getElem_mem hk, by simpa using h⟩
  simp [this]
theorem any_long_false {xss : List (List Int)} (h : ∀ j (hj : j < xss.length), xss[j].length ≤ 1024) : xss.any (fun l => decide (1024 < l.length)) = false := by
  rw [List.any_eq_false]
  intro l hl
  obtain ⟨j, hj, rfl⟩ := List.mem_iff_getElem.1 hl
  have := h j hj
  simpa using this
theorem refused_bad {xss : List (List Int)} (h0 : xss.length ≤ 1024) (h : ∀ j (hj : j < xss.length), xss[j].length ≤ 1024) {k i : Nat} (hk : k < xss.length) (hi : i < xss[k].length)
    (hb : xss[k][i] < 0 ∨ (xss.length : Int) ≤ xss[k][i]) : refused xss = 1 := by
  unfold refused
  rw [if_neg (by omega), any_long_false h]
  have : xss.any (fun l => l.any fun k => decide (k < 0) || decide ((xss.length : Int) ≤ k)) = true := by
    rw [List.any_eq_true]
    refine ⟨xss[k], List.getElem_mem hk, ?_⟩
    rw [List.any_eq_true]
    exact ⟨xss[k][i], List.getElem_mem hi, by simpa using hb⟩
  simp [this]
theorem refused_none {xss : List (List Int)} (h0 : xss.length ≤ 1024) (h : ∀ j (hj : j < xss.length), xss[j].length ≤ 1024)
    (hg : ∀ j (hj : j < xss.length) i (hi : i < xss[j].length), 0 ≤ xss[j][i] ∧ xss[j][i] < (xss.length : Int)) : refused xss = 0 := by
  unfold refused
  rw [if_neg (by omega), any_long_false h]
  have : xss.any (fun l => l.any fun k => decide (k < 0) || decide ((xss.length : Int) ≤ k)) = false := by
    rw [List.any_eq_false]
    intro l hl
    obtain ⟨j, hj, rfl⟩ := List.mem_iff_getElem.1 hl
    rw [Bool.not_eq_true, List.any_eq_false]
    intro k hk
    obtain ⟨i, hi, rfl⟩ := List.mem_iff_getElem.1 hk
    have := hg j hj i hi
    simp only [Bool.or_eq_true, decide_eq_true_eq]
    omega
  simp [this]
theorem refused_zero {xss : List (List Int)} (h : refused xss = 0) : xss.length ≤ 1024 ∧ (∀ j (hj : j < xss.length), xss[j].length ≤ 1024) ∧
    ∀ j (hj : j < xss.length) i (hi : i < xss[j].length), 0 ≤ xss[j][i] ∧ xss[j][i] < (xss.length : Int) := by
  have h0 : xss.length ≤ 1024 := by
    rcases Nat.lt_or_ge 1024 xss.length with h' | h'
    · rw [refused_long h'] at h; omega
    · exact h'
  have h1 : ∀ j (hj : j < xss.length), xss[j].length ≤ 1024 := by
    intro j hj
    rcases Nat.lt_or_ge 1024 xss[j].length with h' | h'
    · rw [refused_row hj h'] at h; omega
    · exact h'
  refine ⟨h0, h1, fun j hj i hi => ?_⟩
  by_cases hb : xss[j][i] < 0 ∨ (xss.length : Int) ≤ xss[j][i]
  · rw [refused_bad h0 h1 hj hi hb] at h; omega
  · omega
theorem refused_cases (xss : List (List Int)) : refused xss = 0 ∨ refused xss = 1 ∨ refused xss = 2 := by
  unfold refused
  split
  · simp
  · split
    · simp
    · split <;> simp
end Go.Proofs.YtahkpkaodeeemaaGreat
