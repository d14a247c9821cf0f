/- What goes round: rings, rows without rings. Plain facts. -/
import Derived.Test.YtahkpkaodeeemaaGreatBoth
import Derived.Test.YtahkpkaodeeemaaGreatLongPlain
import Derived.Test.YtahkpkaodeeemaaGreatNorm
namespace Go.Proofs.YtahkpkaodeeemaaGreat
set_option linter.unusedVariables false

theorem ring_ok {n : Nat} (h1 : 1 ≤ n) (hn : n ≤ 1024) : refused (longX n true) = 0 := by
  refine refused_none (by rw [longX_len]; exact hn) (fun j hj => ?_) (fun j hj i hi => ?_)
  · rw [longX_at hj]
    split
    · simp
    · simp
  · rw [longX_len] at hj ⊢
    have e := longX_at (n := n) (round := true) (i := j) (by rw [longX_len]; exact hj)
    have hm := List.getElem_mem hi
    generalize (longX n true)[j][i] = y at hm ⊢
    rw [e] at hm
    split at hm
    · rw [List.mem_singleton] at hm
      omega
    · simp at hm
      omega
theorem ring_goes {n : Nat} (h1 : 1 ≤ n) : RP (longX n true) 0 0 := by
  by_cases h : n = 1
  · subst h
    exact ⟨0, (longX_adj (n := 1) (by omega) 0).2 (.inr ⟨rfl, rfl, rfl⟩), .refl _⟩
  · refine ⟨1, (longX_adj (by omega) 1).2 (.inl ⟨by omega, rfl⟩), ?_⟩
    have h2 := longX_reach (n := n) (round := true) (u := 1) (v := n - 1) (by omega) (by omega)
    exact h2.trans (Tarjan.Reach.edge ((longX_adj (by omega) 0).2 (.inr ⟨by omega, rfl, rfl⟩)))
theorem ring_head {n : Nat} (h1 : 1 ≤ n) (hn : n ≤ 1024) : ∃ l rest, roundRows (longX n true) = (0 :: l) :: rest := by
  have h0 : 0 ∈ roundL (longX n true) := roundL_iff.2 ⟨by rw [longX_len]; omega, rfl, ring_goes h1⟩
  have hs := roundL_sorted (xss := longX n true)
  rw [roundRows_ok (ring_ok h1 hn), round_rows]
  cases hl : roundL (longX n true) with
  | nil => rw [hl] at h0; cases h0
  | cons a t =>
    rw [hl] at h0 hs
    obtain rfl : a = 0 := by
      rcases List.mem_cons.1 h0 with e | h
      · exact e.symm
      · have := (List.pairwise_cons.1 hs).1 0 h; omega
    obtain ⟨l, e⟩ := mem_head (partsRep_isRep (longX n true)) (i := 0) (by rw [longX_len]; omega) rfl
    exact ⟨l.map fun (v : Nat) => (v : Int), _, by rw [List.map_cons, e]; rfl⟩
/-- Where each number needs lesser ones alone, by some count, nothing goes round. -/
theorem none_round {xss : List (List Int)} (f : Nat → Nat) (h : ∀ v, v < xss.length → ∀ u, u ∈ adjOf xss v → f u < f v) (hx : refused xss = 0) : roundRows xss = [] := by
  have hr : ∀ {u v : Nat}, Tarjan.Reach (adjOf xss) u v → u < xss.length → f v ≤ f u := by
    intro u v hr
    induction hr with
    | refl => intro _; omega
    | step h1 _ ih =>
      intro hu
      have := h _ hu _ h1
      have := ih (adj_lt hx hu h1)
      omega
  rw [roundRows_ok hx, round_rows]
  have : roundL xss = [] := by
    rw [List.eq_nil_iff_forall_not_mem]
    intro i hi
    obtain ⟨i1, _, u, hu, hui⟩ := roundL_iff.1 hi
    have := h i i1 u hu
    have := hr hui (adj_lt hx i1 hu)
    omega
  rw [this]
  rfl
theorem norm_one (x : Int) : normL [x] = [x] := normL_self (by simp)
theorem ring_norm (n : Nat) : (longX n true).map normL = longX n true := by
  apply List.ext_getElem (by simp)
  intro i h1 h2
  rw [List.getElem_map, longX_at h2]
  split
  · exact norm_one _
  · simp [norm_one]
end Go.Proofs.YtahkpkaodeeemaaGreat
