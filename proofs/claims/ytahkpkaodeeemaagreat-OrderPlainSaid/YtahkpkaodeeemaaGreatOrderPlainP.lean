/- What Order answers of a row of needs backwards. Plain facts. -/
import Derived.Test.YtahkpkaodeeemaaGreatQueuePlain
namespace Go.Proofs.YtahkpkaodeeemaaGreat
set_option linter.unusedVariables false
section
variable {n : Nat}
theorem back_at {i : Nat} (hi : i < n) : (longX n false).getD i [] = if i + 1 < n then [(i : Int) + 1] else [] := by
  rw [List.getD_eq_getElem?_getD, List.getElem?_eq_getElem (by rw [longX_len]; exact hi), longX_at]
  simp
theorem back_norm {i : Nat} (hi : i < n) : normL ((longX n false).getD i []) = if i + 1 < n then [(i : Int) + 1] else [] := by
  rw [back_at hi]
  split
  · exact norm_one _
  · exact normL_nil
def backU (n i : Nat) : List (List Int) := (List.range n).map fun k => if 1 ≤ k ∧ k - 1 < i then [((k - 1 : Nat) : Int)] else []
theorem back_users : ∀ {i : Nat}, i ≤ n → usersQ (longX n false) i = backU n i := by
  intro i
  induction i with
  | zero =>
    intro _
    unfold usersQ backU
    rw [longX_len]
    apply List.ext_getElem
    · simp
    · intro j h1 h2
      simp
  | succ i ih =>
    intro hi
    unfold usersQ
    rw [ih (by omega), back_norm (by omega)]
    by_cases h : i + 1 < n
    · rw [if_pos h]
      unfold addU addU
      have e : ((i : Int) + 1).toNat = i + 1 := by omega
      rw [e]
      apply List.ext_getElem
      · simp [backU]
      · intro j h1 h2
        rw [List.getElem_set]
        by_cases ej : i + 1 = j
        · subst ej
          rw [if_pos rfl, List.getD_eq_getElem?_getD, List.getElem?_eq_getElem (by simp [backU]; exact h)]
          simp [backU]
        · rw [if_neg ej]
          have e2 : (1 ≤ j ∧ j - 1 < i) ↔ (1 ≤ j ∧ j - 1 < i + 1) := by omega
          simp only [backU, List.getElem_map, List.getElem_range, e2]
    · rw [if_neg h]
      unfold addU
      apply List.ext_getElem
      · simp [backU]
      · intro j h1 h2
        have hj : j < n := by simpa [backU] using h1
        have e2 : (1 ≤ j ∧ j - 1 < i) ↔ (1 ≤ j ∧ j - 1 < i + 1) := by omega
        simp only [backU, List.getElem_map, List.getElem_range, e2]
def backW (n m : Nat) : List Int := (List.range n).map fun j => if j < m then 1 else 0
theorem back_wait : waitQ (longX n false) n = backW n (n - 1) := by
  apply List.ext_getElem
  · simp [waitQ, backW, longX_len]
  · intro j h1 h2
    have hj : j < n := by simpa [backW] using h2
    simp only [waitQ, backW, List.getElem_map, List.getElem_range]
    rw [if_pos hj, back_norm hj]
    by_cases h : j + 1 < n
    · rw [if_pos h, if_pos (by omega)]
      rfl
    · rw [if_neg h, if_neg (by omega)]
      rfl
theorem back_ready_few : ∀ {i : Nat}, i + 1 ≤ n → readyQ (longX n false) i = [] := by
  intro i
  induction i with
  | zero => intro _; rfl
  | succ i ih =>
    intro hi
    have e : normL ((longX n false).getD i []) = [(i : Int) + 1] := by rw [back_norm (by omega), if_pos (by omega)]
    unfold readyQ
    rw [e, if_neg (by simp)]
    exact ih (by omega)
theorem back_ready (h1 : 1 ≤ n) : readyQ (longX n false) n = [((n - 1 : Nat) : Int)] := by
  obtain ⟨m, rfl⟩ : ∃ m, n = m + 1 := ⟨n - 1, by omega⟩
  have e : normL ((longX (m + 1) false).getD m []) = [] := by rw [back_norm (by omega), if_neg (by omega)]
  unfold readyQ
  rw [e, List.length_nil, if_pos rfl, back_ready_few (by omega)]
  rfl
theorem run_back : ∀ (m f : Nat) (out : List Int), m < n → m + 1 ≤ f → out.length + m + 1 ≤ 1000 → runQ f (backU n n) (backW n m) [(m : Int)] out = some (out ++ (List.range (m + 1)).map fun t => ((m - t : Nat) : Int)) := by
  intro m
  induction m with
  | zero =>
    intro f out hm hf hl
    obtain ⟨f, rfl⟩ : ∃ f', f = f' + 1 := ⟨f - 1, by omega⟩
    have hu : (backU n n).getD ((0 : Nat) : Int).toNat [] = [] := by
      rw [List.getD_eq_getElem?_getD, List.getElem?_eq_getElem (by simpa [backU] using hm)]
      simp [backU]
    unfold runQ
    rw [hu, if_pos ⟨by omega, by simpa [backU] using hm, by simp, by omega, by simp⟩]
    simp only [decQ]
    cases f <;> simp [runQ]
  | succ m ih =>
    intro f out hm hf hl
    obtain ⟨f, rfl⟩ : ∃ f', f = f' + 1 := ⟨f - 1, by omega⟩
    have et : (((m + 1 : Nat) : Int)).toNat = m + 1 := by omega
    have hu : (backU n n).getD (((m + 1 : Nat) : Int)).toNat [] = [(m : Int)] := by
      rw [et, List.getD_eq_getElem?_getD, List.getElem?_eq_getElem (by simpa [backU] using hm)]
      have : m < n := by omega
      simp [backU, this]
    have hw : (backW n (m + 1)).getD m 0 = 1 := by
      rw [List.getD_eq_getElem?_getD, List.getElem?_eq_getElem (by simp [backW]; omega)]
      simp [backW]
    have hs : (backW n (m + 1)).set m 0 = backW n m := by
      apply List.ext_getElem
      · simp [backW]
      · intro j h1 h2
        rw [List.getElem_set]
        by_cases e : m = j
        · subst e
          simp [backW]
        · have e2 : j < m + 1 ↔ j < m := by omega
          simp [backW, e, e2]
    unfold runQ
    rw [hu, if_pos ⟨by omega, by rw [et]; simpa [backU] using hm, by simp, by omega, by simp⟩]
    have hd : decQ [(m : Int)] (backW n (m + 1)) [] = some (backW n m, [(m : Int)]) := by
      unfold decQ
      rw [Int.toNat_natCast, hw, if_pos ⟨by omega, by simp [backW]; omega, by omega, by omega, by omega⟩, if_pos rfl, if_pos ⟨by simp, by simp⟩, hs]
      rfl
    rw [hd]
    simp only
    rw [ih f _ (by omega) (by omega) (by rw [List.length_append]; simp; omega)]
    congr 1
    rw [List.append_assoc]
    congr 1
    rw [List.range_succ_eq_map (n := m + 1), List.map_cons, List.map_map]
    simp only [List.singleton_append, Nat.sub_zero]
    congr 1
    apply List.map_congr_left
    intro t _
    simp only [Function.comp]
    congr 1
    omega
theorem order_back (h1 : 1 ≤ n) (hn : n ≤ 900) : orderQ (longX n false) = some ((List.range n).map fun t => ((n - 1 - t : Nat) : Int)) := by
  unfold orderQ
  rw [longX_len, back_users (Nat.le_refl _), back_wait, back_ready h1, run_back (n - 1) n [] (by omega) (by omega) (by simp; omega)]
  rw [List.nil_append, show n - 1 + 1 = n by omega]
theorem back_ok (hn : n ≤ 1000) : refused (longX n false) = 0 := by
  refine refused_none (by rw [longX_len]; omega) (fun j hj => ?_) (fun j hj i hi => ?_)
  · rw [longX_at hj]
    split <;> simp
  · rw [longX_len] at hj ⊢
    have e := longX_at (n := n) (round := false) (i := j) (by rw [longX_len]; exact hj)
    have hm := List.getElem_mem hi
    generalize (longX n false)[j][i] = y at hm ⊢
    rw [e] at hm
    split at hm
    · rw [List.mem_singleton] at hm; omega
    · simp at hm
theorem back_none (hn : n ≤ 1000) : roundRows (longX n false) = [] := by
  refine none_round (fun v => n - v) (fun v hv u hu => ?_) (back_ok hn)
  rw [longX_len] at hv
  rcases (longX_adj hv u).1 hu with ⟨h, rfl⟩ | ⟨_, h, _⟩
  · omega
  · cases h
theorem nils_ok (hn : n ≤ 1000) : refused (List.replicate n ([] : List Int)) = 0 :=
  refused_none (by simp; omega) (by simp) (by simp)
theorem nils_none (hn : n ≤ 1000) : roundRows (List.replicate n ([] : List Int)) = [] := by
  refine none_round (fun _ => 0) (fun v hv u hu => ?_) (nils_ok hn)
  unfold adjOf at hu
  rw [none_at] at hu
  cases hu
end
end Go.Proofs.YtahkpkaodeeemaaGreat
