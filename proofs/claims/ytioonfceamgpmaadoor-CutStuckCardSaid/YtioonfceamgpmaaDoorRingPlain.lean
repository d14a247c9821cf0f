/- Break of a ring of renames, and of what goes round without a rename. Plain facts. -/
import Derived.Test.YtioonfceamgpmaaDoorBreakPlain
import Derived.Test.YtioonfceamgpmaaDoorLongPlain
namespace Go.Proofs.YtioonfceamgpmaaDoor
set_option linter.unusedVariables false

theorem ring_ok {n : Nat} (h1 : 1 ≤ n) (hn : n ≤ 1024) : refused (longX n true) = 0 := by
  refine refused_none (by rw [longX_len]; exact hn) (fun j hj => ?_) (fun j hj i hi => ?_)
  · rw [longX_at hj]
    split
    · simp
    · simp
  · rw [longX_len] at hj ⊢
    have e := longX_at (n := n) (round := true) (i := j) (by rw [longX_len]; exact hj)
    have hm := List.getElem_mem hi
    generalize (longX n true)[j][i] = y at hm ⊢
    rw [e] at hm
    split at hm
    · rw [List.mem_singleton] at hm
      omega
    · simp at hm
      omega
theorem ring_goes {n : Nat} (h1 : 1 ≤ n) : RP (longX n true) 0 0 := by
  by_cases h : n = 1
  · subst h
    exact ⟨0, (longX_adj (n := 1) (by omega) 0).2 (.inr ⟨rfl, rfl, rfl⟩), .refl _⟩
  · refine ⟨1, (longX_adj (by omega) 1).2 (.inl ⟨by omega, rfl⟩), ?_⟩
    have h2 := longX_reach (n := n) (round := true) (u := 1) (v := n - 1) (by omega) (by omega)
    exact h2.trans (Tarjan.Reach.edge ((longX_adj (by omega) 0).2 (.inr ⟨by omega, rfl, rfl⟩)))
theorem ring_head {n : Nat} (h1 : 1 ≤ n) (hn : n ≤ 1024) : ∃ l rest, roundRows (longX n true) = (0 :: l) :: rest := by
  have h0 : 0 ∈ roundL (longX n true) := roundL_iff.2 ⟨by rw [longX_len]; omega, rfl, ring_goes h1⟩
  have hs := roundL_sorted (xss := longX n true)
  rw [roundRows_ok (ring_ok h1 hn), round_rows]
  cases hl : roundL (longX n true) with
  | nil => rw [hl] at h0; cases h0
  | cons a t =>
    rw [hl] at h0 hs
    obtain rfl : a = 0 := by
      rcases List.mem_cons.1 h0 with e | h
      · exact e.symm
      · have := (List.pairwise_cons.1 hs).1 0 h; omega
    obtain ⟨l, e⟩ := mem_head (partsRep_isRep (longX n true)) (i := 0) (by rw [longX_len]; omega) rfl
    exact ⟨l.map fun (v : Nat) => (v : Int), _, by rw [List.map_cons, e]; rfl⟩
/-- Where each number needs lesser ones alone, by some count, nothing goes round. -/
theorem none_round {xss : List (List Int)} (f : Nat → Nat) (h : ∀ v, v < xss.length → ∀ u, u ∈ adjOf xss v → f u < f v) (hx : refused xss = 0) : roundRows xss = [] := by
  have hr : ∀ {u v : Nat}, Tarjan.Reach (adjOf xss) u v → u < xss.length → f v ≤ f u := by
    intro u v hr
    induction hr with
    | refl => intro _; omega
    | step h1 _ ih =>
      intro hu
      have := h _ hu _ h1
      have := ih (adj_lt hx hu h1)
      omega
  rw [roundRows_ok hx, round_rows]
  have : roundL xss = [] := by
    rw [List.eq_nil_iff_forall_not_mem]
    intro i hi
    obtain ⟨i1, _, u, hu, hui⟩ := roundL_iff.1 hi
    have := h i i1 u hu
    have := hr hui (adj_lt hx i1 hu)
    omega
  rw [this]
  rfl
theorem norm_one (x : Int) : normL [x] = [x] := normL_self (by simp)
theorem ring_norm (n : Nat) : (longX n true).map normL = longX n true := by
  apply List.ext_getElem (by simp)
  intro i h1 h2
  rw [List.getElem_map, longX_at h2]
  split
  · exact norm_one _
  · simp [norm_one]
theorem mendTo_none {acts : List Ins} {to : ByteArray} {r more : Int} {xss : List (List Int)} (h : ∀ a ∈ acts, wantsX a = false) (i : Nat) : mendTo acts to r more xss i = xss := by
  induction i with
  | zero => rfl
  | succ i ih =>
    unfold mendTo
    split
    · rename_i a l ha hl
      have hb : mendB a to r l = false := by
        unfold mendB
        rw [h a (List.mem_of_getElem? ha)]
        rfl
      rw [hb]
      exact ih
    · exact ih

section
variable {n : Nat} {acts : List Ins}
/-- What the cut of a ring leaves. -/
theorem ring_next (h2 : 2 ≤ n) (hl : acts.length = n) (hall : ∀ a ∈ acts, a.op = 3) : cutNext acts (longX n true) 0 0 = cutRows (longX n true) 0 [1] := by
  have e : (longX n true).getD 0 [] = [1] := by
    rw [List.getD_eq_getElem?_getD, List.getElem?_eq_getElem (by rw [longX_len]; omega), longX_at, if_pos (by omega)]
    rfl
  unfold cutNext
  rw [e]
  refine mendTo_none (fun a ha => ?_) _
  have ho : a.op = 3 := by
    unfold cutActs at ha
    rcases List.mem_or_eq_of_mem_set ha with ha | rfl
    · rcases List.mem_append.1 ha with ha | ha
      · exact hall a ha
      · rw [List.mem_singleton] at ha
        rw [ha]
    · show (acts.getD 0 insZ).op = 3
      rw [List.getD_eq_getElem?_getD, List.getElem?_eq_getElem (by omega)]
      exact hall _ (List.getElem_mem _)
  unfold wantsX
  rw [ho]
  rfl
theorem rows_len : (cutRows (longX n true) 0 [1]).length = n + 1 := by rw [cutRows_len2, longX_len]
theorem two_norm : normL [1, ((0 : Nat) : Int)] = [0, 1] := normL_of (by simp) (by intro x; simp; omega)
theorem rows_at {v : Nat} (h2 : 2 ≤ n) (hv : v < n + 1) : (cutRows (longX n true) 0 [1])[v]? = some (if v = 0 then [] else if v = n then [0, 1] else if v + 1 < n then [(v : Int) + 1] else [0]) := by
  unfold cutRows
  by_cases h0 : v = 0
  · subst h0
    rw [List.getElem?_set_self (by simp), if_pos rfl]
  · rw [List.getElem?_set_ne (Ne.symm h0), if_neg h0]
    by_cases hn : v = n
    · subst hn
      rw [List.getElem?_append_right (by rw [longX_len]; exact Nat.le_refl _), longX_len, Nat.sub_self, if_pos rfl]
      simp only [List.getElem?_cons_zero, List.singleton_append]
      rw [two_norm]
    · rw [if_neg hn, List.getElem?_append_left (by rw [longX_len]; omega), List.getElem?_eq_getElem (by rw [longX_len]; omega), longX_at]
      simp
theorem rows_none (h2 : 2 ≤ n) (hn : n ≤ 1000) : roundRows (cutRows (longX n true) 0 [1]) = [] := by
  have hok : refused (cutRows (longX n true) 0 [1]) = 0 := by
    refine refused_none (by rw [rows_len]; omega) (fun j hj => ?_) (fun j hj i hi => ?_)
    · rw [rows_len] at hj
      have e := rows_at h2 hj
      rw [List.getElem?_eq_getElem (by rw [rows_len]; omega)] at e
      rw [Option.some.inj e]
      split
      · simp
      · split
        · simp
        · split <;> simp
    · rw [rows_len] at hj ⊢
      have e := rows_at h2 hj
      rw [List.getElem?_eq_getElem (by rw [rows_len]; omega)] at e
      have hm := List.getElem_mem hi
      generalize (cutRows (longX n true) 0 [1])[j][i] = y at hm ⊢
      rw [Option.some.inj e] at hm
      split at hm
      · cases hm
      · split at hm
        · simp at hm; omega
        · split at hm
          · rw [List.mem_singleton] at hm; omega
          · rw [List.mem_singleton] at hm; omega
  refine none_round (fun v => if v = 0 then 0 else if v = n then n + 1 else n - v) (fun v hv u hu => ?_) hok
  rw [rows_len] at hv
  unfold adjOf at hu
  rw [List.getD_eq_getElem?_getD, rows_at h2 hv] at hu
  obtain ⟨y, hy, rfl⟩ := List.mem_map.1 hu
  rw [Option.getD_some] at hy
  split at hy
  · cases hy
  · rename_i h0
    rw [if_neg h0]
    split at hy
    · rename_i hn'
      rw [if_pos hn']
      simp at hy
      rcases hy with rfl | rfl
      · simp
      · simp; split <;> omega
    · rename_i hn'
      rw [if_neg hn']
      split at hy
      · rw [List.mem_singleton] at hy
        subst hy
        have e : ((v : Int) + 1).toNat = v + 1 := by omega
        rw [e, if_neg (by omega), if_neg (by omega)]
        omega
      · rw [List.mem_singleton] at hy
        subst hy
        simp
        omega
/-- A ring of renames is cut once. -/
theorem ring_break (h2 : 2 ≤ n) (hn : n ≤ 50) (hl : acts.length = n) (hall : ∀ a ∈ acts, a.op = 3) (h0 : cutsX (acts.getD 0 insZ) = true) :
    breakT acts (longX n true) = ⟨cutActs acts (acts.getD 0 insZ) 0 0, cutRows (longX n true) 0 [1], 1, 0⟩ := by
  obtain ⟨l, rest, hr⟩ := ring_head (n := n) (by omega) (by omega)
  unfold breakT
  rw [if_neg (by rw [ring_ok (by omega) (by omega)]; simp), if_neg (by rw [longX_len]; omega), ring_norm]
  unfold breakP
  rw [hr]
  have hf : firstL acts (0 :: l) = 0 := by
    unfold firstL findL
    rw [if_pos]
    · rfl
    · rw [List.getD_eq_getElem?_getD] at h0
      rw [Int.toNat_zero]
      cases hx : acts[0]? with
      | none => rw [List.getElem?_eq_none_iff] at hx; omega
      | some x => rw [hx] at h0; exact h0
  have hp : placeR (0 :: l) 0 = 0 := rfl
  simp only [hf, hp]
  rw [if_neg (by omega), ring_next h2 hl hall]
  rw [hl]
  obtain ⟨m, rfl⟩ : ∃ m, n = m + 1 := ⟨n - 1, by omega⟩
  unfold breakP
  rw [rows_none h2 (by omega)]
  rfl
/-- Without a rename it is refused. -/
theorem stuck_break (h1 : 1 ≤ n) (hn : n ≤ 50) (hl : acts.length = n) (hall : ∀ a ∈ acts, a.op ≠ 3) : breakT acts (longX n true) = ⟨[], [], 0, 33⟩ := by
  obtain ⟨l, rest, hr⟩ := ring_head (n := n) h1 (by omega)
  unfold breakT
  rw [if_neg (by rw [ring_ok h1 (by omega)]; simp), if_neg (by rw [longX_len]; omega), ring_norm]
  unfold breakP
  rw [hr]
  have hf : firstL acts (0 :: l) < 0 := by
    rcases Int.lt_or_le (firstL acts (0 :: l)) 0 with h | h
    · exact h
    · obtain ⟨j, _, _, h3⟩ := findL_good h
      exfalso
      cases hx : acts[((0 :: l).getD j 0).toNat]? with
      | none => rw [hx] at h3; cases h3
      | some x =>
        rw [hx] at h3
        have := hall x (List.mem_of_getElem? hx)
        simp [cutsX, this] at h3
  simp only
  rw [if_pos hf]
end
end Go.Proofs.YtioonfceamgpmaaDoor
