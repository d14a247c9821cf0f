/- What Components and Round answer of a chain; a row of needs and a ring. Plain facts. -/
import Derived.Test.YtahkpkaodeeemaaGreatBoth
namespace Go.Proofs.YtahkpkaodeeemaaGreat
set_option linter.unusedVariables false

section
variable {xss : List (List Int)} {k : Nat} {ring first : Nat → Nat}
theorem Chain.comp (h : Chain xss k ring first) : compRows xss = (List.range k).map fun t => ((List.range xss.length).filter fun v => ring v == k - 1 - t).map fun (v : Nat) => (v : Int) := by
  rw [← compRows_of h.ok h.isRep h.told]
  unfold chainT
  rw [List.map_map]
  apply List.map_congr_left
  intro t ht
  have ht' := List.mem_range.1 ht
  simp only [Function.comp_apply]
  unfold mem
  rw [h.ring_mem (by omega)]
theorem Chain.comp_at (h : Chain xss k ring first) {t : Nat} (ht : t < (compRows xss).length) : t < k ∧ (compRows xss)[t] = ((List.range xss.length).filter fun v => ring v == k - 1 - t).map fun (v : Nat) => (v : Int) := by
  have e := h.comp
  have ht' : t < k := by rw [e] at ht; simpa using ht
  refine ⟨ht', ?_⟩
  simp [e]
theorem Chain.comp_len (h : Chain xss k ring first) : (compRows xss).length = k := by rw [h.comp]; simp
theorem chainT_rev (k : Nat) (first : Nat → Nat) : chainT k first k = ((List.range k).map first).reverse := by
  apply List.ext_getElem
  · simp [chainT]
  · intro i h1 h2
    simp [chainT]
theorem Chain.round_len (h : Chain xss k ring first) : (roundRows xss).length = ((List.range k).filter fun r => goes xss (fun v => first (ring v)) (first r)).length := by
  rw [roundRows_ok h.ok, round_rows, List.length_map, ← (rounds_perm h.ok h.isRep h.told).length_eq, chainT_rev, List.filter_reverse, List.length_reverse, List.filter_map, List.length_map]
  rfl
end

/-- n lists, each needing the next; with 'round' the last needs the first. -/
def longX (n : Nat) (round : Bool) : List (List Int) := (List.range n).map fun i => if i + 1 < n then [(i : Int) + 1] else if round then [0] else []
theorem longX_len (n : Nat) (round : Bool) : (longX n round).length = n := by simp [longX]
theorem longX_at {n : Nat} {round : Bool} {i : Nat} (hi : i < (longX n round).length) : (longX n round)[i] = if i + 1 < n then [(i : Int) + 1] else if round then [0] else [] := by simp [longX]
theorem longX_adj {n : Nat} {round : Bool} {i : Nat} (hi : i < n) (u : Nat) : u ∈ adjOf (longX n round) i ↔ (i + 1 < n ∧ u = i + 1) ∨ (i + 1 = n ∧ round = true ∧ u = 0) := by
  rw [adjOf_at (by rw [longX_len]; exact hi), longX_at]
  by_cases h : i + 1 < n
  · have h2 : i + 1 ≠ n := by omega
    simp [h, h2]
  · have h2 : i + 1 = n := by omega
    cases round
    · simp [h2]
    · simp [h2]
theorem longX_ok {n : Nat} (round : Bool) (h2 : 2 ≤ n) (hn : n ≤ 1024) : refused (longX n round) = 0 := by
  refine refused_none (by rw [longX_len]; exact hn) (fun j hj => ?_) (fun j hj i hi => ?_)
  · rw [longX_at]
    split
    · simp
    · split <;> simp
  · rw [longX_len] at hj ⊢
    have hm := List.getElem_mem hi
    generalize (longX n round)[j][i] = x at hm
    rw [longX_at] at hm
    split at hm
    · simp at hm
      omega
    · split at hm <;> simp at hm
      omega
theorem longX_long {n : Nat} (round : Bool) (hn : 1024 < n) : refused (longX n round) = 2 := refused_long (by rw [longX_len]; exact hn)
theorem zeros_ok {n : Nat} (hn : n ≤ 1024) : refused [List.replicate n 0] = 0 := by
  refine refused_none (by simp) (fun j hj => ?_) (fun j hj i hi => ?_)
  · obtain rfl : j = 0 := by simpa using hj
    simpa using hn
  · obtain rfl : j = 0 := by simpa using hj
    simp
theorem zeros_long {n : Nat} (hn : 1024 < n) : refused [List.replicate n 0] = 2 := refused_row (k := 0) (by simp) (by simpa using hn)

theorem longX_reach {n : Nat} {round : Bool} {v : Nat} : ∀ {u : Nat}, u ≤ v → v < n → Tarjan.Reach (adjOf (longX n round)) u v := by
  intro u
  induction h : v - u generalizing u with
  | zero =>
    intro h1 _
    obtain rfl : u = v := by omega
    exact .refl _
  | succ d ih =>
    intro h1 h2
    exact .step ((longX_adj (by omega) (u + 1)).2 (.inl ⟨by omega, rfl⟩)) (ih (by omega) (by omega) h2)
theorem long_row {n : Nat} (h2 : 2 ≤ n) (hn : n ≤ 1024) : Chain (longX n false) n id id where
  ok := longX_ok false h2 hn
  ring_lt v hv := by rw [longX_len] at hv; exact hv
  first_lt i hi := by rw [longX_len]; exact hi
  ring_first i _ := rfl
  first_le v _ := Nat.le_refl _
  mono i j h _ := h
  down v _ := ⟨.refl _, .refl _⟩
  edge v hv u hu := by
    rw [longX_len] at hv
    rcases (longX_adj hv u).1 hu with ⟨_, e⟩ | ⟨_, e, _⟩
    · exact .inr e
    · cases e
  next i hi := ⟨i, by rw [longX_len]; omega, rfl, i + 1, (longX_adj (by omega) _).2 (.inl ⟨hi, rfl⟩), rfl⟩
theorem long_ring {n : Nat} (h2 : 2 ≤ n) (hn : n ≤ 1024) : Chain (longX n true) 1 (fun _ => 0) (fun _ => 0) where
  ok := longX_ok true h2 hn
  ring_lt v _ := Nat.zero_lt_one
  first_lt i hi := by rw [longX_len]; omega
  ring_first i hi := by omega
  first_le v _ := Nat.zero_le _
  mono i j h1 h2 := by omega
  down v hv := by
    rw [longX_len] at hv
    refine ⟨longX_reach (Nat.zero_le _) hv, (longX_reach (v := n - 1) (by omega) (by omega)).trans (Tarjan.Reach.edge ?_)⟩
    exact (longX_adj (by omega) 0).2 (.inr ⟨by omega, rfl, rfl⟩)
  edge v _ u _ := .inl rfl
  next i hi := by omega

theorem range_one (n i : Nat) (hi : i < n) : ((List.range n).filter fun v => v == i) = [i] := by
  induction n with
  | zero => omega
  | succ n ih =>
    rw [List.range_succ, List.filter_append]
    by_cases e : i = n
    · subst e
      have : (List.range i).filter (fun v => v == i) = [] := List.filter_eq_nil_iff.2 fun a ha => by have := List.mem_range.1 ha; simp; omega
      simp [this]
    · rw [ih (by omega)]
      have : (n == i) = false := by simp; omega
      simp [this]
/-- A row: each number alone, the last first; nothing goes round. -/
theorem long_row_says {n : Nat} (h2 : 2 ≤ n) (hn : n ≤ 1024) : (compRows (longX n false)).length = n ∧ (∀ t (ht : t < (compRows (longX n false)).length), (compRows (longX n false))[t] = [((n - 1 - t : Nat) : Int)]) ∧ roundRows (longX n false) = [] := by
  have h := long_row h2 hn
  refine ⟨h.comp_len, fun t ht => ?_, ?_⟩
  · obtain ⟨ht', e⟩ := h.comp_at ht
    rw [e, longX_len]
    show ((List.range n).filter fun v => v == n - 1 - t).map _ = _
    rw [range_one n _ (by omega)]
    rfl
  · apply List.eq_nil_of_length_eq_zero
    rw [h.round_len, List.length_eq_zero_iff, List.filter_eq_nil_iff]
    intro r hr
    have hr' := List.mem_range.1 hr
    show ¬ goes (longX n false) (fun v => v) r = true
    unfold goes
    have e1 : mem (longX n false).length (fun v => v) r = [r] := by rw [longX_len]; exact range_one n r hr'
    rw [e1, Bool.or_eq_true, decide_eq_true_eq, contains_adj (longX_ok false h2 hn) (by rw [longX_len]; exact hr'), longX_adj hr']
    simp
/-- A ring: one component, and it goes round. -/
theorem long_ring_says {n : Nat} (h2 : 2 ≤ n) (hn : n ≤ 1024) : (compRows (longX n true)).length = 1 ∧ (∀ t (ht : t < (compRows (longX n true)).length), (compRows (longX n true))[t].length = n) ∧
    (roundRows (longX n true)).length = 1 ∧ ∀ t (ht : t < (roundRows (longX n true)).length), (roundRows (longX n true))[t].length = n := by
  have h := long_ring h2 hn
  have hall : ((List.range n).filter fun _ => (0 : Nat) == 0) = List.range n := List.filter_eq_self.2 fun _ _ => rfl
  have hmem : ∀ r, mem (longX n true).length (fun v => (fun _ => 0) ((fun _ => 0) v)) ((fun _ => 0 : Nat → Nat) r) = List.range n := fun r => by
    rw [longX_len]
    exact hall
  refine ⟨h.comp_len, fun t ht => ?_, ?_, fun t ht => ?_⟩
  · obtain ⟨ht', e⟩ := h.comp_at ht
    obtain rfl : t = 0 := by omega
    rw [e, longX_len, List.length_map]
    show ((List.range n).filter fun _ => (0 : Nat) == 0).length = n
    rw [hall, List.length_range]
  · rw [h.round_len]
    have : ((List.range 1).filter fun r => goes (longX n true) (fun v => (fun _ => 0) ((fun _ => 0) v)) ((fun _ => 0 : Nat → Nat) r)) = List.range 1 := List.filter_eq_self.2 fun r _ => by
      unfold goes
      rw [hmem r, List.length_range]
      simp
      omega
    rw [this]
    rfl
  · have e1 := roundRows_ok h.ok
    rw [round_rows] at e1
    have ht' : t < (roundL (longX n true)).length := by rw [e1] at ht; simpa using ht
    have hx : (roundL (longX n true))[t] ∈ roundL (longX n true) := List.getElem_mem ht'
    obtain ⟨a1, a2, _⟩ := roundL_iff.1 hx
    have e2 : (roundRows (longX n true))[t] = (mem (longX n true).length (partsRep (longX n true)) (roundL (longX n true))[t]).map fun (v : Nat) => (v : Int) := by simp [e1]
    rw [e2, List.length_map]
    have e3 := mem_congr (partsRep_isRep (longX n true)) h.isRep (roundL (longX n true))[t]
    have e4 := h.isRep.uniq (partsRep_isRep (longX n true)) a1
    rw [a2] at e4
    rw [e3, ← e4]
    show (mem (longX n true).length (fun v => (fun _ => 0) ((fun _ => 0) v)) ((fun _ => 0 : Nat → Nat) 0)).length = n
    rw [hmem 0, List.length_range]
end Go.Proofs.YtahkpkaodeeemaaGreat
