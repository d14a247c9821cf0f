/- Rings of given sizes, one needing the next. Plain facts. -/
import Derived.Test.YtdidkpgdjehodaaLongPlain
namespace Go.Proofs.Ytdidkpgdjehodaa
set_option linter.unusedVariables false

/-- The first number of the r-th ring. -/
def fOf (s : Nat → Nat) : Nat → Nat
  | 0 => 0
  | r + 1 => fOf s r + s r
/-- Which ring, which place, number by number: the first i rings, and p numbers of the next. -/
def ownTo (s : Nat → Nat) : Nat → List (Nat × Nat)
  | 0 => []
  | r + 1 => ownTo s r ++ (List.range (s r)).map fun p => (r, p)
def own (s : Nat → Nat) (i p : Nat) : List (Nat × Nat) := ownTo s i ++ (List.range p).map fun q => (i, q)
def cellOf (s : Nat → Nat) (x : Nat × Nat) : List Int := if 1 < s x.1 then [((fOf s x.1 + (x.2 + 1) % s x.1 : Nat) : Int)] else []
/-- What the number x needs, when the first j rings are bound to the next. -/
def linkOf (s : Nat → Nat) (j : Nat) (x : Nat × Nat) : List Int := cellOf s x ++ if x.2 = 0 ∧ x.1 < j then [((fOf s (x.1 + 1) : Nat) : Int)] else []
def rowX (s : Nat → Nat) (k j : Nat) : List (List Int) := (ownTo s k).map (linkOf s j)

section
variable {s : Nat → Nat} {k : Nat}
theorem own_zero (i : Nat) : own s i 0 = ownTo s i := by simp [own]
theorem own_full (i : Nat) : own s i (s i) = ownTo s (i + 1) := rfl
theorem own_succ (i p : Nat) : own s i (p + 1) = own s i p ++ [(i, p)] := by simp [own, List.range_succ]
theorem ownTo_len (i : Nat) : (ownTo s i).length = fOf s i := by
  induction i with
  | zero => rfl
  | succ i ih => simp [ownTo, fOf, ih]
theorem own_len (i p : Nat) : (own s i p).length = fOf s i + p := by simp [own, ownTo_len]
theorem fOf_le {i j : Nat} (h : i ≤ j) : fOf s i ≤ fOf s j := by
  induction h with
  | refl => exact Nat.le_refl _
  | step _ ih => exact Nat.le_trans ih (by simp [fOf])
theorem fOf_lt (hs : ∀ r, r < k → 1 ≤ s r) {i j : Nat} (h : i < j) (hj : j ≤ k) : fOf s i < fOf s j := by
  have h1 := hs i (by omega)
  have h2 := fOf_le (s := s) (show i + 1 ≤ j from h)
  simp only [fOf] at h2
  omega
theorem fOf_bound (hs : ∀ r, r < k → s r ≤ 9) : fOf s k ≤ 9 * k := by
  induction k with
  | zero => simp [fOf]
  | succ k ih =>
    have h1 := ih fun r hr => hs r (by omega)
    have h2 := hs k (by omega)
    simp only [fOf]
    omega
theorem own_at : ∀ {i : Nat} {r p : Nat}, r < i → p < s r → (ownTo s i)[fOf s r + p]? = some (r, p)
  | 0, _, _, h, _ => by omega
  | i + 1, r, p, h, hp => by
    unfold ownTo
    by_cases e : r = i
    · subst e
      rw [List.getElem?_append_right (by rw [ownTo_len]; omega), ownTo_len]
      have : fOf s r + p - fOf s r = p := by omega
      rw [this]
      simp [hp]
    · have h1 : fOf s r + p < fOf s i := by
        have h2 := fOf_le (s := s) (show r + 1 ≤ i by omega)
        simp only [fOf] at h2
        omega
      rw [List.getElem?_append_left (by rw [ownTo_len]; exact h1)]
      exact own_at (by omega) hp
theorem own_of : ∀ {i v : Nat}, v < fOf s i → ∃ r p, r < i ∧ p < s r ∧ v = fOf s r + p
  | 0, v, h => by simp [fOf] at h
  | i + 1, v, h => by
    by_cases h1 : v < fOf s i
    · obtain ⟨r, p, h2, h3, h4⟩ := own_of h1
      exact ⟨r, p, by omega, h3, h4⟩
    · simp only [fOf] at h
      exact ⟨i, v - fOf s i, by omega, by omega, by omega⟩
def ringOf (s : Nat → Nat) (k : Nat) (v : Nat) : Nat := ((ownTo s k).getD v (0, 0)).1
theorem ringOf_at {r p : Nat} (hr : r < k) (hp : p < s r) : ringOf s k (fOf s r + p) = r := by
  unfold ringOf
  rw [List.getD, own_at hr hp]
  rfl
theorem rowX_len (j : Nat) : (rowX s k j).length = fOf s k := by simp [rowX, ownTo_len]
theorem rowX_at {j r p : Nat} (hr : r < k) (hp : p < s r) : (rowX s k j)[fOf s r + p]? = some (linkOf s j (r, p)) := by
  unfold rowX
  rw [List.getElem?_map, own_at hr hp]
  rfl
theorem pos_lt {r p : Nat} (hr : r < k) (hp : p < s r) : fOf s r + p < fOf s k := by
  have h2 := fOf_le (s := s) (show r + 1 ≤ k from hr)
  simp only [fOf] at h2
  omega
theorem rowX_zero : rowX s k 0 = (ownTo s k).map (cellOf s) := by
  unfold rowX
  apply List.map_congr_left
  intro x _
  simp [linkOf]
theorem rowX_set (hs : ∀ r, r < k → 1 ≤ s r) {j : Nat} (hj : j < k) : (rowX s k j).set (fOf s j) (linkOf s j (j, 0) ++ [((fOf s (j + 1) : Nat) : Int)]) = rowX s k (j + 1) := by
  apply List.ext_getElem?
  intro v
  rw [List.getElem?_set]
  by_cases hv : v < fOf s k
  · obtain ⟨r, p, hr, hp, rfl⟩ := own_of hv
    rw [rowX_at hr hp, rowX_at hr hp, rowX_len]
    have hjp := hs j hj
    by_cases e : fOf s j = fOf s r + p
    · have e1 := ringOf_at hj (show 0 < s j by omega)
      have e2 := ringOf_at (k := k) hr hp
      rw [Nat.add_zero, e, e2] at e1
      subst e1
      obtain rfl : p = 0 := by omega
      rw [if_pos e, if_pos (show fOf s r < fOf s k by omega)]
      simp [linkOf]
    · rw [if_neg e]
      have : ¬ (p = 0 ∧ r = j) := by
        rintro ⟨rfl, rfl⟩
        exact e rfl
      congr 1
      unfold linkOf
      have e3 : (p = 0 ∧ r < j + 1) ↔ (p = 0 ∧ r < j) := by omega
      simp only [e3]
  · have h1 : (rowX s k j)[v]? = none := List.getElem?_eq_none (by rw [rowX_len]; omega)
    have h2 : (rowX s k (j + 1))[v]? = none := List.getElem?_eq_none (by rw [rowX_len]; omega)
    rw [h1, h2]
    have : fOf s j ≠ v := by
      have := pos_lt (s := s) hj (show 0 < s j by have := hs j hj; omega)
      omega
    rw [if_neg this]

theorem row_adj (hs : ∀ r, r < k → 1 ≤ s r ∧ s r ≤ 9) {r p u : Nat} (hr : r < k) (hp : p < s r) : u ∈ adjOf (rowX s k (k - 1)) (fOf s r + p) ↔ (1 < s r ∧ u = fOf s r + (p + 1) % s r) ∨ (p = 0 ∧ r + 1 < k ∧ u = fOf s (r + 1)) := by
  have hv := pos_lt (s := s) hr hp
  have h1 := rowX_at (s := s) (k := k) (j := k - 1) hr hp
  unfold adjOf
  rw [List.getD, h1, Option.getD_some]
  unfold linkOf cellOf
  simp only
  generalize fOf s r + (p + 1) % s r = m
  generalize fOf s (r + 1) = f1
  by_cases h2 : 1 < s r
  · by_cases h3 : p = 0 ∧ r < k - 1
    · obtain ⟨rfl, h4⟩ := h3
      have h5 : r + 1 < k := by omega
      simp [h2, h4, h5]
    · have h5 : ¬ (p = 0 ∧ r + 1 < k ∧ u = f1) := by omega
      rw [if_neg h3]
      simp [h2, h5]
  · by_cases h3 : p = 0 ∧ r < k - 1
    · obtain ⟨rfl, h4⟩ := h3
      have h5 : r + 1 < k := by omega
      simp [h2, h4, h5]
    · have h5 : ¬ (p = 0 ∧ r + 1 < k ∧ u = f1) := by omega
      rw [if_neg h3]
      simp [h2, h5]
theorem row_ok (hs : ∀ r, r < k → 1 ≤ s r ∧ s r ≤ 9) (hk : k ≤ 12) : refused (rowX s k (k - 1)) = 0 := by
  have hb := fOf_bound (s := s) (k := k) fun r hr => (hs r hr).2
  refine refused_none (by rw [rowX_len]; omega) (fun v hv => ?_) (fun v hv i hi => ?_)
  · rw [rowX_len] at hv
    obtain ⟨r, p, hr, hp, rfl⟩ := own_of hv
    have h1 := rowX_at (s := s) (k := k) (j := k - 1) hr hp
    obtain ⟨_, e⟩ := List.getElem?_eq_some_iff.1 h1
    rw [e]
    unfold linkOf cellOf
    split <;> split <;> simp
  · rw [rowX_len] at hv ⊢
    obtain ⟨r, p, hr, hp, rfl⟩ := own_of hv
    have hm := List.getElem_mem hi
    generalize (rowX s k (k - 1))[fOf s r + p][i] = x at hm
    have h1 := rowX_at (s := s) (k := k) (j := k - 1) hr hp
    obtain ⟨_, e⟩ := List.getElem?_eq_some_iff.1 h1
    rw [e] at hm
    unfold linkOf cellOf at hm
    simp only [List.mem_append] at hm
    rcases hm with hm | hm
    · split at hm
      · simp only [List.mem_singleton] at hm
        have h2 : (p + 1) % s r < s r := Nat.mod_lt _ (by omega)
        have h3 := pos_lt (s := s) hr h2
        omega
      · simp at hm
    · split at hm
      · rename_i h4
        simp only [List.mem_singleton] at hm
        have h5 : r + 1 < k := by omega
        have h3 := pos_lt (s := s) h5 (show 0 < s (r + 1) by have := (hs (r + 1) h5).1; omega)
        omega
      · simp at hm
theorem row_up (hs : ∀ r, r < k → 1 ≤ s r ∧ s r ≤ 9) {r p : Nat} (hr : r < k) : ∀ {d : Nat}, p + d < s r → Tarjan.Reach (adjOf (rowX s k (k - 1))) (fOf s r + p) (fOf s r + (p + d)) := by
  intro d
  induction d with
  | zero => intro _; exact .refl _
  | succ d ih =>
    intro h
    refine (ih (by omega)).trans (Tarjan.Reach.edge ?_)
    refine (row_adj hs hr (by omega)).2 (.inl ⟨by omega, ?_⟩)
    rw [Nat.mod_eq_of_lt (by omega)]
    omega
theorem row_chain (hs : ∀ r, r < k → 1 ≤ s r ∧ s r ≤ 9) (hk : k ≤ 12) : Chain (rowX s k (k - 1)) k (ringOf s k) (fOf s) where
  ok := row_ok hs hk
  ring_lt v hv := by
    rw [rowX_len] at hv
    obtain ⟨r, p, hr, hp, rfl⟩ := own_of hv
    rw [ringOf_at hr hp]
    exact hr
  first_lt i hi := by
    rw [rowX_len]
    exact pos_lt hi (p := 0) (by have := (hs i hi).1; omega)
  ring_first i hi := ringOf_at hi (p := 0) (by have := (hs i hi).1; omega)
  first_le v hv := by
    rw [rowX_len] at hv
    obtain ⟨r, p, hr, hp, rfl⟩ := own_of hv
    rw [ringOf_at hr hp]
    omega
  mono i j h1 h2 := fOf_lt (k := k) (fun r hr => (hs r hr).1) h1 (by omega)
  down v hv := by
    rw [rowX_len] at hv
    obtain ⟨r, p, hr, hp, rfl⟩ := own_of hv
    rw [ringOf_at hr hp]
    have h1 := row_up hs hr (p := 0) (d := p) (by omega)
    rw [Nat.add_zero, Nat.zero_add] at h1
    refine ⟨h1, ?_⟩
    by_cases h2 : 1 < s r
    · have h3 := row_up hs hr (p := p) (d := s r - 1 - p) (by omega)
      refine h3.trans (Tarjan.Reach.edge ?_)
      refine (row_adj hs hr (by omega)).2 (.inl ⟨h2, ?_⟩)
      have : p + (s r - 1 - p) + 1 = s r := by omega
      rw [this, Nat.mod_self, Nat.add_zero]
    · obtain rfl : p = 0 := by omega
      exact .refl _
  edge v hv u hu := by
    rw [rowX_len] at hv
    obtain ⟨r, p, hr, hp, rfl⟩ := own_of hv
    rw [ringOf_at hr hp]
    rcases (row_adj hs hr hp).1 hu with ⟨h1, rfl⟩ | ⟨_, h1, rfl⟩
    · left
      exact ringOf_at hr (Nat.mod_lt _ (by omega))
    · right
      exact ringOf_at h1 (p := 0) (by have := (hs (r + 1) h1).1; omega)
  next i hi := by
    have h1 := (hs i (by omega)).1
    have h2 := (hs (i + 1) hi).1
    refine ⟨fOf s i, by rw [rowX_len]; exact pos_lt (p := 0) (by omega) (by omega), ringOf_at (p := 0) (by omega) (by omega), fOf s (i + 1), ?_, ringOf_at (p := 0) hi (by omega)⟩
    exact (row_adj hs (p := 0) (by omega) (by omega)).2 (.inr ⟨rfl, hi, rfl⟩)
theorem ring_rows {r : Nat} (hr : r < k) : ((List.range (fOf s k)).filter fun v => ringOf s k v == r).Perm ((List.range (s r)).map fun p => fOf s r + p) := by
  have n2 : ((List.range (s r)).map fun p => fOf s r + p).Nodup := by
    unfold List.Nodup
    rw [List.pairwise_map]
    exact List.nodup_range.imp fun h => by omega
  refine (List.perm_ext_iff_of_nodup (List.nodup_range.sublist List.filter_sublist) n2).2 fun v => ?_
  rw [List.mem_filter, List.mem_range, beq_iff_eq, List.mem_map]
  constructor
  · rintro ⟨h1, h2⟩
    obtain ⟨r', p, hr', hp, rfl⟩ := own_of h1
    rw [ringOf_at hr' hp] at h2
    subst h2
    exact ⟨p, List.mem_range.2 hp, rfl⟩
  · rintro ⟨p, hp, rfl⟩
    have hp' := List.mem_range.1 hp
    exact ⟨pos_lt hr hp', ringOf_at hr hp'⟩
/-- What Components and Round answer. -/
theorem row_says (hs : ∀ r, r < k → 1 ≤ s r ∧ s r ≤ 9) (hk : k ≤ 12) : (compRows (rowX s k (k - 1))).length = k ∧
    (∀ t (ht : t < (compRows (rowX s k (k - 1))).length), (compRows (rowX s k (k - 1)))[t].length = s (k - 1 - t) ∧ ∃ l, (compRows (rowX s k (k - 1)))[t] = ((fOf s (k - 1 - t) : Nat) : Int) :: l) ∧
    (roundRows (rowX s k (k - 1))).length = ((List.range k).filter fun r => decide (1 < s r)).length := by
  have h := row_chain hs hk
  refine ⟨h.comp_len, fun t ht => ?_, ?_⟩
  · obtain ⟨ht', e⟩ := h.comp_at ht
    have hr : k - 1 - t < k := by omega
    rw [rowX_len] at e
    refine ⟨?_, ?_⟩
    · rw [e, List.length_map, (ring_rows hr).length_eq]
      simp
    · obtain ⟨l, hl⟩ := mem_head h.isRep (h.first_lt _ hr) (by show fOf s (ringOf s k (fOf s (k - 1 - t))) = _; rw [h.ring_first _ hr])
      unfold mem at hl
      rw [h.ring_mem hr, rowX_len] at hl
      rw [e, hl]
      exact ⟨_, rfl⟩
  · rw [h.round_len]
    congr 1
    apply List.filter_congr
    intro r hr
    have hr' := List.mem_range.1 hr
    have h1 := (hs r hr').1
    unfold goes
    have e1 : (mem (rowX s k (k - 1)).length (fun v => fOf s (ringOf s k v)) (fOf s r)).length = s r := by
      unfold mem
      rw [h.ring_mem hr', rowX_len, (ring_rows hr').length_eq]
      simp
    rw [e1]
    have e2 : ((rowX s k (k - 1)).getD (fOf s r) []).contains ((fOf s r : Nat) : Int) = true → 1 < s r := by
      intro hc
      rw [contains_adj h.ok (h.first_lt r hr')] at hc
      rcases (row_adj hs (p := 0) hr' (by omega)).1 hc with ⟨h2, _⟩ | ⟨_, h2, h3⟩
      · exact h2
      · have := fOf_lt (s := s) (k := k) (fun r hr => (hs r hr).1) (show r < r + 1 by omega) (by omega)
        omega
    cases hc : ((rowX s k (k - 1)).getD (fOf s r) []).contains ((fOf s r : Nat) : Int)
    · simp
    · have := e2 hc
      simp [this]
end
end Go.Proofs.Ytdidkpgdjehodaa
