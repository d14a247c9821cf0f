/- Chain, Both, LongPlain, laid together. -/
import Derived.Test.YtahkpkaodeeemaaGreatJ31
namespace Go.Proofs.YtahkpkaodeeemaaGreat
set_option linter.unusedVariables false

/-- k components, one needing the next: of each number the component, of each component the least number. -/
structure Chain (xss : List (List Int)) (k : Nat) (ring first : Nat → Nat) : Prop where
  ok : refused xss = 0
  ring_lt : ∀ v, v < xss.length → ring v < k
  first_lt : ∀ i, i < k → first i < xss.length
  ring_first : ∀ i, i < k → ring (first i) = i
  first_le : ∀ v, v < xss.length → first (ring v) ≤ v
  mono : ∀ i j, i < j → j < k → first i < first j
  down : ∀ v, v < xss.length → Mut xss (first (ring v)) v
  edge : ∀ v, v < xss.length → ∀ u, u ∈ adjOf xss v → ring u = ring v ∨ ring u = ring v + 1
  next : ∀ i, i + 1 < k → ∃ v, v < xss.length ∧ ring v = i ∧ ∃ u, u ∈ adjOf xss v ∧ ring u = i + 1

section
variable {xss : List (List Int)} {k : Nat} {ring first : Nat → Nat}

theorem Chain.reach (h : Chain xss k ring first) {u v : Nat} (hr : Tarjan.Reach (adjOf xss) u v) : u < xss.length → ring u ≤ ring v := by
  induction hr with
  | refl => intro _; exact Nat.le_refl _
  | step e _ ih =>
    intro hu
    have := ih (adj_lt h.ok hu e)
    rcases h.edge _ hu _ e with h1 | h1 <;> omega
theorem Chain.mut (h : Chain xss k ring first) {u v : Nat} (hu : u < xss.length) (hv : v < xss.length) (hm : Mut xss u v) : ring u = ring v := by
  have h1 := h.reach hm.1 hu
  have h2 := h.reach hm.2 hv
  omega
theorem Chain.isRep (h : Chain xss k ring first) : IsRep xss (fun v => first (ring v)) := fun v hv =>
  ⟨h.first_lt _ (h.ring_lt v hv), h.down v hv, fun u hu hm => by
    show first (ring v) ≤ u
    rw [← h.mut hu hv hm]
    exact h.first_le u hu⟩
theorem Chain.inj (h : Chain xss k ring first) {i j : Nat} (hi : i < k) (hj : j < k) (e : first i = first j) : i = j := by
  have h1 := h.ring_first i hi
  have h2 := h.ring_first j hj
  rw [e] at h1
  omega
def chainT (k : Nat) (first : Nat → Nat) (j : Nat) : List Nat := (List.range j).map fun t => first (k - 1 - t)
theorem chainT_mem (h : Chain xss k ring first) {j r : Nat} (hj : j ≤ k) (hr : r < k) : first r ∈ chainT k first j ↔ k - j ≤ r := by
  unfold chainT
  rw [List.mem_map]
  constructor
  · rintro ⟨t, ht, e⟩
    rw [List.mem_range] at ht
    have := h.inj (by omega) hr e
    omega
  · intro hle
    exact ⟨k - 1 - r, by rw [List.mem_range]; omega, by congr 1; omega⟩
theorem Chain.pre (h : Chain xss k ring first) : ∀ j, j ≤ k → Pre xss (fun v => first (ring v)) (chainT k first j)
  | 0, _ => .nil
  | j + 1, hj => by
    have e : chainT k first (j + 1) = chainT k first j ++ [first (k - 1 - j)] := by
      unfold chainT
      rw [List.range_succ, List.map_append]
      rfl
    rw [e]
    have hk : k - 1 - j < k := by omega
    refine .snoc (h.pre j (by omega)) (h.first_lt _ hk) ?_ ?_ ?_ ?_
    · show first (ring (first (k - 1 - j))) = _
      rw [h.ring_first _ hk]
    · rw [chainT_mem h (by omega) hk]
      omega
    · intro v hv hrv u hu
      have hrv' : ring v = k - 1 - j := h.inj (h.ring_lt v hv) hk hrv
      have hul := adj_lt h.ok hv hu
      rcases h.edge v hv u hu with h1 | h1
      · left
        show first (ring u) = _
        rw [h1, hrv']
      · right
        show first (ring u) ∈ _
        rw [chainT_mem h (by omega) (h.ring_lt u hul)]
        omega
    · intro x hx hxx hxT hready
      have hxx' : first (ring x) = x := hxx
      have hxl : x < xss.length := by have := h.first_lt _ hk; omega
      have hrk := h.ring_lt x hxl
      rw [← hxx', chainT_mem h (by omega) hrk] at hxT
      have hne : ring x ≠ k - 1 - j := by
        intro e
        rw [e] at hxx'
        omega
      obtain ⟨v, hv, hrv, u, hu, hru⟩ := h.next (ring x) (by omega)
      rcases hready v hv (by show first (ring v) = x; rw [hrv]; exact hxx') u hu with h1 | h1
      · have h1' : first (ring u) = first (ring x) := by rw [hxx']; exact h1
        have := h.inj (h.ring_lt u (adj_lt h.ok hv hu)) hrk h1'
        omega
      · have h1' : first (ring u) ∈ chainT k first j := h1
        rw [chainT_mem h (by omega) (h.ring_lt u (adj_lt h.ok hv hu))] at h1'
        omega
theorem Chain.told (h : Chain xss k ring first) : Told xss (fun v => first (ring v)) (chainT k first k) :=
  ⟨h.pre k (Nat.le_refl _), fun i hi e => by
    have e' : first (ring i) = i := e
    rw [← e', chainT_mem h (Nat.le_refl _) (h.ring_lt i hi)]
    omega⟩
theorem chainT_len (k : Nat) (first : Nat → Nat) (j : Nat) : (chainT k first j).length = j := by simp [chainT]
theorem chainT_at {k : Nat} {first : Nat → Nat} {j t : Nat} (ht : t < j) : (chainT k first j)[t]? = some (first (k - 1 - t)) := by simp [chainT, ht]
/-- What Components tells of a chain, whatever the representatives. -/
theorem Chain.rows (h : Chain xss k ring first) {rep : Nat → Nat} {T : List Nat} (hr : IsRep xss rep) (hT : Told xss rep T) :
    T = chainT k first k ∧ ∀ i, mem xss.length rep i = (List.range xss.length).filter fun v => first (ring v) == i :=
  ⟨hT.uniq h.ok hr h.isRep h.told, fun i => mem_congr hr h.isRep i⟩
theorem Chain.ring_mem (h : Chain xss k ring first) {r : Nat} (hr : r < k) : ((List.range xss.length).filter fun v => first (ring v) == first r) = (List.range xss.length).filter fun v => ring v == r := by
  apply List.filter_congr
  intro v hv
  rw [Bool.eq_iff_iff, beq_iff_eq, beq_iff_eq]
  constructor
  · intro e; exact h.inj (h.ring_lt v (List.mem_range.1 hv)) hr e
  · intro e; rw [e]
end

/-! Needs that are doubled, one of them needing itself. -/
def twice (xss : List (List Int)) (k : Nat) : List (List Int) := (List.range xss.length).map fun i => xss.getD i [] ++ xss.getD i [] ++ if i = k then [(k : Int)] else []
section
variable {xss : List (List Int)} {k : Nat}
theorem twice_len : (twice xss k).length = xss.length := by simp [twice]
theorem twice_at {i : Nat} (hi : i < (twice xss k).length) : (twice xss k)[i] = (xss[i]'(by rw [twice_len] at hi; exact hi)) ++ (xss[i]'(by rw [twice_len] at hi; exact hi)) ++ if i = k then [(k : Int)] else [] := by
  have hi' : i < xss.length := by rw [twice_len] at hi; exact hi
  simp [twice, List.getD, hi']
theorem twice_adj {i u : Nat} (hi : i < xss.length) : u ∈ adjOf (twice xss k) i ↔ u ∈ adjOf xss i ∨ (i = k ∧ u = k) := by
  rw [adjOf_at (by rw [twice_len]; exact hi), adjOf_at hi, twice_at, List.map_append, List.map_append]
  by_cases e : i = k
  · simp [e]
  · simp [e]
theorem twice_refused (hx : refused xss = 0) (hk : k < xss.length) (h500 : ∀ i (hi : i < xss.length), xss[i].length ≤ 500) : refused (twice xss k) = 0 := by
  obtain ⟨h1, _, h3⟩ := refused_zero hx
  refine refused_none (by rw [twice_len]; exact h1) (fun j hj => ?_) (fun j hj i hi => ?_)
  · have hj' : j < xss.length := by rw [twice_len] at hj; exact hj
    rw [twice_at]
    have := h500 j hj'
    by_cases e : j = k <;> simp [e] at * <;> omega
  · have hj' : j < xss.length := by rw [twice_len] at hj; exact hj
    have hm : (twice xss k)[j][i] ∈ (twice xss k)[j] := List.getElem_mem hi
    generalize (twice xss k)[j][i] = x at hm
    rw [twice_at, List.mem_append, List.mem_append, or_self] at hm
    rw [twice_len]
    rcases hm with hm | hm
    · obtain ⟨p, hp, rfl⟩ := List.mem_iff_getElem.1 hm
      exact h3 j hj' p hp
    · by_cases e : j = k
      · rw [if_pos e] at hm
        simp at hm
        omega
      · rw [if_neg e] at hm
        simp at hm
theorem twice_reach (hx : refused xss = 0) {u v : Nat} (hu : u < xss.length) : Tarjan.Reach (adjOf (twice xss k)) u v ↔ Tarjan.Reach (adjOf xss) u v := by
  constructor
  · intro h
    induction h with
    | refl => exact .refl _
    | step e _ ih =>
      rcases (twice_adj hu).1 e with h1 | ⟨h1, h2⟩
      · exact .step h1 (ih (adj_lt hx hu h1))
      · subst h1
        subst h2
        exact ih hu
  · intro h
    induction h with
    | refl => exact .refl _
    | step e _ ih => exact .step ((twice_adj hu).2 (.inl e)) (ih (adj_lt hx hu e))
theorem twice_mut (hx : refused xss = 0) {u v : Nat} (hu : u < xss.length) (hv : v < xss.length) : Mut (twice xss k) u v ↔ Mut xss u v := by
  unfold Mut
  rw [twice_reach hx hu, twice_reach hx hv]
theorem twice_rep (hx : refused xss = 0) {rep : Nat → Nat} (hr : IsRep xss rep) : IsRep (twice xss k) rep := by
  intro v hv
  rw [twice_len] at hv ⊢
  obtain ⟨h1, h2, h3⟩ := hr v hv
  exact ⟨h1, (twice_mut hx h1 hv).2 h2, fun u hu hm => h3 u hu ((twice_mut hx hu hv).1 hm)⟩
theorem twice_ready (hx : refused xss = 0) {rep : Nat → Nat} {T : List Nat} {i : Nat} : ReadyR (twice xss k) rep T i ↔ ReadyR xss rep T i := by
  constructor
  · intro h v hv hrv u hu
    exact h v (by rw [twice_len]; exact hv) hrv u ((twice_adj hv).2 (.inl hu))
  · intro h v hv hrv u hu
    rw [twice_len] at hv
    rcases (twice_adj hv).1 hu with h1 | ⟨h1, h2⟩
    · exact h v hv hrv u h1
    · left
      rw [h2, ← h1]
      exact hrv
theorem twice_pre (hx : refused xss = 0) {rep : Nat → Nat} {T : List Nat} (h : Pre xss rep T) : Pre (twice xss k) rep T := by
  induction h with
  | nil => exact .nil
  | snoc _ h1 h2 h3 h4 h5 ih =>
    refine .snoc ih (by rw [twice_len]; exact h1) h2 h3 ((twice_ready hx).2 h4) fun j hj e hT hr => h5 j hj e hT ((twice_ready hx).1 hr)
theorem twice_told (hx : refused xss = 0) {rep : Nat → Nat} {T : List Nat} (h : Told xss rep T) : Told (twice xss k) rep T :=
  ⟨twice_pre hx h.1, fun i hi e => h.2 i (by rw [twice_len] at hi; exact hi) e⟩
/-- Doubled needs have the same rows. -/
theorem twice_rows (hx : refused xss = 0) (hx2 : refused (twice xss k) = 0) {rep rep' : Nat → Nat} {T T' : List Nat} (hr : IsRep xss rep) (hT : Told xss rep T) (hr' : IsRep (twice xss k) rep') (hT' : Told (twice xss k) rep' T') :
    (T'.map fun i => (mem (twice xss k).length rep' i).map fun (v : Nat) => (v : Int)) = T.map fun i => (mem xss.length rep i).map fun (v : Nat) => (v : Int) := by
  have e := Told.uniq hx2 hr' (twice_rep hx hr) hT' (twice_told hx hT)
  subst e
  apply List.map_congr_left
  intro i _
  rw [mem_congr hr' (twice_rep hx hr) i, twice_len]
/-- What needs itself goes round. -/
theorem twice_round (hx2 : refused (twice xss k) = 0) (hk : k < xss.length) : ∃ r, r ∈ roundL (twice xss k) ∧ k ∈ mem (twice xss k).length (partsRep (twice xss k)) r := by
  have hk2 : k < (twice xss k).length := by rw [twice_len]; exact hk
  have hp := partsRep_isRep (twice xss k)
  obtain ⟨h1, h2, _⟩ := hp k hk2
  refine ⟨partsRep (twice xss k) k, roundL_iff.2 ⟨h1, hp.idem hk2, ?_⟩, mem_iff.2 ⟨hk2, rfl⟩⟩
  have hself : k ∈ adjOf (twice xss k) k := (twice_adj hk).2 (.inr ⟨rfl, rfl⟩)
  obtain ⟨h3, h4⟩ := h2
  generalize partsRep (twice xss k) k = r at h3 h4
  cases h3 with
  | refl => exact ⟨_, hself, .refl _⟩
  | step e h5 => exact ⟨_, e, h5.trans h4⟩
end
end Go.Proofs.YtahkpkaodeeemaaGreat

namespace Go.Proofs.YtahkpkaodeeemaaGreat
open Go.RowKit
set_option linter.unusedVariables false

section
variable {xss : List (List Int)} {rep rep' : Nat → Nat} {T : List Nat}
theorem Pre.turn (hx : refused xss = 0) (hr : IsRep xss rep) (hr' : IsRep xss rep') (h : Pre xss rep T) : Pre xss rep' T := by
  have ready : ∀ {T : List Nat} {i : Nat}, ReadyR xss rep T i ↔ ReadyR xss rep' T i := by
    intro T i
    constructor
    · intro h v hv e u hu
      rw [← hr.uniq hr' (adj_lt hx hv hu)]
      exact h v hv ((hr.uniq hr' hv).trans e) u hu
    · intro h v hv e u hu
      rw [hr.uniq hr' (adj_lt hx hv hu)]
      exact h v hv ((hr.uniq hr' hv).symm.trans e) u hu
  induction h with
  | nil => exact .nil
  | snoc _ h1 h2 h3 h4 h5 ih =>
    refine .snoc ih h1 ((hr.uniq hr' h1).symm.trans h2) h3 (ready.1 h4) fun j hj e hT hd => h5 j hj ((hr.uniq hr' (by omega)).trans e) hT (ready.2 hd)
theorem Told.turn (hx : refused xss = 0) (hr : IsRep xss rep) (hr' : IsRep xss rep') (h : Told xss rep T) : Told xss rep' T :=
  ⟨h.1.turn hx hr hr', fun i hi e => h.2 i hi ((hr.uniq hr' hi).trans e)⟩
end

open Classical in
/-- The least numbers of the components, in the order in which they are told. -/
noncomputable def toldT (xss : List (List Int)) : List Nat := if h : ∃ T, Told xss (partsRep xss) T then h.choose else []
/-- What Components answers; what Round answers. -/
noncomputable def compRows (xss : List (List Int)) : List (List Int) := if refused xss = 0 then (toldT xss).map (repX xss) else []
noncomputable def roundRows (xss : List (List Int)) : List (List Int) := if refused xss = 0 then roundTo xss xss.length else []

theorem toldT_of {xss : List (List Int)} {T : List Nat} (hx : refused xss = 0) (h : Told xss (partsRep xss) T) : toldT xss = T := by
  have he : ∃ T, Told xss (partsRep xss) T := ⟨T, h⟩
  unfold toldT
  rw [dif_pos he]
  exact Told.uniq hx (partsRep_isRep xss) (partsRep_isRep xss) he.choose_spec h
theorem compRows_of {xss : List (List Int)} {rep : Nat → Nat} {T : List Nat} (hx : refused xss = 0) (hr : IsRep xss rep) (hT : Told xss rep T) :
    (T.map fun i => (mem xss.length rep i).map fun (v : Nat) => (v : Int)) = compRows xss := by
  unfold compRows
  rw [if_pos hx, toldT_of hx (hT.turn hx hr (partsRep_isRep xss))]
  apply List.map_congr_left
  intro i _
  unfold repX
  rw [mem_congr hr (partsRep_isRep xss) i]
theorem compRows_bad {xss : List (List Int)} (hx : refused xss ≠ 0) : compRows xss = [] := by unfold compRows; rw [if_neg hx]
theorem roundRows_bad {xss : List (List Int)} (hx : refused xss ≠ 0) : roundRows xss = [] := by unfold roundRows; rw [if_neg hx]
theorem roundRows_ok {xss : List (List Int)} (hx : refused xss = 0) : roundRows xss = roundTo xss xss.length := by unfold roundRows; rw [if_pos hx]

/-- THE CONTRACT of comp.Components. -/
theorem comps_any {xss : List (List Int)} {w : World} {nv : Value} (hn : RowsAt w nv xss) :
    Calls Tryz.prog 26 #[nv] w fun e w' => ∃ v, e = .returned (.tuple #[v, .int .i64 (refused xss)]) ∧ Sep w w' [rowsR v (compRows xss)] := by
  by_cases hx : refused xss = 0
  · refine (comps_told hx hn).mono ?_
    rintro e w' ⟨v, rep, T, rfl, hr, hT, hS⟩
    rw [compRows_of hx hr hT] at hS
    exact ⟨v, by rw [hx], hS⟩
  · refine (comps_refused hx hn).mono ?_
    rintro e w' ⟨rfl, rfl⟩
    rw [compRows_bad hx]
    exact ⟨_, rfl, (Sep.nil w').list_nil _ _⟩
/-- THE CONTRACT of comp.Round. -/
theorem round_any {xss : List (List Int)} {w : World} {nv : Value} (hn : RowsAt w nv xss) :
    Calls Tryz.prog 11 #[nv] w fun e w' => ∃ v, e = .returned (.tuple #[v, .int .i64 (refused xss)]) ∧ Sep w w' [rowsR v (roundRows xss)] := by
  by_cases hx : refused xss = 0
  · refine (round_told hx hn).mono ?_
    rintro e w' ⟨v, rfl, hS⟩
    rw [roundRows_ok hx]
    exact ⟨v, by rw [hx], hS⟩
  · refine (round_refused hx hn).mono ?_
    rintro e w' ⟨rfl, rfl⟩
    rw [roundRows_bad hx]
    exact ⟨_, rfl, (Sep.nil w').list_nil _ _⟩
/-- Some order of telling there is. -/
theorem told_some {xss : List (List Int)} {w : World} {nv : Value} (hx : refused xss = 0) (hn : RowsAt w nv xss) : ∃ rep T, IsRep xss rep ∧ Told xss rep T := by
  obtain ⟨e, w', fr, ⟨v, rep, T, _, hr, hT, _⟩, _⟩ := comps_told hx hn []
  exact ⟨rep, T, hr, hT⟩
end Go.Proofs.YtahkpkaodeeemaaGreat

namespace Go.Proofs.YtahkpkaodeeemaaGreat
set_option linter.unusedVariables false

section
variable {xss : List (List Int)} {k : Nat} {ring first : Nat → Nat}
theorem Chain.comp (h : Chain xss k ring first) : compRows xss = (List.range k).map fun t => ((List.range xss.length).filter fun v => ring v == k - 1 - t).map fun (v : Nat) => (v : Int) := by
  rw [← compRows_of h.ok h.isRep h.told]
  unfold chainT
  rw [List.map_map]
  apply List.map_congr_left
  intro t ht
  have ht' := List.mem_range.1 ht
  simp only [Function.comp_apply]
  unfold mem
  rw [h.ring_mem (by omega)]
theorem Chain.comp_at (h : Chain xss k ring first) {t : Nat} (ht : t < (compRows xss).length) : t < k ∧ (compRows xss)[t] = ((List.range xss.length).filter fun v => ring v == k - 1 - t).map fun (v : Nat) => (v : Int) := by
  have e := h.comp
  have ht' : t < k := by rw [e] at ht; simpa using ht
  refine ⟨ht', ?_⟩
  simp [e]
theorem Chain.comp_len (h : Chain xss k ring first) : (compRows xss).length = k := by rw [h.comp]; simp
theorem chainT_rev (k : Nat) (first : Nat → Nat) : chainT k first k = ((List.range k).map first).reverse := by
  apply List.ext_getElem
  · simp [chainT]
  · intro i h1 h2
    simp [chainT]
theorem Chain.round_len (h : Chain xss k ring first) : (roundRows xss).length = ((List.range k).filter fun r => goes xss (fun v => first (ring v)) (first r)).length := by
  rw [roundRows_ok h.ok, round_rows, List.length_map, ← (rounds_perm h.ok h.isRep h.told).length_eq, chainT_rev, List.filter_reverse, List.length_reverse, List.filter_map, List.length_map]
  rfl
end

/-- n lists, each needing the next; with 'round' the last needs the first. -/
def longX (n : Nat) (round : Bool) : List (List Int) := (List.range n).map fun i => if i + 1 < n then [(i : Int) + 1] else if round then [0] else []
theorem longX_len (n : Nat) (round : Bool) : (longX n round).length = n := by simp [longX]
theorem longX_at {n : Nat} {round : Bool} {i : Nat} (hi : i < (longX n round).length) : (longX n round)[i] = if i + 1 < n then [(i : Int) + 1] else if round then [0] else [] := by simp [longX]
theorem longX_adj {n : Nat} {round : Bool} {i : Nat} (hi : i < n) (u : Nat) : u ∈ adjOf (longX n round) i ↔ (i + 1 < n ∧ u = i + 1) ∨ (i + 1 = n ∧ round = true ∧ u = 0) := by
  rw [adjOf_at (by rw [longX_len]; exact hi), longX_at]
  by_cases h : i + 1 < n
  · have h2 : i + 1 ≠ n := by omega
    simp [h, h2]
  · have h2 : i + 1 = n := by omega
    cases round
    · simp [h2]
    · simp [h2]
theorem longX_ok {n : Nat} (round : Bool) (h2 : 2 ≤ n) (hn : n ≤ 1024) : refused (longX n round) = 0 := by
  refine refused_none (by rw [longX_len]; exact hn) (fun j hj => ?_) (fun j hj i hi => ?_)
  · rw [longX_at]
    split
    · simp
    · split <;> simp
  · rw [longX_len] at hj ⊢
    have hm := List.getElem_mem hi
    generalize (longX n round)[j][i] = x at hm
    rw [longX_at] at hm
    split at hm
    · simp at hm
      omega
    · split at hm <;> simp at hm
      omega
theorem longX_long {n : Nat} (round : Bool) (hn : 1024 < n) : refused (longX n round) = 2 := refused_long (by rw [longX_len]; exact hn)
theorem zeros_ok {n : Nat} (hn : n ≤ 1024) : refused [List.replicate n 0] = 0 := by
  refine refused_none (by simp) (fun j hj => ?_) (fun j hj i hi => ?_)
  · obtain rfl : j = 0 := by simpa using hj
    simpa using hn
  · obtain rfl : j = 0 := by simpa using hj
    simp
theorem zeros_long {n : Nat} (hn : 1024 < n) : refused [List.replicate n 0] = 2 := refused_row (k := 0) (by simp) (by simpa using hn)

theorem longX_reach {n : Nat} {round : Bool} {v : Nat} : ∀ {u : Nat}, u ≤ v → v < n → Tarjan.Reach (adjOf (longX n round)) u v := by
  intro u
  induction h : v - u generalizing u with
  | zero =>
    intro h1 _
    obtain rfl : u = v := by omega
    exact .refl _
  | succ d ih =>
    intro h1 h2
    exact .step ((longX_adj (by omega) (u + 1)).2 (.inl ⟨by omega, rfl⟩)) (ih (by omega) (by omega) h2)
theorem long_row {n : Nat} (h2 : 2 ≤ n) (hn : n ≤ 1024) : Chain (longX n false) n id id where
  ok := longX_ok false h2 hn
  ring_lt v hv := by rw [longX_len] at hv; exact hv
  first_lt i hi := by rw [longX_len]; exact hi
  ring_first i _ := rfl
  first_le v _ := Nat.le_refl _
  mono i j h _ := h
  down v _ := ⟨.refl _, .refl _⟩
  edge v hv u hu := by
    rw [longX_len] at hv
    rcases (longX_adj hv u).1 hu with ⟨_, e⟩ | ⟨_, e, _⟩
    · exact .inr e
    · cases e
  next i hi := ⟨i, by rw [longX_len]; omega, rfl, i + 1, (longX_adj (by omega) _).2 (.inl ⟨hi, rfl⟩), rfl⟩
theorem long_ring {n : Nat} (h2 : 2 ≤ n) (hn : n ≤ 1024) : Chain (longX n true) 1 (fun _ => 0) (fun _ => 0) where
  ok := longX_ok true h2 hn
  ring_lt v _ := Nat.zero_lt_one
  first_lt i hi := by rw [longX_len]; omega
  ring_first i hi := by omega
  first_le v _ := Nat.zero_le _
  mono i j h1 h2 := by omega
  down v hv := by
    rw [longX_len] at hv
    refine ⟨longX_reach (Nat.zero_le _) hv, (longX_reach (v := n - 1) (by omega) (by omega)).trans (Tarjan.Reach.edge ?_)⟩
    exact (longX_adj (by omega) 0).2 (.inr ⟨by omega, rfl, rfl⟩)
  edge v _ u _ := .inl rfl
  next i hi := by omega

theorem range_one (n i : Nat) (hi : i < n) : ((List.range n).filter fun v => v == i) = [i] := by
  induction n with
  | zero => omega
  | succ n ih =>
    rw [List.range_succ, List.filter_append]
    by_cases e : i = n
    · subst e
      have : (List.range i).filter (fun v => v == i) = [] := List.filter_eq_nil_iff.2 fun a ha => by have := List.mem_range.1 ha; simp; omega
      simp [this]
    · rw [ih (by omega)]
      have : (n == i) = false := by simp; omega
      simp [this]
/-- A row: each number alone, the last first; nothing goes round. -/
theorem long_row_says {n : Nat} (h2 : 2 ≤ n) (hn : n ≤ 1024) : (compRows (longX n false)).length = n ∧ (∀ t (ht : t < (compRows (longX n false)).length), (compRows (longX n false))[t] = [((n - 1 - t : Nat) : Int)]) ∧ roundRows (longX n false) = [] := by
  have h := long_row h2 hn
  refine ⟨h.comp_len, fun t ht => ?_, ?_⟩
  · obtain ⟨ht', e⟩ := h.comp_at ht
    rw [e, longX_len]
    show ((List.range n).filter fun v => v == n - 1 - t).map _ = _
    rw [range_one n _ (by omega)]
    rfl
  · apply List.eq_nil_of_length_eq_zero
    rw [h.round_len, List.length_eq_zero_iff, List.filter_eq_nil_iff]
    intro r hr
    have hr' := List.mem_range.1 hr
    show ¬ goes (longX n false) (fun v => v) r = true
    unfold goes
    have e1 : mem (longX n false).length (fun v => v) r = [r] := by rw [longX_len]; exact range_one n r hr'
    rw [e1, Bool.or_eq_true, decide_eq_true_eq, contains_adj (longX_ok false h2 hn) (by rw [longX_len]; exact hr'), longX_adj hr']
    simp
/-- A ring: one component, and it goes round. -/
theorem long_ring_says {n : Nat} (h2 : 2 ≤ n) (hn : n ≤ 1024) : (compRows (longX n true)).length = 1 ∧ (∀ t (ht : t < (compRows (longX n true)).length), (compRows (longX n true))[t].length = n) ∧
    (roundRows (longX n true)).length = 1 ∧ ∀ t (ht : t < (roundRows (longX n true)).length), (roundRows (longX n true))[t].length = n := by
  have h := long_ring h2 hn
  have hall : ((List.range n).filter fun _ => (0 : Nat) == 0) = List.range n := List.filter_eq_self.2 fun _ _ => rfl
  have hmem : ∀ r, mem (longX n true).length (fun v => (fun _ => 0) ((fun _ => 0) v)) ((fun _ => 0 : Nat → Nat) r) = List.range n := fun r => by
    rw [longX_len]
    exact hall
  refine ⟨h.comp_len, fun t ht => ?_, ?_, fun t ht => ?_⟩
  · obtain ⟨ht', e⟩ := h.comp_at ht
    obtain rfl : t = 0 := by omega
    rw [e, longX_len, List.length_map]
    show ((List.range n).filter fun _ => (0 : Nat) == 0).length = n
    rw [hall, List.length_range]
  · rw [h.round_len]
    have : ((List.range 1).filter fun r => goes (longX n true) (fun v => (fun _ => 0) ((fun _ => 0) v)) ((fun _ => 0 : Nat → Nat) r)) = List.range 1 := List.filter_eq_self.2 fun r _ => by
      unfold goes
      rw [hmem r, List.length_range]
      simp
      omega
    rw [this]
    rfl
  · have e1 := roundRows_ok h.ok
    rw [round_rows] at e1
    have ht' : t < (roundL (longX n true)).length := by rw [e1] at ht; simpa using ht
    have hx : (roundL (longX n true))[t] ∈ roundL (longX n true) := List.getElem_mem ht'
    obtain ⟨a1, a2, _⟩ := roundL_iff.1 hx
    have e2 : (roundRows (longX n true))[t] = (mem (longX n true).length (partsRep (longX n true)) (roundL (longX n true))[t]).map fun (v : Nat) => (v : Int) := by simp [e1]
    rw [e2, List.length_map]
    have e3 := mem_congr (partsRep_isRep (longX n true)) h.isRep (roundL (longX n true))[t]
    have e4 := h.isRep.uniq (partsRep_isRep (longX n true)) a1
    rw [a2] at e4
    rw [e3, ← e4]
    show (mem (longX n true).length (fun v => (fun _ => 0) ((fun _ => 0) v)) ((fun _ => 0 : Nat → Nat) 0)).length = n
    rw [hmem 0, List.length_range]
end Go.Proofs.YtahkpkaodeeemaaGreat
