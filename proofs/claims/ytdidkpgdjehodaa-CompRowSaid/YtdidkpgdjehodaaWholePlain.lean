/- What holds of told components. No program in sight. -/
import Derived.Test.YtdidkpgdjehodaaRefParts
namespace Go.Proofs.Ytdidkpgdjehodaa
set_option linter.unusedVariables false

section
variable {xss : List (List Int)} {rep : Nat → Nat} {T : List Nat}

def compsN (n : Nat) (rep : Nat → Nat) (T : List Nat) : List (List Nat) := T.map fun i => mem n rep i
/-- The row that a number stands in. -/
def rowOf (R : List (List Nat)) (x : Nat) : Nat := R.findIdx fun r => r.contains x

theorem compsN_nodup (n : Nat) (rep : Nat → Nat) : ∀ {T : List Nat}, T.Nodup → (compsN n rep T).flatten.Nodup := by
  intro T hT
  induction T with
  | nil => simp [compsN]
  | cons a T ih =>
    rw [List.nodup_cons] at hT
    simp only [compsN, List.map_cons, List.flatten_cons]
    rw [List.nodup_append]
    refine ⟨List.nodup_range.sublist List.filter_sublist, ih hT.2, ?_⟩
    intro x hx y hy e
    subst e
    obtain ⟨r, hr, hxr⟩ := List.mem_flatten.1 hy
    obtain ⟨i, hi, rfl⟩ := List.mem_map.1 hr
    have h1 := (mem_iff.1 hx).2
    have h2 := (mem_iff.1 hxr).2
    exact hT.1 (by rw [← h1, h2]; exact hi)
theorem compsN_mem (hr : IsRep xss rep) (h : Told xss rep T) (x : Nat) : x ∈ (compsN xss.length rep T).flatten ↔ x < xss.length := by
  constructor
  · intro hx
    obtain ⟨r, hr', hxr⟩ := List.mem_flatten.1 hx
    obtain ⟨i, hi, rfl⟩ := List.mem_map.1 hr'
    exact (mem_iff.1 hxr).1
  · intro hx
    have h1 := hr x hx
    have h2 := h.2 (rep x) h1.1 (hr.idem hx)
    exact List.mem_flatten.2 ⟨_, List.mem_map.2 ⟨rep x, h2, rfl⟩, mem_iff.2 ⟨hx, rfl⟩⟩
theorem compsN_len (hr : IsRep xss rep) (h : Told xss rep T) : (compsN xss.length rep T).flatten.length = xss.length := by
  have hp : (compsN xss.length rep T).flatten.Perm (List.range xss.length) := (List.perm_ext_iff_of_nodup (compsN_nodup _ _ h.1.nodup) List.nodup_range).2 fun x => by rw [compsN_mem hr h, List.mem_range]
  rw [hp.length_eq, List.length_range]
theorem rowOf_at {R : List (List Nat)} (hn : R.flatten.Nodup) : ∀ {i x : Nat} {r : List Nat}, R[i]? = some r → x ∈ r → rowOf R x = i := by
  induction R with
  | nil => intro i x r h; simp at h
  | cons a R ih =>
    intro i x r h hx
    simp only [List.flatten_cons, List.nodup_append] at hn
    obtain ⟨n1, n2, n3⟩ := hn
    cases i with
    | zero =>
      simp at h
      subst h
      simp [rowOf, List.findIdx_cons, hx]
    | succ i =>
      simp at h
      have hxa : x ∉ a := fun hxa => n3 x hxa x (List.mem_flatten.2 ⟨r, List.mem_of_getElem? h, hx⟩) rfl
      have := ih n2 h hx
      unfold rowOf at this ⊢
      rw [List.findIdx_cons]
      have e : a.contains x = false := by simpa using hxa
      rw [e, this]
      rfl
theorem rowOf_row {R : List (List Nat)} {x : Nat} (hx : x ∈ R.flatten) : ∃ r, R[rowOf R x]? = some r ∧ x ∈ r := by
  obtain ⟨r, hr, hxr⟩ := List.mem_flatten.1 hx
  have hlt : rowOf R x < R.length := List.findIdx_lt_length_of_exists ⟨r, hr, by simpa using hxr⟩
  refine ⟨R[rowOf R x], List.getElem?_eq_getElem hlt, ?_⟩
  have := List.findIdx_getElem (w := hlt)
  simpa [rowOf] using this
/-- The numbers that were met: those of the first i rows, and k of row i. -/
def metF (R : List (List Nat)) (i k : Nat) : List Nat := (R.take i).flatten ++ (R.getD i []).take k
theorem metF_zero (R : List (List Nat)) : metF R 0 0 = [] := by simp [metF]
theorem metF_next {R : List (List Nat)} {i : Nat} {r : List Nat} (h : R[i]? = some r) : metF R i r.length = metF R (i + 1) 0 := by
  simp [metF, List.take_add_one, h, List.getD]
theorem metF_step {R : List (List Nat)} {i k x : Nat} {r : List Nat} (h : R[i]? = some r) (hk : r[k]? = some x) : metF R i (k + 1) = metF R i k ++ [x] := by
  simp [metF, List.take_add_one, h, List.getD, hk]
theorem metF_all (R : List (List Nat)) : metF R R.length 0 = R.flatten := by simp [metF]
theorem metF_pre {R : List (List Nat)} {i k : Nat} {r : List Nat} (h : R[i]? = some r) : ∃ S, R.flatten = metF R i k ++ (r.drop k ++ S) := by
  refine ⟨(R.drop (i + 1)).flatten, ?_⟩
  have h1 : R = R.take i ++ r :: R.drop (i + 1) := by
    have := (List.take_append_drop i R).symm
    obtain ⟨hi, e⟩ := List.getElem?_eq_some_iff.1 h
    rw [List.drop_eq_getElem_cons hi, e] at this
    exact this
  have h2 : R.getD i [] = r := by simp [List.getD, h]
  conv => lhs; rw [h1]
  simp only [metF, h2, List.flatten_append, List.flatten_cons, List.append_assoc]
  rw [← List.append_assoc (r.take k), List.take_append_drop]
theorem metF_new {R : List (List Nat)} (hn : R.flatten.Nodup) {i k x : Nat} {r : List Nat} (h : R[i]? = some r) (hk : r[k]? = some x) : x ∉ metF R i k := by
  obtain ⟨S, e⟩ := metF_pre (k := k) h
  rw [e, List.nodup_append] at hn
  intro hx
  refine hn.2.2 x hx x (List.mem_append_left _ ?_) rfl
  obtain ⟨hlt, e'⟩ := List.getElem?_eq_some_iff.1 hk
  rw [List.drop_eq_getElem_cons hlt, e']
  simp
/-- What stands in 'at'. -/
def atF (R : List (List Nat)) (F : List Nat) (x : Nat) : Int := if x ∈ F then (rowOf R x : Int) + 1 else 0
theorem atF_nil (R : List (List Nat)) : atF R [] = fun _ => 0 := by funext x; simp [atF]
theorem atF_step {R : List (List Nat)} (hn : R.flatten.Nodup) {i x : Nat} {r : List Nat} (F : List Nat) (h : R[i]? = some r) (hx : x ∈ r) : Tarjan.upd (atF R F) x ((i : Int) + 1) = atF R (F ++ [x]) := by
  funext y
  simp only [Tarjan.upd, atF, List.mem_append, List.mem_singleton]
  by_cases e : y = x
  · subst e; simp [rowOf_at hn h hx]
  · simp [e]

/-- Each need lies in no later row. -/
theorem Told.order (hx : refused xss = 0) (hr : IsRep xss rep) (h : Told xss rep T) {v u : Nat} (hv : v < xss.length) (hu : u ∈ adjOf xss v) : rowOf (compsN xss.length rep T) u ≤ rowOf (compsN xss.length rep T) v := by
  have hu' := adj_lt hx hv hu
  have hn := compsN_nodup xss.length rep h.1.nodup
  obtain ⟨r, h1, h2⟩ := rowOf_row ((compsN_mem hr h v).2 hv)
  obtain ⟨r', h1', h2'⟩ := rowOf_row ((compsN_mem hr h u).2 hu')
  generalize ei : rowOf (compsN xss.length rep T) v = i at h1
  generalize ej : rowOf (compsN xss.length rep T) u = j at h1'
  simp only [compsN, List.getElem?_map, Option.map_eq_some_iff] at h1 h1'
  obtain ⟨a, ha, rfl⟩ := h1
  obtain ⟨b, hb, rfl⟩ := h1'
  have hva := (mem_iff.1 h2).2
  have hub := (mem_iff.1 h2').2
  -- a's place in T
  have key : ∀ {T : List Nat}, Pre xss rep T → ∀ {i j a b : Nat}, T[i]? = some a → T[j]? = some b → rep v = a → rep u = b → j ≤ i := by
    intro T hp
    induction hp with
    | nil => intro i j a b h; simp at h
    | @snoc T c hp p1 p2 p3 p4 p5 ih =>
      intro i j a b hi hj ea eb
      rcases Nat.lt_or_ge i T.length with hlt | hge
      · rw [List.getElem?_append_left hlt] at hi
        have haT := List.mem_of_getElem? hi
        rcases Nat.lt_or_ge j T.length with hjl | hjg
        · rw [List.getElem?_append_left hjl] at hj
          exact ih hi hj ea eb
        · -- u's component is told last, v's earlier: v's was not ready
          rw [List.getElem?_append_right hjg] at hj
          have hcb : c = b := by
            cases e : j - T.length with
            | zero => rw [e] at hj; simpa using hj
            | succ k => rw [e] at hj; simp at hj
          exfalso
          have : ∀ {T : List Nat}, Pre xss rep T → a ∈ T → rep u ∈ T := by
            intro T hp
            induction hp with
            | nil => intro h; cases h
            | @snoc T d hp q1 q2 q3 q4 q5 ih2 =>
              intro hm
              rcases List.mem_append.1 hm with hm | hm
              · exact List.mem_append_left _ (ih2 hm)
              · simp only [List.mem_singleton] at hm
                rcases q4 v hv (by rw [ea, hm]) u hu with e | e
                · exact List.mem_append_right _ (by simp [e])
                · exact List.mem_append_left _ e
          have h3 := this hp haT
          rw [eb, ← hcb] at h3
          exact p3 h3
      · have hjlt : j < (T ++ [c]).length := by
          obtain ⟨hl, _⟩ := List.getElem?_eq_some_iff.1 hj
          exact hl
        simp at hjlt
        omega
  exact key h.1 ha hb hva hub
/-- Numbers of one row reach one another. -/
theorem Told.mutual (hr : IsRep xss rep) {i x y : Nat} {r : List Nat} (h : (compsN xss.length rep T)[i]? = some r) (hx : x ∈ r) (hy : y ∈ r) (hne : x ≠ y) : both xss x y = true := by
  simp only [compsN, List.getElem?_map, Option.map_eq_some_iff] at h
  obtain ⟨a, _, rfl⟩ := h
  obtain ⟨x1, x2⟩ := mem_iff.1 hx
  obtain ⟨y1, y2⟩ := mem_iff.1 hy
  exact (both_mut hne.symm).2 ((hr.iff y1 x1).1 (by rw [x2, y2]))
theorem comps_row_lt {i x : Nat} {r : List Nat} (h : (compsN xss.length rep T)[i]? = some r) (hx : x ∈ r) : x < xss.length := by
  simp only [compsN, List.getElem?_map, Option.map_eq_some_iff] at h
  obtain ⟨a, _, rfl⟩ := h
  exact (mem_iff.1 hx).1
theorem comps_row_up {n i k : Nat} {r : List Nat} (h : (compsN n rep T)[i]? = some r) (hk : k + 1 < r.length) : r[k] < r[k + 1] := by
  simp only [compsN, List.getElem?_map, Option.map_eq_some_iff] at h
  obtain ⟨a, _, rfl⟩ := h
  have hs : (mem n rep a).Pairwise (· < ·) := List.Pairwise.filter _ List.pairwise_lt_range
  exact List.pairwise_iff_getElem.1 hs k (k + 1) (by omega) hk (by omega)
theorem comps_rows_eq (n : Nat) (rep : Nat → Nat) (T : List Nat) : (T.map fun i => (mem n rep i).map fun (v : Nat) => (v : Int)) = (compsN n rep T).map fun r => r.map fun (v : Nat) => (v : Int) := by
  simp [compsN]
end
end Go.Proofs.Ytdidkpgdjehodaa
