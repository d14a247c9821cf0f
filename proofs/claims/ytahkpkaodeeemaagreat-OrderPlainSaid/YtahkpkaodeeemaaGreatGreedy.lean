/- The order in which components are told: plain facts. No program in sight. -/
import Derived.Test.YtahkpkaodeeemaaGreatTarjan
import Derived.Test.YtahkpkaodeeemaaGreatPlain
namespace Go.Proofs.YtahkpkaodeeemaaGreat

/-- needs as numbers. -/
def adjOf (xss : List (List Int)) (v : Nat) : List Nat := (xss.getD v []).map Int.toNat
theorem adjOf_at {xss : List (List Int)} {d : Nat} (hd : d < xss.length) : adjOf xss d = (xss[d]).map Int.toNat := by simp [adjOf, List.getD, hd]

/-- What the search tells: each number's component, so many; what is needed lies in no later one; numbers of one reach each other. -/
structure Good (xss : List (List Int)) (of : Nat → Int) (count : Nat) : Prop where
  lo : ∀ v, v < xss.length → 0 ≤ of v
  hi : ∀ v, of v < count
  needs : ∀ v, v < xss.length → ∀ u, u ∈ adjOf xss v → of u ≤ of v
  scc : ∀ u v, u < xss.length → v < xss.length → of u = of v → Tarjan.Reach (adjOf xss) u v
  full : ∀ c : Nat, c < count → ∃ v, v < xss.length ∧ of v = c
  le : count ≤ xss.length

theorem adj_lt {xss : List (List Int)} (h : refused xss = 0) {v u : Nat} (hv : v < xss.length) (hu : u ∈ adjOf xss v) : u < xss.length := by
  obtain ⟨_, _, hg⟩ := refused_zero h
  rw [adjOf_at hv] at hu
  obtain ⟨x, hx, rfl⟩ := List.mem_map.1 hu
  obtain ⟨i, hi, rfl⟩ := List.mem_iff_getElem.1 hx
  have := hg v hv i hi
  omega

def Mut (xss : List (List Int)) (u v : Nat) : Prop := Tarjan.Reach (adjOf xss) u v ∧ Tarjan.Reach (adjOf xss) v u
/-- rep v: the least number of v's component. -/
def IsRep (xss : List (List Int)) (rep : Nat → Nat) : Prop := ∀ v, v < xss.length → rep v < xss.length ∧ Mut xss (rep v) v ∧ ∀ u, u < xss.length → Mut xss u v → rep v ≤ u

def mem (n : Nat) (rep : Nat → Nat) (i : Nat) : List Nat := (List.range n).filter fun v => rep v == i
def ReadyR (xss : List (List Int)) (rep : Nat → Nat) (T : List Nat) (i : Nat) : Prop := ∀ v, v < xss.length → rep v = i → ∀ u, u ∈ adjOf xss v → rep u = i ∨ rep u ∈ T

/-- What was told so far: ever again the least component that is ready. -/
inductive Pre (xss : List (List Int)) (rep : Nat → Nat) : List Nat → Prop
  | nil : Pre xss rep []
  | snoc {T : List Nat} {i : Nat} : Pre xss rep T → i < xss.length → rep i = i → i ∉ T → ReadyR xss rep T i → (∀ j, j < i → rep j = j → j ∉ T → ¬ ReadyR xss rep T j) → Pre xss rep (T ++ [i])
def Told (xss : List (List Int)) (rep : Nat → Nat) (T : List Nat) : Prop := Pre xss rep T ∧ ∀ i, i < xss.length → rep i = i → i ∈ T

section
variable {xss : List (List Int)} {rep rep' : Nat → Nat} {T T' : List Nat}

theorem Mut.refl (v : Nat) : Mut xss v v := ⟨.refl _, .refl _⟩
theorem Mut.symm {u v : Nat} (h : Mut xss u v) : Mut xss v u := ⟨h.2, h.1⟩
theorem Mut.trans {u v x : Nat} (h : Mut xss u v) (k : Mut xss v x) : Mut xss u x := ⟨h.1.trans k.1, k.2.trans h.2⟩
theorem IsRep.uniq (h : IsRep xss rep) (h' : IsRep xss rep') {v : Nat} (hv : v < xss.length) : rep v = rep' v := by
  obtain ⟨a1, a2, a3⟩ := h v hv
  obtain ⟨b1, b2, b3⟩ := h' v hv
  have := a3 _ b1 b2
  have := b3 _ a1 a2
  omega
theorem IsRep.iff (h : IsRep xss rep) {u v : Nat} (hu : u < xss.length) (hv : v < xss.length) : rep u = rep v ↔ Mut xss u v := by
  obtain ⟨a1, a2, a3⟩ := h u hu
  obtain ⟨b1, b2, b3⟩ := h v hv
  constructor
  · intro e
    rw [e] at a2
    exact a2.symm.trans b2
  · intro m
    have := a3 _ b1 (b2.trans m.symm)
    have := b3 _ a1 (a2.trans m)
    omega
theorem IsRep.idem (h : IsRep xss rep) {v : Nat} (hv : v < xss.length) : rep (rep v) = rep v := by
  obtain ⟨a1, a2, a3⟩ := h v hv
  exact (h.iff a1 hv).2 a2
theorem Pre.lt (h : Pre xss rep T) : ∀ i, i ∈ T → i < xss.length ∧ rep i = i := by
  induction h with
  | nil => intro i hi; simp at hi
  | snoc _ h1 h2 _ _ _ ih =>
    intro i hi
    rw [List.mem_append, List.mem_singleton] at hi
    rcases hi with hi | rfl
    · exact ih i hi
    · exact ⟨h1, h2⟩
theorem Pre.nodup (h : Pre xss rep T) : T.Nodup := by
  induction h with
  | nil => simp
  | snoc _ _ _ h3 _ _ ih =>
    rw [List.nodup_append]
    exact ⟨ih, by simp, fun a ha b hb => by simp at hb; subst hb; exact fun e => h3 (e ▸ ha)⟩
theorem Pre.uniq (hx : refused xss = 0) (hr : IsRep xss rep) (hr' : IsRep xss rep') (h : Pre xss rep T) : ∀ {T' : List Nat}, Pre xss rep' T' → T.length ≤ T'.length → T = T'.take T.length := by
  induction h with
  | nil => intro T' _ _; simp
  | @snoc T i hp h1 h2 h3 h4 h5 ih =>
    intro T' h' hl
    simp only [List.length_append, List.length_cons, List.length_nil] at hl
    -- the first so many of T' are told alike
    have key : ∀ {T' : List Nat}, Pre xss rep' T' → T.length + 1 ≤ T'.length → ∃ k, T'[T.length]? = some k ∧ Pre xss rep' (T'.take T.length) ∧ k < xss.length ∧ rep' k = k ∧ k ∉ T'.take T.length ∧ ReadyR xss rep' (T'.take T.length) k ∧ (∀ j, j < k → rep' j = j → j ∉ T'.take T.length → ¬ ReadyR xss rep' (T'.take T.length) j) := by
      intro T' h'
      induction h' with
      | nil => intro hl; simp at hl
      | @snoc T2 i2 p1 p2 p3 p4 p5 p6 ih2 =>
        intro hl
        simp only [List.length_append, List.length_cons, List.length_nil] at hl
        rcases Nat.lt_or_ge T.length T2.length with hlt | hge
        · obtain ⟨k, e1, e2⟩ := ih2 (by omega)
          refine ⟨k, ?_, ?_⟩
          · rw [List.getElem?_append_left hlt]; exact e1
          · rw [List.take_append_of_le_length (by omega)]; exact e2
        · have e : T.length = T2.length := by omega
          refine ⟨i2, by rw [e]; simp, ?_⟩
          rw [e, List.take_left]
          exact ⟨p1, p2, p3, p4, p5, p6⟩
    obtain ⟨k, e1, e2, e3, e4, e5, e6, e7⟩ := key h' (by omega)
    have hT : T = T'.take T.length := ih h' (by omega)
    rw [← hT] at e2 e5 e6 e7
    have same : ∀ j, j < xss.length → (ReadyR xss rep T j ↔ ReadyR xss rep' T j) := by
      intro j hj
      constructor
      · intro hr1 v hv e u hu
        have hu' := adj_lt hx hv hu
        rw [← hr.uniq hr' hu']
        exact hr1 v hv ((hr.uniq hr' hv).trans e) u hu
      · intro hr1 v hv e u hu
        have hu' := adj_lt hx hv hu
        rw [hr.uniq hr' hu']
        exact hr1 v hv ((hr.uniq hr' hv).symm.trans e) u hu
    have hki : k = i := by
      rcases Nat.lt_trichotomy k i with hlt | he | hgt
      · exact absurd ((same k e3).2 e6) (h5 k hlt ((hr.uniq hr' e3).trans e4) e5)
      · exact he
      · exact absurd ((same i h1).1 h4) (e7 i hgt ((hr.uniq hr' h1).symm.trans h2) h3)
    subst hki
    rw [List.length_append, List.length_cons, List.length_nil, List.take_add_one, e1, ← hT]
    rfl
theorem Told.uniq (hx : refused xss = 0) (hr : IsRep xss rep) (hr' : IsRep xss rep') (h : Told xss rep T) (h' : Told xss rep' T') : T = T' := by
  have hlen : ∀ {rep rep' : Nat → Nat} {T T' : List Nat}, IsRep xss rep → IsRep xss rep' → Told xss rep T → Told xss rep' T' → T.length ≤ T'.length := by
    intro rep rep' T T' hr hr' h h'
    refine h.1.nodup.length_le_of_subset fun i hi => ?_
    obtain ⟨a1, a2⟩ := h.1.lt i hi
    exact h'.2 i a1 ((hr.uniq hr' a1).symm.trans a2)
  have l1 := hlen hr hr' h h'
  have l2 := hlen hr' hr h' h
  have := h.1.uniq hx hr hr' h'.1 l1
  rw [this, List.take_of_length_le (by omega)]
theorem mem_congr (hr : IsRep xss rep) (hr' : IsRep xss rep') (i : Nat) : mem xss.length rep i = mem xss.length rep' i := by
  unfold mem
  apply List.filter_congr
  intro v hv
  rw [hr.uniq hr' (List.mem_range.1 hv)]
theorem mem_iff {n : Nat} {i v : Nat} : v ∈ mem n rep i ↔ v < n ∧ rep v = i := by simp [mem]
end
end Go.Proofs.YtahkpkaodeeemaaGreat
