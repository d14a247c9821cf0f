/- Plain, Greedy, Frame, laid together. -/
import Derived.Test.YtahkpkaodeeemaaGreatJ1
import Derived.Test.YtahkpkaodeeemaaGreatJ6
import Derived.WalkKit
namespace Go.Proofs.YtahkpkaodeeemaaGreat

/-- P1401's errors: 2 too long, 1 no place, 0 none. -/
def refused (xss : List (List Int)) : Int :=
  if 1024 < xss.length then 2 else if xss.any (fun l => decide (1024 < l.length)) then 2
  else if xss.any (fun l => l.any fun k => decide (k < 0) || decide ((xss.length : Int) ≤ k)) then 1 else 0

theorem refused_long {xss : List (List Int)} (h : 1024 < xss.length) : refused xss = 2 := by simp [refused, h]
theorem refused_row {xss : List (List Int)} {k : Nat} (hk : k < xss.length) (h : 1024 < xss[k].length) : refused xss = 2 := by
  unfold refused
  have : xss.any (fun l => decide (1024 < l.length)) = true := by
    rw [List.any_eq_true]
    exact ⟨xss[k], List.getElem_mem hk, by simpa using h⟩
  simp [this]
theorem any_long_false {xss : List (List Int)} (h : ∀ j (hj : j < xss.length), xss[j].length ≤ 1024) : xss.any (fun l => decide (1024 < l.length)) = false := by
  rw [List.any_eq_false]
  intro l hl
  obtain ⟨j, hj, rfl⟩ := List.mem_iff_getElem.1 hl
  have := h j hj
  simpa using this
theorem refused_bad {xss : List (List Int)} (h0 : xss.length ≤ 1024) (h : ∀ j (hj : j < xss.length), xss[j].length ≤ 1024) {k i : Nat} (hk : k < xss.length) (hi : i < xss[k].length)
    (hb : xss[k][i] < 0 ∨ (xss.length : Int) ≤ xss[k][i]) : refused xss = 1 := by
  unfold refused
  rw [if_neg (by omega), any_long_false h]
  have : xss.any (fun l => l.any fun k => decide (k < 0) || decide ((xss.length : Int) ≤ k)) = true := by
    rw [List.any_eq_true]
    refine ⟨xss[k], List.getElem_mem hk, ?_⟩
    rw [List.any_eq_true]
    exact ⟨xss[k][i], List.getElem_mem hi, by simpa using hb⟩
  simp [this]
theorem refused_none {xss : List (List Int)} (h0 : xss.length ≤ 1024) (h : ∀ j (hj : j < xss.length), xss[j].length ≤ 1024)
    (hg : ∀ j (hj : j < xss.length) i (hi : i < xss[j].length), 0 ≤ xss[j][i] ∧ xss[j][i] < (xss.length : Int)) : refused xss = 0 := by
  unfold refused
  rw [if_neg (by omega), any_long_false h]
  have : xss.any (fun l => l.any fun k => decide (k < 0) || decide ((xss.length : Int) ≤ k)) = false := by
    rw [List.any_eq_false]
    intro l hl
    obtain ⟨j, hj, rfl⟩ := List.mem_iff_getElem.1 hl
    rw [Bool.not_eq_true, List.any_eq_false]
    intro k hk
    obtain ⟨i, hi, rfl⟩ := List.mem_iff_getElem.1 hk
    have := hg j hj i hi
    simp only [Bool.or_eq_true, decide_eq_true_eq]
    omega
  simp [this]
theorem refused_zero {xss : List (List Int)} (h : refused xss = 0) : xss.length ≤ 1024 ∧ (∀ j (hj : j < xss.length), xss[j].length ≤ 1024) ∧
    ∀ j (hj : j < xss.length) i (hi : i < xss[j].length), 0 ≤ xss[j][i] ∧ xss[j][i] < (xss.length : Int) := by
  have h0 : xss.length ≤ 1024 := by
    rcases Nat.lt_or_ge 1024 xss.length with h' | h'
    · rw [refused_long h'] at h; omega
    · exact h'
  have h1 : ∀ j (hj : j < xss.length), xss[j].length ≤ 1024 := by
    intro j hj
    rcases Nat.lt_or_ge 1024 xss[j].length with h' | h'
    · rw [refused_row hj h'] at h; omega
    · exact h'
  refine ⟨h0, h1, fun j hj i hi => ?_⟩
  by_cases hb : xss[j][i] < 0 ∨ (xss.length : Int) ≤ xss[j][i]
  · rw [refused_bad h0 h1 hj hi hb] at h; omega
  · omega
theorem refused_cases (xss : List (List Int)) : refused xss = 0 ∨ refused xss = 1 ∨ refused xss = 2 := by
  unfold refused
  split
  · simp
  · split
    · simp
    · split <;> simp
end Go.Proofs.YtahkpkaodeeemaaGreat

namespace Go.Proofs.YtahkpkaodeeemaaGreat

/-- needs as numbers. -/
def adjOf (xss : List (List Int)) (v : Nat) : List Nat := (xss.getD v []).map Int.toNat
theorem adjOf_at {xss : List (List Int)} {d : Nat} (hd : d < xss.length) : adjOf xss d = (xss[d]).map Int.toNat := by simp [adjOf, List.getD, hd]

/-- What the search tells: each number's component, so many; what is needed lies in no later one; numbers of one reach each other. -/
structure Good (xss : List (List Int)) (of : Nat → Int) (count : Nat) : Prop where
  lo : ∀ v, v < xss.length → 0 ≤ of v
  hi : ∀ v, of v < count
  needs : ∀ v, v < xss.length → ∀ u, u ∈ adjOf xss v → of u ≤ of v
  scc : ∀ u v, u < xss.length → v < xss.length → of u = of v → Tarjan.Reach (adjOf xss) u v
  full : ∀ c : Nat, c < count → ∃ v, v < xss.length ∧ of v = c
  le : count ≤ xss.length

theorem adj_lt {xss : List (List Int)} (h : refused xss = 0) {v u : Nat} (hv : v < xss.length) (hu : u ∈ adjOf xss v) : u < xss.length := by
  obtain ⟨_, _, hg⟩ := refused_zero h
  rw [adjOf_at hv] at hu
  obtain ⟨x, hx, rfl⟩ := List.mem_map.1 hu
  obtain ⟨i, hi, rfl⟩ := List.mem_iff_getElem.1 hx
  have := hg v hv i hi
  omega

def Mut (xss : List (List Int)) (u v : Nat) : Prop := Tarjan.Reach (adjOf xss) u v ∧ Tarjan.Reach (adjOf xss) v u
/-- rep v: the least number of v's component. -/
def IsRep (xss : List (List Int)) (rep : Nat → Nat) : Prop := ∀ v, v < xss.length → rep v < xss.length ∧ Mut xss (rep v) v ∧ ∀ u, u < xss.length → Mut xss u v → rep v ≤ u

def mem (n : Nat) (rep : Nat → Nat) (i : Nat) : List Nat := (List.range n).filter fun v => rep v == i
def ReadyR (xss : List (List Int)) (rep : Nat → Nat) (T : List Nat) (i : Nat) : Prop := ∀ v, v < xss.length → rep v = i → ∀ u, u ∈ adjOf xss v → rep u = i ∨ rep u ∈ T

/-- What was told so far: ever again the least component that is ready. -/
inductive Pre (xss : List (List Int)) (rep : Nat → Nat) : List Nat → Prop
  | nil : Pre xss rep []
  | snoc {T : List Nat} {i : Nat} : Pre xss rep T → i < xss.length → rep i = i → i ∉ T → ReadyR xss rep T i → (∀ j, j < i → rep j = j → j ∉ T → ¬ ReadyR xss rep T j) → Pre xss rep (T ++ [i])
def Told (xss : List (List Int)) (rep : Nat → Nat) (T : List Nat) : Prop := Pre xss rep T ∧ ∀ i, i < xss.length → rep i = i → i ∈ T

section
variable {xss : List (List Int)} {rep rep' : Nat → Nat} {T T' : List Nat}

theorem Mut.refl (v : Nat) : Mut xss v v := ⟨.refl _, .refl _⟩
theorem Mut.symm {u v : Nat} (h : Mut xss u v) : Mut xss v u := ⟨h.2, h.1⟩
theorem Mut.trans {u v x : Nat} (h : Mut xss u v) (k : Mut xss v x) : Mut xss u x := ⟨h.1.trans k.1, k.2.trans h.2⟩
theorem IsRep.uniq (h : IsRep xss rep) (h' : IsRep xss rep') {v : Nat} (hv : v < xss.length) : rep v = rep' v := by
  obtain ⟨a1, a2, a3⟩ := h v hv
  obtain ⟨b1, b2, b3⟩ := h' v hv
  have := a3 _ b1 b2
  have := b3 _ a1 a2
  omega
theorem IsRep.iff (h : IsRep xss rep) {u v : Nat} (hu : u < xss.length) (hv : v < xss.length) : rep u = rep v ↔ Mut xss u v := by
  obtain ⟨a1, a2, a3⟩ := h u hu
  obtain ⟨b1, b2, b3⟩ := h v hv
  constructor
  · intro e
    rw [e] at a2
    exact a2.symm.trans b2
  · intro m
    have := a3 _ b1 (b2.trans m.symm)
    have := b3 _ a1 (a2.trans m)
    omega
theorem IsRep.idem (h : IsRep xss rep) {v : Nat} (hv : v < xss.length) : rep (rep v) = rep v := by
  obtain ⟨a1, a2, a3⟩ := h v hv
  exact (h.iff a1 hv).2 a2
theorem Pre.lt (h : Pre xss rep T) : ∀ i, i ∈ T → i < xss.length ∧ rep i = i := by
  induction h with
  | nil => intro i hi; simp at hi
  | snoc _ h1 h2 _ _ _ ih =>
    intro i hi
    rw [List.mem_append, List.mem_singleton] at hi
    rcases hi with hi | rfl
    · exact ih i hi
    · exact ⟨h1, h2⟩
theorem Pre.nodup (h : Pre xss rep T) : T.Nodup := by
  induction h with
  | nil => simp
  | snoc _ _ _ h3 _ _ ih =>
    rw [List.nodup_append]
    exact ⟨ih, by simp, fun a ha b hb => by simp at hb; subst hb; exact fun e => h3 (e ▸ ha)⟩
theorem Pre.uniq (hx : refused xss = 0) (hr : IsRep xss rep) (hr' : IsRep xss rep') (h : Pre xss rep T) : ∀ {T' : List Nat}, Pre xss rep' T' → T.length ≤ T'.length → T = T'.take T.length := by
  induction h with
  | nil => intro T' _ _; simp
  | @snoc T i hp h1 h2 h3 h4 h5 ih =>
    intro T' h' hl
    simp only [List.length_append, List.length_cons, List.length_nil] at hl
    -- the first so many of T' are told alike
    have key : ∀ {T' : List Nat}, Pre xss rep' T' → T.length + 1 ≤ T'.length → ∃ k, T'[T.length]? = some k ∧ Pre xss rep' (T'.take T.length) ∧ k < xss.length ∧ rep' k = k ∧ k ∉ T'.take T.length ∧ ReadyR xss rep' (T'.take T.length) k ∧ (∀ j, j < k → rep' j = j → j ∉ T'.take T.length → ¬ ReadyR xss rep' (T'.take T.length) j) := by
      intro T' h'
      induction h' with
      | nil => intro hl; simp at hl
      | @snoc T2 i2 p1 p2 p3 p4 p5 p6 ih2 =>
        intro hl
        simp only [List.length_append, List.length_cons, List.length_nil] at hl
        rcases Nat.lt_or_ge T.length T2.length with hlt | hge
        · obtain ⟨k, e1, e2⟩ := ih2 (by omega)
          refine ⟨k, ?_, ?_⟩
          · rw [List.getElem?_append_left hlt]; exact e1
          · rw [List.take_append_of_le_length (by omega)]; exact e2
        · have e : T.length = T2.length := by omega
          refine ⟨i2, by rw [e]; simp, ?_⟩
          rw [e, List.take_left]
          exact ⟨p1, p2, p3, p4, p5, p6⟩
    obtain ⟨k, e1, e2, e3, e4, e5, e6, e7⟩ := key h' (by omega)
    have hT : T = T'.take T.length := ih h' (by omega)
    rw [← hT] at e2 e5 e6 e7
    have same : ∀ j, j < xss.length → (ReadyR xss rep T j ↔ ReadyR xss rep' T j) := by
      intro j hj
      constructor
      · intro hr1 v hv e u hu
        have hu' := adj_lt hx hv hu
        rw [← hr.uniq hr' hu']
        exact hr1 v hv ((hr.uniq hr' hv).trans e) u hu
      · intro hr1 v hv e u hu
        have hu' := adj_lt hx hv hu
        rw [hr.uniq hr' hu']
        exact hr1 v hv ((hr.uniq hr' hv).symm.trans e) u hu
    have hki : k = i := by
      rcases Nat.lt_trichotomy k i with hlt | he | hgt
      · exact absurd ((same k e3).2 e6) (h5 k hlt ((hr.uniq hr' e3).trans e4) e5)
      · exact he
      · exact absurd ((same i h1).1 h4) (e7 i hgt ((hr.uniq hr' h1).symm.trans h2) h3)
    subst hki
    rw [List.length_append, List.length_cons, List.length_nil, List.take_add_one, e1, ← hT]
    rfl
theorem Told.uniq (hx : refused xss = 0) (hr : IsRep xss rep) (hr' : IsRep xss rep') (h : Told xss rep T) (h' : Told xss rep' T') : T = T' := by
  have hlen : ∀ {rep rep' : Nat → Nat} {T T' : List Nat}, IsRep xss rep → IsRep xss rep' → Told xss rep T → Told xss rep' T' → T.length ≤ T'.length := by
    intro rep rep' T T' hr hr' h h'
    refine h.1.nodup.length_le_of_subset fun i hi => ?_
    obtain ⟨a1, a2⟩ := h.1.lt i hi
    exact h'.2 i a1 ((hr.uniq hr' a1).symm.trans a2)
  have l1 := hlen hr hr' h h'
  have l2 := hlen hr' hr h' h
  have := h.1.uniq hx hr hr' h'.1 l1
  rw [this, List.take_of_length_le (by omega)]
theorem mem_congr (hr : IsRep xss rep) (hr' : IsRep xss rep') (i : Nat) : mem xss.length rep i = mem xss.length rep' i := by
  unfold mem
  apply List.filter_congr
  intro v hv
  rw [hr.uniq hr' (List.mem_range.1 hv)]
theorem mem_iff {n : Nat} {i v : Nat} : v ∈ mem n rep i ↔ v < n ∧ rep v = i := by simp [mem]
end
end Go.Proofs.YtahkpkaodeeemaaGreat

namespace Go.Proofs.YtahkpkaodeeemaaGreat
open Go Go.RowKit

/-- A frame of n slots, nothing deferred; the first slots hold ks. -/
def Fm (n : Nat) (a : Act) (ks : List Value) : Prop := a.defers = [] ∧ a.tmps.size = n ∧ a.tmps.toList.take ks.length = ks

def lits (f : Nat → Value) : Nat → Nat → List Value
  | _, 0 => []
  | k, m + 1 => f k :: lits f (k + 1) m

theorem lits_of (us : List Value) : ∀ (k : Nat) (pre : List Value), pre.length = k → us = lits (fun i => (pre ++ us).getD i undef) k us.length := by
  induction us with
  | nil => intro k pre _; rfl
  | cons u us ih =>
    intro k pre hk
    simp only [List.length_cons, lits]
    have h1 : (pre ++ u :: us).getD k undef = u := by
      subst hk
      simp [List.getD]
    rw [h1]
    have h2 := ih (k + 1) (pre ++ [u]) (by simp [hk])
    simp only [List.append_assoc, List.cons_append, List.nil_append] at h2
    rw [← h2]

theorem Fm.lit {n m : Nat} {a : Act} {ks : List Value} (h : Fm n a ks) (hm : n = ks.length + m) : ∃ f : Nat → Value, a = ⟨(ks ++ lits f 0 m).toArray, []⟩ := by
  obtain ⟨h1, h2, h3⟩ := h
  obtain ⟨⟨l⟩, d⟩ := a
  simp only at h1 h2 h3
  subst h1
  have hl : (l.drop ks.length).length = m := by simp at h2 ⊢; omega
  refine ⟨fun i => (l.drop ks.length).getD i undef, ?_⟩
  have h4 := lits_of (l.drop ks.length) 0 [] rfl
  rw [hl] at h4
  simp only [List.nil_append] at h4
  rw [← h4]
  conv => lhs; rw [← List.take_append_drop ks.length l]
  rw [show List.take ks.length l = ks from h3]

/-- The frame's slots hold these. -/
def Holds (a : Act) : List (Nat × Value) → Prop
  | [] => True
  | p :: l => a.tmps.getD p.1 undef = p.2 ∧ Holds a l
def Fs (n : Nat) (a : Act) (l : List (Nat × Value)) : Prop := a.defers = [] ∧ a.tmps.size = n ∧ Holds a l
def HoldsF (f : Nat → Value) : List (Nat × Value) → Prop
  | [] => True
  | p :: l => f p.1 = p.2 ∧ HoldsF f l
theorem holdsF_of {f : Nat → Value} : ∀ {l : List (Nat × Value)}, (∀ p, p ∈ l → f p.1 = p.2) → HoldsF f l
  | [], _ => trivial
  | p :: l, h => ⟨h p (by simp), holdsF_of fun q hq => h q (by simp [hq])⟩
theorem Fs.lit {n : Nat} {a : Act} {l : List (Nat × Value)} (h : Fs n a l) : ∃ f : Nat → Value, a = ⟨(lits f 0 n).toArray, []⟩ ∧ HoldsF f l := by
  obtain ⟨h1, h2, h3⟩ := h
  obtain ⟨⟨t⟩, d⟩ := a
  simp only at h1 h2 h3
  subst h1
  refine ⟨fun i => t.getD i undef, ?_, holdsF_of ?_⟩
  · have h4 := lits_of t 0 [] rfl
    have h5 : t.length = n := by simpa using h2
    rw [h5] at h4
    simp only [List.nil_append] at h4
    rw [← h4]
  · intro p hp
    have : ∀ l : List (Nat × Value), Holds ⟨⟨t⟩, []⟩ l → p ∈ l → t.getD p.1 undef = p.2 := by
      intro l
      induction l with
      | nil => intro _ h; cases h
      | cons q l ih =>
        intro hh hm
        rcases List.mem_cons.1 hm with rfl | hm
        · have := hh.1
          rw [← this]
          by_cases hlt : p.1 < t.length <;> simp [Array.getD, List.getD, hlt]
        · exact ih hh.2 hm
    exact this l h3 hp

/-- The block of a function's code that bears the number k. -/
def blockAt (k : Nat) : Code → Option Code
  | .block i c => if i = k then some (.block i c) else blockAt k c
  | .seq a b => match blockAt k a with
    | some c => some c
    | none => blockAt k b
  | .cond _ a b => match blockAt k a with
    | some c => some c
    | none => blockAt k b
  | .loop c => blockAt k c
  | .scope c => blockAt k c
  | _ => none

/-- A jump within the scope: to label l in the state J l; else as Q. -/
def Jumps (J : Nat → Act → World → Prop) (Q : Exit → Act → World → Prop) : Exit → Act → World → Prop
  | .goto l, a, w => J l a w
  | e, a, w => Q e a w

/-- A scope in which the run jumps to several labels: J m l: what holds at a jump to l while m is still to be done. -/
theorem wp_scope_labels {P : Program} {a : Act} {w : World} {Q : Exit → Act → World → Prop} {c : Code} (rest : Nat → Code) (J : Nat → Nat → Act → World → Prop)
    (hf : ∀ m l a w, J m l a w → findLabel c l = some (rest l))
    (first : c.wp P (Jumps (fun l a w => ∃ m, J m l a w) Q) a w)
    (pass : ∀ m l a w, J m l a w → (rest l).wp P (Jumps (fun l' a' w' => ∃ m', m' < m ∧ J m' l' a' w') Q) a w) : (Code.scope c).wp P Q a w := by
  intro b k cs
  have hg : ∀ l r, findLabel c l = some r → gotoIn l (.inScope c :: k) = some (.code r :: .inScope c :: k) := fun l r h => by simp [gotoIn, h]
  have key : ∀ m l a w, J m l a w → ∃ e a' w', Q e a' w' ∧ Arrives P (lone (b.at a (.code (rest l) :: .inScope c :: k)) cs w) b k cs e a' w' := by
    intro m
    induction m using Nat.strongRecOn with
    | _ m ih =>
      intro l a w hJ
      obtain ⟨e, a₁, w₁, hq, harr⟩ := pass m l a w hJ b (.inScope c :: k) cs
      cases e with
      | normal => exact ⟨.normal, a₁, w₁, hq, Steps.trans harr (.one step_inScope)⟩
      | exit id => exact ⟨.exit id, a₁, w₁, hq, fun k' hk => harr k' (by simp [exitTo, hk])⟩
      | goto l' =>
        obtain ⟨m', hlt, hJ'⟩ := hq
        obtain ⟨e₂, a₂, w₂, hq₂, harr₂⟩ := ih m' hlt l' a₁ w₁ hJ'
        exact ⟨e₂, a₂, w₂, hq₂, .of_steps (harr _ (hg l' _ (hf m' l' a₁ w₁ hJ'))) harr₂⟩
      | ret => exact ⟨_, a₁, w₁, hq, harr⟩
      | panic ch => exact ⟨_, a₁, w₁, hq, harr⟩
      | outgrown => exact ⟨_, a₁, w₁, hq, harr⟩
  obtain ⟨e, a₁, w₁, hq, harr⟩ := first b (.inScope c :: k) cs
  cases e with
  | normal => exact ⟨.normal, a₁, w₁, hq, .head step_scope (Steps.trans harr (.one step_inScope))⟩
  | exit id => exact ⟨.exit id, a₁, w₁, hq, fun k' hk => .head step_scope (harr k' (by simp [exitTo, hk]))⟩
  | goto l' =>
    obtain ⟨m', hJ'⟩ := hq
    obtain ⟨e₂, a₂, w₂, hq₂, harr₂⟩ := key m' l' a₁ w₁ hJ'
    exact ⟨e₂, a₂, w₂, hq₂, .of_steps (.head step_scope (harr _ (hg l' _ (hf m' l' a₁ w₁ hJ')))) harr₂⟩
  | ret => exact ⟨_, a₁, w₁, hq, .of_steps (.one step_scope) harr⟩
  | panic ch => exact ⟨_, a₁, w₁, hq, .of_steps (.one step_scope) harr⟩
  | outgrown => exact ⟨_, a₁, w₁, hq, .of_steps (.one step_scope) harr⟩
end Go.Proofs.YtahkpkaodeeemaaGreat
