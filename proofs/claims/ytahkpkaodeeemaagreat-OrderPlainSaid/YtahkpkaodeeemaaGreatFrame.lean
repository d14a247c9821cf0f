/- A frame by its first slots; scopes with several labels. -/
import Derived.WalkKit
namespace Go.Proofs.YtahkpkaodeeemaaGreat
open Go Go.RowKit

/-- A frame of n slots, nothing deferred; the first slots hold ks. -/
def Fm (n : Nat) (a : Act) (ks : List Value) : Prop := a.defers = [] ∧ a.tmps.size = n ∧ a.tmps.toList.take ks.length = ks

def lits (f : Nat → Value) : Nat → Nat → List Value
  | _, 0 => []
  | k, m + 1 => f k :: lits f (k + 1) m

theorem lits_of (us : List Value) : ∀ (k : Nat) (pre : List Value), pre.length = k → us = lits (fun i => (pre ++ us).getD i undef) k us.length := by
  induction us with
  | nil => intro k pre _; rfl
  | cons u us ih =>
    intro k pre hk
    simp only [List.length_cons, lits]
    have h1 : (pre ++ u :: us).getD k undef = u := by
      subst hk
      simp [List.getD]
    rw [h1]
    have h2 := ih (k + 1) (pre ++ [u]) (by simp [hk])
    simp only [List.append_assoc, List.cons_append, List.nil_append] at h2
    rw [← h2]

theorem Fm.lit {n m : Nat} {a : Act} {ks : List Value} (h : Fm n a ks) (hm : n = ks.length + m) : ∃ f : Nat → Value, a = ⟨(ks ++ lits f 0 m).toArray, []⟩ := by
  obtain ⟨h1, h2, h3⟩ := h
  obtain ⟨⟨l⟩, d⟩ := a
  simp only at h1 h2 h3
  subst h1
  have hl : (l.drop ks.length).length = m := by simp at h2 ⊢; omega
  refine ⟨fun i => (l.drop ks.length).getD i undef, ?_⟩
  have h4 := lits_of (l.drop ks.length) 0 [] rfl
  rw [hl] at h4
  simp only [List.nil_append] at h4
  rw [← h4]
  conv => lhs; rw [← List.take_append_drop ks.length l]
  rw [show List.take ks.length l = ks from h3]

/-- The frame's slots hold these. -/
def Holds (a : Act) : List (Nat × Value) → Prop
  | [] => True
  | p :: l => a.tmps.getD p.1 undef = p.2 ∧ Holds a l
def Fs (n : Nat) (a : Act) (l : List (Nat × Value)) : Prop := a.defers = [] ∧ a.tmps.size = n ∧ Holds a l
def HoldsF (f : Nat → Value) : List (Nat × Value) → Prop
  | [] => True
  | p :: l => f p.1 = p.2 ∧ HoldsF f l
theorem holdsF_of {f : Nat → Value} : ∀ {l : List (Nat × Value)}, (∀ p, p ∈ l → f p.1 = p.2) → HoldsF f l
  | [], _ => trivial
  | p :: l, h => ⟨h p (by simp), holdsF_of fun q hq => h q (by simp [hq])⟩
theorem Fs.lit {n : Nat} {a : Act} {l : List (Nat × Value)} (h : Fs n a l) : ∃ f : Nat → Value, a = ⟨(lits f 0 n).toArray, []⟩ ∧ HoldsF f l := by
  obtain ⟨h1, h2, h3⟩ := h
  obtain ⟨⟨t⟩, d⟩ := a
  simp only at h1 h2 h3
  subst h1
  refine ⟨fun i => t.getD i undef, ?_, holdsF_of ?_⟩
  · have h4 := lits_of t 0 [] rfl
    have h5 : t.length = n := by simpa using h2
    rw [h5] at h4
    simp only [List.nil_append] at h4
    rw [← h4]
  · intro p hp
    have : ∀ l : List (Nat × Value), Holds ⟨⟨t⟩, []⟩ l → p ∈ l → t.getD p.1 undef = p.2 := by
      intro l
      induction l with
      | nil => intro _ h; cases h
      | cons q l ih =>
        intro hh hm
        rcases List.mem_cons.1 hm with rfl | hm
        · have := hh.1
          rw [← this]
          by_cases hlt : p.1 < t.length <;> simp [Array.getD, List.getD, hlt]
        · exact ih hh.2 hm
    exact this l h3 hp

/-- The block of a function's code that bears the number k. -/
def blockAt (k : Nat) : Code → Option Code
  | .block i c => if i = k then some (.block i c) else blockAt k c
  | .seq a b => match blockAt k a with
    | some c => some c
    | none => blockAt k b
  | .cond _ a b => match blockAt k a with
    | some c => some c
    | none => blockAt k b
  | .loop c => blockAt k c
  | .scope c => blockAt k c
  | _ => none

/-- A jump within the scope: to label l in the state J l; else as Q. -/
def Jumps (J : Nat → Act → World → Prop) (Q : Exit → Act → World → Prop) : Exit → Act → World → Prop
  | .goto l, a, w => J l a w
  | e, a, w => Q e a w

/-- A scope in which the run jumps to several labels: J m l: what holds at a jump to l while m is still to be done. -/
theorem wp_scope_labels {P : Program} {a : Act} {w : World} {Q : Exit → Act → World → Prop} {c : Code} (rest : Nat → Code) (J : Nat → Nat → Act → World → Prop)
    (hf : ∀ m l a w, J m l a w → findLabel c l = some (rest l))
    (first : c.wp P (Jumps (fun l a w => ∃ m, J m l a w) Q) a w)
    (pass : ∀ m l a w, J m l a w → (rest l).wp P (Jumps (fun l' a' w' => ∃ m', m' < m ∧ J m' l' a' w') Q) a w) : (Code.scope c).wp P Q a w := by
  intro b k cs
  have hg : ∀ l r, findLabel c l = some r → gotoIn l (.inScope c :: k) = some (.code r :: .inScope c :: k) := fun l r h => by simp [gotoIn, h]
  have key : ∀ m l a w, J m l a w → ∃ e a' w', Q e a' w' ∧ Arrives P (lone (b.at a (.code (rest l) :: .inScope c :: k)) cs w) b k cs e a' w' := by
    intro m
    induction m using Nat.strongRecOn with
    | _ m ih =>
      intro l a w hJ
      obtain ⟨e, a₁, w₁, hq, harr⟩ := pass m l a w hJ b (.inScope c :: k) cs
      cases e with
      | normal => exact ⟨.normal, a₁, w₁, hq, Steps.trans harr (.one step_inScope)⟩
      | exit id => exact ⟨.exit id, a₁, w₁, hq, fun k' hk => harr k' (by simp [exitTo, hk])⟩
      | goto l' =>
        obtain ⟨m', hlt, hJ'⟩ := hq
        obtain ⟨e₂, a₂, w₂, hq₂, harr₂⟩ := ih m' hlt l' a₁ w₁ hJ'
        exact ⟨e₂, a₂, w₂, hq₂, .of_steps (harr _ (hg l' _ (hf m' l' a₁ w₁ hJ'))) harr₂⟩
      | ret => exact ⟨_, a₁, w₁, hq, harr⟩
      | panic ch => exact ⟨_, a₁, w₁, hq, harr⟩
      | outgrown => exact ⟨_, a₁, w₁, hq, harr⟩
  obtain ⟨e, a₁, w₁, hq, harr⟩ := first b (.inScope c :: k) cs
  cases e with
  | normal => exact ⟨.normal, a₁, w₁, hq, .head step_scope (Steps.trans harr (.one step_inScope))⟩
  | exit id => exact ⟨.exit id, a₁, w₁, hq, fun k' hk => .head step_scope (harr k' (by simp [exitTo, hk]))⟩
  | goto l' =>
    obtain ⟨m', hJ'⟩ := hq
    obtain ⟨e₂, a₂, w₂, hq₂, harr₂⟩ := key m' l' a₁ w₁ hJ'
    exact ⟨e₂, a₂, w₂, hq₂, .of_steps (.head step_scope (harr _ (hg l' _ (hf m' l' a₁ w₁ hJ')))) harr₂⟩
  | ret => exact ⟨_, a₁, w₁, hq, .of_steps (.one step_scope) harr⟩
  | panic ch => exact ⟨_, a₁, w₁, hq, .of_steps (.one step_scope) harr⟩
  | outgrown => exact ⟨_, a₁, w₁, hq, .of_steps (.one step_scope) harr⟩
end Go.Proofs.YtahkpkaodeeemaaGreat
