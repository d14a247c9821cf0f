/- The plain law of what goes round. No program in sight. -/
import Derived.Test.YtahkpkaodeeemaaGreatKit14
namespace Go.Proofs.YtahkpkaodeeemaaGreat
set_option linter.unusedVariables false

section
variable {xss : List (List Int)} {rep : Nat → Nat} {T : List Nat}

/-- Does the component of the least number i go round? -/
def goes (xss : List (List Int)) (rep : Nat → Nat) (i : Nat) : Bool := decide (1 < (mem xss.length rep i).length) || (xss.getD i []).contains (i : Int)

theorem mem_sorted (n : Nat) (rep : Nat → Nat) (i : Nat) : (mem n rep i).Pairwise (· < ·) := List.Pairwise.filter _ List.pairwise_lt_range
theorem mem_head (hr : IsRep xss rep) {i : Nat} (hi : i < xss.length) (e : rep i = i) : ∃ l, mem xss.length rep i = i :: l := by
  have hm : i ∈ mem xss.length rep i := mem_iff.2 ⟨hi, e⟩
  have hs := mem_sorted xss.length rep i
  have ha : ∀ a, a ∈ mem xss.length rep i → i ≤ a := fun a h => by
    obtain ⟨h1, h2⟩ := mem_iff.1 h
    have := (hr a h1).2.2 a h1 (Mut.refl a)
    omega
  cases hl : mem xss.length rep i with
  | nil => rw [hl] at hm; simp at hm
  | cons a l =>
    rw [hl] at hm hs ha
    rcases List.mem_cons.1 hm with rfl | h
    · exact ⟨l, rfl⟩
    · have := (List.pairwise_cons.1 hs).1 i h
      have := ha a (by simp)
      omega
theorem contains_adj (hx : refused xss = 0) {v u : Nat} (hv : v < xss.length) : (xss.getD v []).contains (u : Int) = true ↔ u ∈ adjOf xss v := by
  have e : xss.getD v [] = (adjOf xss v).map (fun (u : Nat) => (u : Int)) := by
    rw [adj_back hx hv]
    simp [List.getD, hv]
  rw [e, List.contains_iff_mem, List.mem_map]
  constructor
  · rintro ⟨a, h, e⟩
    have : a = u := by omega
    subst this
    exact h
  · intro h
    exact ⟨u, h, rfl⟩
theorem goes_iff (hx : refused xss = 0) (hr : IsRep xss rep) {i : Nat} (hi : i < xss.length) (e : rep i = i) : goes xss rep i = true ↔ RP xss i i := by
  unfold goes
  rw [Bool.or_eq_true, decide_eq_true_eq, contains_adj hx hi]
  obtain ⟨l, hl⟩ := mem_head hr hi e
  constructor
  · rintro (h | h)
    · rw [hl] at h
      obtain ⟨b, l', rfl⟩ : ∃ b l', l = b :: l' := by
        cases l with
        | nil => simp at h
        | cons b l' => exact ⟨b, l', rfl⟩
      have hs := mem_sorted xss.length rep i
      rw [hl] at hs
      have hib := (List.pairwise_cons.1 hs).1 b (by simp)
      have hb : b ∈ mem xss.length rep i := by rw [hl]; simp
      obtain ⟨b1, b2⟩ := mem_iff.1 hb
      have hm := (hr b b1).2.1
      rw [b2] at hm
      have h1 := hm.1
      cases h1 with
      | refl => omega
      | step h2 h3 => exact ⟨_, h2, h3.trans hm.2⟩
    · exact ⟨i, h, .refl _⟩
  · rintro ⟨u, h1, h2⟩
    by_cases hu : u = i
    · subst hu; exact .inr h1
    · left
      have u1 := adj_lt hx hi h1
      have hm : Mut xss i u := ⟨Tarjan.Reach.edge h1, h2⟩
      have u2 := (hr.iff hi u1).2 hm
      have h3 : u ∈ mem xss.length rep i := mem_iff.2 ⟨u1, by omega⟩
      rw [hl] at h3 ⊢
      rcases List.mem_cons.1 h3 with h4 | h4
      · exact absurd h4 hu
      · cases l with
        | nil => simp at h4
        | cons b l' => simp
noncomputable def roundL (xss : List (List Int)) : List Nat := (List.range xss.length).filter fun i => (partsRep xss i == i) && rpB xss i i
theorem roundL_iff {i : Nat} : i ∈ roundL xss ↔ i < xss.length ∧ partsRep xss i = i ∧ RP xss i i := by
  simp [roundL, rpB_iff]
theorem roundL_sorted : (roundL xss).Pairwise (· < ·) := List.Pairwise.filter _ List.pairwise_lt_range
theorem round_rows (xss : List (List Int)) : roundTo xss xss.length = (roundL xss).map fun i => (mem xss.length (partsRep xss) i).map fun (v : Nat) => (v : Int) := rfl
theorem rounds_perm (hx : refused xss = 0) (hr : IsRep xss rep) (hT : Told xss rep T) : (T.filter (goes xss rep)).Perm (roundL xss) := by
  refine (List.perm_ext_iff_of_nodup (hT.1.nodup.sublist List.filter_sublist) (roundL_sorted.imp fun h => by omega)).2 fun i => ?_
  rw [List.mem_filter, roundL_iff]
  constructor
  · rintro ⟨h1, h2⟩
    obtain ⟨a1, a2⟩ := hT.1.lt i h1
    exact ⟨a1, ((partsRep_isRep xss).uniq hr a1).trans a2, (goes_iff hx hr a1 a2).1 h2⟩
  · rintro ⟨a1, a2, a3⟩
    have e := (hr.uniq (partsRep_isRep xss) a1).trans a2
    exact ⟨hT.2 i a1 e, (goes_iff hx hr a1 e).2 a3⟩
/-- What a sort of the told ones leaves. -/
theorem rounds_sorted (hx : refused xss = 0) (hr : IsRep xss rep) (hT : Told xss rep T) {l : List Nat} (hp : (T.filter (goes xss rep)).Perm l) (hs : l.Pairwise (· ≤ ·)) : l = roundL xss := by
  refine List.Perm.eq_of_pairwise (le := (· ≤ ·)) (fun a b _ _ h1 h2 => by omega) hs (roundL_sorted.imp fun h => by omega) (hp.symm.trans (rounds_perm hx hr hT))
end
end Go.Proofs.YtahkpkaodeeemaaGreat
