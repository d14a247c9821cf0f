/- What cut.Break answers, in plain words. -/
import Derived.Test.YtioonfceamgpmaaDoorCutPlain
import Derived.Test.YtioonfceamgpmaaDoorBoth
namespace Go.Proofs.YtioonfceamgpmaaDoor
set_option linter.unusedVariables false

structure Broken where
  acts : List Ins
  needs : List (List Int)
  cuts : Int
  err : Int

/-- The number that the first place names. -/
def placeR (ns : List Int) (j : Int) : Nat := (ns.getD j.toNat 0).toNat
def insZ : Ins := ⟨0, ⟨#[]⟩, ⟨#[]⟩, 0, 0⟩
def cutNext (acts : List Ins) (xss : List (List Int)) (k r : Nat) : List (List Int) := mendTo (cutActs acts (acts.getD r insZ) k r) (acts.getD r insZ).to r xss.length (cutRows xss r (xss.getD r [])) xss.length
/-- Cut by cut, at most so many. -/
noncomputable def breakP : Nat → List Ins → List (List Int) → Nat → Broken
  | 0, acts, xss, k => ⟨acts, xss, k, 0⟩
  | f + 1, acts, xss, k => match roundRows xss with
    | [] => ⟨acts, xss, k, 0⟩
    | ns :: _ => if firstL acts ns < 0 then ⟨[], [], 0, 33⟩
      else breakP f (cutActs acts (acts.getD (placeR ns (firstL acts ns)) insZ) k (placeR ns (firstL acts ns))) (cutNext acts xss k (placeR ns (firstL acts ns))) (k + 1)
noncomputable def breakT (acts : List Ins) (xss : List (List Int)) : Broken :=
  if refused xss ≠ 0 then ⟨[], [], 0, refused xss⟩ else if xss.length ≠ acts.length then ⟨[], [], 0, 1⟩ else breakP (acts.length + 1) acts (xss.map normL) 0

/-! Facts. -/
theorem okay_refused {xss : List (List Int)} (h : Okay xss) (hl : xss.length ≤ 1024) : refused xss = 0 := by
  refine refused_none hl (fun j hj => ?_) (fun j hj i hi => ?_)
  · have := h.len (List.getElem_mem hj); omega
  · exact (h _ (List.getElem_mem hj)).2 _ (List.getElem_mem hi)

theorem findL_bad {q : Int → Bool} {l : List Int} {k : Nat} (h : findL q l k < 0) : ∀ y ∈ l, q y = false := by
  induction l generalizing k with
  | nil => simp
  | cons y l ih =>
    unfold findL at h
    split at h
    · omega
    · rename_i hy
      intro z hz
      rcases List.mem_cons.1 hz with rfl | hz
      · simpa using hy
      · exact ih h z hz
theorem findL_good {q : Int → Bool} {l : List Int} {k : Nat} (h : 0 ≤ findL q l k) : ∃ j : Nat, findL q l k = ((k + j : Nat) : Int) ∧ j < l.length ∧ q (l.getD j 0) = true := by
  induction l generalizing k with
  | nil => unfold findL at h; omega
  | cons y l ih =>
    unfold findL at h ⊢
    split at h
    · rename_i hy
      exact ⟨0, by rw [if_pos hy]; simp, by simp, by simpa using hy⟩
    · rename_i hy
      rw [if_neg hy]
      obtain ⟨j, h1, h2, h3⟩ := ih h
      exact ⟨j + 1, by rw [h1]; congr 1; omega, by simp; omega, by simpa using h3⟩

/-- What a component that goes round says of its numbers. -/
theorem round_mem {xss : List (List Int)} (hx : refused xss = 0) {ns : List Int} (h : ns ∈ roundRows xss) {y : Int} (hy : y ∈ ns) : ∃ r : Nat, y = (r : Int) ∧ r < xss.length ∧ adjOf xss r ≠ [] := by
  rw [roundRows_ok hx, round_rows] at h
  obtain ⟨i, hi, rfl⟩ := List.mem_map.1 h
  obtain ⟨r, hr, rfl⟩ := List.mem_map.1 hy
  obtain ⟨h1, h2⟩ := mem_iff.1 hr
  obtain ⟨i1, i2, i3⟩ := roundL_iff.1 hi
  refine ⟨r, rfl, h1, fun he => ?_⟩
  by_cases e : r = i
  · subst e
    obtain ⟨u, hu, _⟩ := i3
    rw [he] at hu
    cases hu
  · have hm := ((partsRep_isRep xss).iff h1 i1).1 (by rw [h2, i2])
    cases hm.1 with
    | refl => exact e rfl
    | step h3 _ => rw [he] at h3; cases h3

def cutable (acts : List Ins) (xss : List (List Int)) (i : Nat) : Bool := cutsX (acts.getD i insZ) && !(xss.getD i []).isEmpty
/-- How many can still be cut. -/
def potB (acts : List Ins) (xss : List (List Int)) : Nat := ((List.range acts.length).filter (cutable acts xss)).length

theorem temp_kept {k : Nat} (hk : k < 100) : keptL (tempS k).data.toList = true := by
  have h : ∀ k, k < 100 → keptL (tempS k).data.toList = true := by decide +kernel
  exact h k hk
theorem temp_size {k : Nat} (hk : k < 100) : (tempS k).size ≤ 100 := by
  have h : ∀ k, k < 100 → (tempS k).size ≤ 100 := by decide +kernel
  exact h k hk

theorem cutActs_len {acts : List Ins} {x : Ins} {k r : Nat} : (cutActs acts x k r).length = acts.length + 1 := by simp [cutActs]
theorem cutRows_len2 {xss : List (List Int)} {r : Nat} {l : List Int} : (cutRows xss r l).length = xss.length + 1 := by simp [cutRows]
theorem cutNext_len {acts : List Ins} {xss : List (List Int)} {k r : Nat} : (cutNext acts xss k r).length = xss.length + 1 := by rw [cutNext, mendTo_len, cutRows_len2]

theorem cutable_next {acts : List Ins} {xss : List (List Int)} {k r : Nat} (hl : xss.length = acts.length) (hr : r < acts.length) (hk : k < 100) {i : Nat} (hi : i < acts.length + 1)
    (h : cutable (cutActs acts (acts.getD r insZ) k r) (cutNext acts xss k r) i = true) : i ≠ r ∧ i < acts.length ∧ cutable acts xss i = true := by
  unfold cutable at h
  rw [Bool.and_eq_true, Bool.not_eq_true'] at h
  obtain ⟨h1, h2⟩ := h
  obtain ⟨l, hl1⟩ : ∃ l, (cutNext acts xss k r)[i]? = some l := ⟨_, List.getElem?_eq_getElem (by rw [cutNext_len]; omega)⟩
  have h2' : l ≠ [] := by
    intro e
    rw [List.getD_eq_getElem?_getD, hl1, e] at h2
    simp at h2
  obtain ⟨m, hm, hlm⟩ := mendTo_row _ hl1
  have hm' : m ≠ [] := by
    rcases hlm with e | ⟨_, e⟩
    · rwa [← e]
    · intro e'
      rw [e'] at e
      cases e
  have hir : i ≠ r := by
    intro e
    subst e
    unfold cutRows at hm
    rw [List.getElem?_set_self (by simp; omega)] at hm
    simp at hm
    exact hm' (by first | exact hm | exact hm.symm)
  unfold cutRows at hm
  rw [List.getElem?_set_ne (Ne.symm hir)] at hm
  unfold cutActs at h1
  rw [List.getD_eq_getElem?_getD, List.getElem?_set_ne (Ne.symm hir)] at h1
  rcases Nat.lt_or_ge i acts.length with hlt | hge
  · refine ⟨hir, hlt, ?_⟩
    rw [List.getElem?_append_left hlt] at h1
    rw [List.getElem?_append_left (by omega)] at hm
    unfold cutable
    rw [List.getD_eq_getElem?_getD, List.getD_eq_getElem?_getD, h1, hm]
    simpa using hm'
  · exfalso
    obtain rfl : i = acts.length := by omega
    rw [List.getElem?_append_right (by omega), Nat.sub_self] at h1
    simp [cutsX, temp_kept hk] at h1

theorem pot_next {acts : List Ins} {xss : List (List Int)} {k r : Nat} (hl : xss.length = acts.length) (hr : r < acts.length) (hk : k < 100) (hc : cutable acts xss r = true) :
    potB (cutActs acts (acts.getD r insZ) k r) (cutNext acts xss k r) + 1 ≤ potB acts xss := by
  unfold potB
  rw [cutActs_len]
  have hm : r ∈ (List.range acts.length).filter (cutable acts xss) := List.mem_filter.2 ⟨List.mem_range.2 hr, hc⟩
  have hn : ((List.range (acts.length + 1)).filter (cutable (cutActs acts (acts.getD r insZ) k r) (cutNext acts xss k r))).Nodup := List.nodup_range.sublist List.filter_sublist
  have hsub : (List.range (acts.length + 1)).filter (cutable (cutActs acts (acts.getD r insZ) k r) (cutNext acts xss k r)) ⊆ ((List.range acts.length).filter (cutable acts xss)).erase r := by
    intro i hi
    obtain ⟨h1, h2⟩ := List.mem_filter.1 hi
    obtain ⟨a1, a2, a3⟩ := cutable_next hl hr hk (List.mem_range.1 h1) h2
    exact (List.mem_erase_of_ne a1).2 (List.mem_filter.2 ⟨List.mem_range.2 a2, a3⟩)
  have h1 := List.Nodup.length_le_of_subset hn hsub
  rw [List.length_erase_of_mem hm] at h1
  have h2 : 0 < ((List.range acts.length).filter (cutable acts xss)).length := List.length_pos_of_mem hm
  omega

/-- What holds ahead of each cut. -/
structure BInv (acts : List Ins) (xss : List (List Int)) (k : Nat) : Prop where
  len : xss.length = acts.length
  ok : Okay xss
  small : acts.length ≤ 50 + k
  pot : k + potB acts xss ≤ 50
  path : ∀ x ∈ acts, x.path.size ≤ 4611686018427387904

theorem BInv.next {acts : List Ins} {xss : List (List Int)} {k r : Nat} (h : BInv acts xss k) (hr : r < acts.length) (hc : cutable acts xss r = true) : k < 100 ∧ BInv (cutActs acts (acts.getD r insZ) k r) (cutNext acts xss k r) (k + 1) := by
  have hk : k < 100 := by have := h.pot; omega
  have hp := pot_next h.len hr hk hc
  refine ⟨hk, ?_, ?_, ?_, ?_, ?_⟩
  · rw [cutNext_len, cutActs_len, h.len]
  · unfold cutNext
    have hl : xss[r]? = some (xss.getD r []) := by
      rw [List.getD_eq_getElem?_getD, List.getElem?_eq_getElem (by rw [h.len]; exact hr)]
      rfl
    exact cut_okay h.ok hl _
  · rw [cutActs_len]; have := h.small; omega
  · have := h.pot; omega
  · intro x hx
    unfold cutActs at hx
    rcases List.mem_or_eq_of_mem_set hx with hx | rfl
    · rcases List.mem_append.1 hx with hx | hx
      · exact h.path x hx
      · rw [List.mem_singleton] at hx
        subst hx
        have := temp_size hk
        show (tempS k).size ≤ _
        omega
    · show (acts.getD r insZ).path.size ≤ _
      rw [List.getD_eq_getElem?_getD, List.getElem?_eq_getElem hr]
      exact h.path _ (List.getElem_mem hr)
theorem potB_le (acts : List Ins) (xss : List (List Int)) : potB acts xss ≤ acts.length := by
  unfold potB
  have := List.length_filter_le (cutable acts xss) (List.range acts.length)
  simpa using this

/-- The number that first names can be cut. -/
theorem place_good {acts : List Ins} {xss : List (List Int)} {k : Nat} (h : BInv acts xss k) {ns : List Int} (hn : ns ∈ roundRows xss) (hf : 0 ≤ firstL acts ns) :
    ∃ j r : Nat, firstL acts ns = (j : Int) ∧ ns[j]? = some (r : Int) ∧ placeR ns (firstL acts ns) = r ∧ r < acts.length ∧ cutable acts xss r = true := by
  have hx : refused xss = 0 := okay_refused h.ok (by have := h.len; have := h.small; have := h.pot; omega)
  obtain ⟨j, h1, h2, h3⟩ := findL_good hf
  rw [Nat.zero_add] at h1
  have hj : ns[j]? = some ns[j] := List.getElem?_eq_getElem h2
  obtain ⟨r, hr, hlt, hadj⟩ := round_mem hx hn (List.getElem_mem h2)
  have hg : ns.getD j 0 = (r : Int) := by rw [List.getD_eq_getElem?_getD, hj, hr]; rfl
  refine ⟨j, r, h1, by rw [hj, hr], ?_, by rw [← h.len]; exact hlt, ?_⟩
  · unfold placeR
    have h1' : firstL acts ns = (j : Int) := h1
    rw [h1']
    rw [Int.toNat_natCast, hg, Int.toNat_natCast]
  · rw [hg] at h3
    unfold cutable
    rw [Bool.and_eq_true]
    have hra : r < acts.length := by rw [← h.len]; exact hlt
    constructor
    · rw [List.getD_eq_getElem?_getD, List.getElem?_eq_getElem hra]
      simpa [hra] using h3
    · have : xss.getD r [] ≠ [] := fun e => hadj (by unfold adjOf; rw [e]; rfl)
      simpa using this
end Go.Proofs.YtioonfceamgpmaaDoor
