/- comp.Components and comp.Round as plain functions of the needs. -/
import Derived.Test.YtahkpkaodeeemaaGreatRound
import Derived.Test.YtahkpkaodeeemaaGreatChain
namespace Go.Proofs.YtahkpkaodeeemaaGreat
open Go.RowKit
set_option linter.unusedVariables false

section
variable {xss : List (List Int)} {rep rep' : Nat → Nat} {T : List Nat}
theorem Pre.turn (hx : refused xss = 0) (hr : IsRep xss rep) (hr' : IsRep xss rep') (h : Pre xss rep T) : Pre xss rep' T := by
  have ready : ∀ {T : List Nat} {i : Nat}, ReadyR xss rep T i ↔ ReadyR xss rep' T i := by
    intro T i
    constructor
    · intro h v hv e u hu
      rw [← hr.uniq hr' (adj_lt hx hv hu)]
      exact h v hv ((hr.uniq hr' hv).trans e) u hu
    · intro h v hv e u hu
      rw [hr.uniq hr' (adj_lt hx hv hu)]
      exact h v hv ((hr.uniq hr' hv).symm.trans e) u hu
  induction h with
  | nil => exact .nil
  | snoc _ h1 h2 h3 h4 h5 ih =>
    refine .snoc ih h1 ((hr.uniq hr' h1).symm.trans h2) h3 (ready.1 h4) fun j hj e hT hd => h5 j hj ((hr.uniq hr' (by omega)).trans e) hT (ready.2 hd)
theorem Told.turn (hx : refused xss = 0) (hr : IsRep xss rep) (hr' : IsRep xss rep') (h : Told xss rep T) : Told xss rep' T :=
  ⟨h.1.turn hx hr hr', fun i hi e => h.2 i hi ((hr.uniq hr' hi).trans e)⟩
end

open Classical in
/-- The least numbers of the components, in the order in which they are told. -/
noncomputable def toldT (xss : List (List Int)) : List Nat := if h : ∃ T, Told xss (partsRep xss) T then h.choose else []
/-- What Components answers; what Round answers. -/
noncomputable def compRows (xss : List (List Int)) : List (List Int) := if refused xss = 0 then (toldT xss).map (repX xss) else []
noncomputable def roundRows (xss : List (List Int)) : List (List Int) := if refused xss = 0 then roundTo xss xss.length else []

theorem toldT_of {xss : List (List Int)} {T : List Nat} (hx : refused xss = 0) (h : Told xss (partsRep xss) T) : toldT xss = T := by
  have he : ∃ T, Told xss (partsRep xss) T := ⟨T, h⟩
  unfold toldT
  rw [dif_pos he]
  exact Told.uniq hx (partsRep_isRep xss) (partsRep_isRep xss) he.choose_spec h
theorem compRows_of {xss : List (List Int)} {rep : Nat → Nat} {T : List Nat} (hx : refused xss = 0) (hr : IsRep xss rep) (hT : Told xss rep T) :
    (T.map fun i => (mem xss.length rep i).map fun (v : Nat) => (v : Int)) = compRows xss := by
  unfold compRows
  rw [if_pos hx, toldT_of hx (hT.turn hx hr (partsRep_isRep xss))]
  apply List.map_congr_left
  intro i _
  unfold repX
  rw [mem_congr hr (partsRep_isRep xss) i]
theorem compRows_bad {xss : List (List Int)} (hx : refused xss ≠ 0) : compRows xss = [] := by unfold compRows; rw [if_neg hx]
theorem roundRows_bad {xss : List (List Int)} (hx : refused xss ≠ 0) : roundRows xss = [] := by unfold roundRows; rw [if_neg hx]
theorem roundRows_ok {xss : List (List Int)} (hx : refused xss = 0) : roundRows xss = roundTo xss xss.length := by unfold roundRows; rw [if_pos hx]

/-- THE CONTRACT of comp.Components. -/
theorem comps_any {xss : List (List Int)} {w : World} {nv : Value} (hn : RowsAt w nv xss) :
    Calls Tryz.prog 26 #[nv] w fun e w' => ∃ v, e = .returned (.tuple #[v, .int .i64 (refused xss)]) ∧ Sep w w' [rowsR v (compRows xss)] := by
  by_cases hx : refused xss = 0
  · refine (comps_told hx hn).mono ?_
    rintro e w' ⟨v, rep, T, rfl, hr, hT, hS⟩
    rw [compRows_of hx hr hT] at hS
    exact ⟨v, by rw [hx], hS⟩
  · refine (comps_refused hx hn).mono ?_
    rintro e w' ⟨rfl, rfl⟩
    rw [compRows_bad hx]
    exact ⟨_, rfl, (Sep.nil w').list_nil _ _⟩
/-- THE CONTRACT of comp.Round. -/
theorem round_any {xss : List (List Int)} {w : World} {nv : Value} (hn : RowsAt w nv xss) :
    Calls Tryz.prog 11 #[nv] w fun e w' => ∃ v, e = .returned (.tuple #[v, .int .i64 (refused xss)]) ∧ Sep w w' [rowsR v (roundRows xss)] := by
  by_cases hx : refused xss = 0
  · refine (round_told hx hn).mono ?_
    rintro e w' ⟨v, rfl, hS⟩
    rw [roundRows_ok hx]
    exact ⟨v, by rw [hx], hS⟩
  · refine (round_refused hx hn).mono ?_
    rintro e w' ⟨rfl, rfl⟩
    rw [roundRows_bad hx]
    exact ⟨_, rfl, (Sep.nil w').list_nil _ _⟩
/-- Some order of telling there is. -/
theorem told_some {xss : List (List Int)} {w : World} {nv : Value} (hx : refused xss = 0) (hn : RowsAt w nv xss) : ∃ rep T, IsRep xss rep ∧ Told xss rep T := by
  obtain ⟨e, w', fr, ⟨v, rep, T, _, hr, hT, _⟩, _⟩ := comps_told hx hn []
  exact ⟨rep, T, hr, hT⟩
end Go.Proofs.YtahkpkaodeeemaaGreat
