/- cut, in plain words: what cutter.cut leaves, what Break answers. -/
import Derived.Test.YtioonfceamgpmaaDoorMend
import Derived.Test.YtioonfceamgpmaaDoorNorm
namespace Go.Proofs.YtioonfceamgpmaaDoor
set_option linter.unusedVariables false

/-- Whether an action looks for a name. -/
def wantsX (x : Ins) : Bool := (decide (x.op = 4) || decide (x.op = 7)) || decide (x.op = 8)
def mendB (a : Ins) (to : ByteArray) (r : Int) (l : List Int) : Bool := (wantsX a && decide (a.path = to)) && decide (r ∈ l)
/-- The needs, those of the first i actions mended. -/
def mendTo (acts : List Ins) (to : ByteArray) (r more : Int) (xss : List (List Int)) : Nat → List (List Int)
  | 0 => xss
  | i + 1 => match acts[i]?, xss[i]? with
    | some a, some l => if mendB a to r l then (mendTo acts to r more xss i).set i (mendL r more l) else mendTo acts to r more xss i
    | _, _ => mendTo acts to r more xss i
def cutActs (acts : List Ins) (x : Ins) (k r : Nat) : List Ins := (acts ++ [Ins.mk 3 (tempS k) x.to 0 0]).set r { x with to := tempS k }
def cutRows (xss : List (List Int)) (r : Nat) (l : List Int) : List (List Int) := (xss ++ [normL (l ++ [(r : Int)])]).set r []

section
variable {acts : List Ins} {to : ByteArray} {r more : Int} {xss : List (List Int)}
theorem mendTo_len (i : Nat) : (mendTo acts to r more xss i).length = xss.length := by
  induction i with
  | zero => rfl
  | succ i ih =>
    unfold mendTo
    split
    · split
      · rw [List.length_set, ih]
      · exact ih
    · exact ih
theorem mendTo_step {i : Nat} {a : Ins} {l : List Int} (ha : acts[i]? = some a) (hl : xss[i]? = some l) : mendTo acts to r more xss (i + 1) = if mendB a to r l then (mendTo acts to r more xss i).set i (mendL r more l) else mendTo acts to r more xss i := by
  rw [mendTo, ha, hl]
theorem mendTo_late {i j : Nat} (h : i ≤ j) : (mendTo acts to r more xss i)[j]? = xss[j]? := by
  induction i with
  | zero => rfl
  | succ i ih =>
    unfold mendTo
    split
    · split
      · rw [List.getElem?_set_ne (by omega)]
        exact ih (by omega)
      · exact ih (by omega)
    · exact ih (by omega)
/-- Each row is the old one, or the old one mended. -/
theorem mendTo_row (i : Nat) : ∀ {j : Nat} {l : List Int}, (mendTo acts to r more xss i)[j]? = some l → ∃ m, xss[j]? = some m ∧ (l = m ∨ (l = mendL r more m ∧ r ∈ m)) := by
  induction i with
  | zero => exact fun h => ⟨_, h, .inl rfl⟩
  | succ i ih =>
    intro j l h
    unfold mendTo at h
    split at h
    · rename_i a m ha hm
      split at h
      · rename_i hb
        by_cases hj : i = j
        · subst hj
          rw [List.getElem?_set_self'] at h
          obtain ⟨y, hy, e⟩ : ∃ y, (mendTo acts to r more xss i)[i]? = some y ∧ mendL r more m = l := by
            cases hy : (mendTo acts to r more xss i)[i]? with
            | none => rw [hy] at h; cases h
            | some y => rw [hy] at h; exact ⟨y, rfl, by simpa using h⟩
          refine ⟨m, hm, .inr ⟨e.symm, ?_⟩⟩
          unfold mendB at hb
          simp at hb
          exact hb.2
        · rw [List.getElem?_set_ne hj] at h
          exact ih h
      · exact ih h
    · exact ih h
end

/-- Needs in order: each row rises, within the numbers there are. -/
def Okay (xss : List (List Int)) : Prop := ∀ l ∈ xss, l.Pairwise (· < ·) ∧ ∀ y ∈ l, 0 ≤ y ∧ y < (xss.length : Int)

theorem str_beq (a b : ByteArray) : (a.toList == b.toList) = decide (a = b) := by
  rw [Lib.toList_data, Lib.toList_data]
  obtain ⟨⟨x⟩⟩ := a
  obtain ⟨⟨y⟩⟩ := b
  rw [Bool.eq_iff_iff]
  simp
theorem cut_next {vs : List Value} {xss : List (List Int)} {n : Nat} (hv : vs.length = n) (hx : xss.length = n) (A B C D E : Asn) {X Y : Asn} {R : List Asn} (h : X = Y) : (A :: B :: C :: D :: E :: (List.zipWith intsR vs xss ++ X :: R))[n + 5]? = some Y := by
  show (List.zipWith intsR vs xss ++ X :: R)[n]? = some Y
  have e : (List.zipWith intsR vs xss).length = n := by rw [List.length_zipWith, hv, hx, Nat.min_self]
  rw [List.getElem?_append_right (by omega), e, Nat.sub_self, ← h]
  rfl
theorem cut_row {vs : List Value} {xss : List (List Int)} {i : Nat} {u : Value} {l : List Int} (hu : vs[i]? = some u) (hl : xss[i]? = some l) (A B C D E : Asn) {R : List Asn} : (A :: B :: C :: D :: E :: (List.zipWith intsR vs xss ++ R))[i + 5]? = some (intsR u l) := by
  show (List.zipWith intsR vs xss ++ R)[i]? = some _
  have h1 := (List.getElem?_eq_some_iff.1 hu).1
  have h2 := (List.getElem?_eq_some_iff.1 hl).1
  rw [List.getElem?_append_left (by rw [List.length_zipWith]; omega)]
  exact zip_some hu hl
theorem cut_perm {α : Type} (S B C P M I : α) (Z R : List α) : (S :: B :: C :: P :: M :: (Z ++ I :: R)).Perm (C :: P :: M :: B :: I :: S :: (Z ++ R)) := by
  have h1 : (S :: B :: C :: P :: M :: (Z ++ I :: R)).Perm (S :: B :: C :: P :: M :: I :: (Z ++ R)) := ((((List.perm_middle.cons M).cons P).cons C).cons B).cons S
  have h2 : (C :: P :: M :: B :: I :: (Z ++ R)).Perm (B :: C :: P :: M :: I :: (Z ++ R)) := List.perm_middle (l₁ := [C, P, M]) (l₂ := I :: (Z ++ R)) (a := B)
  have h3 : (C :: P :: M :: B :: I :: S :: (Z ++ R)).Perm (S :: C :: P :: M :: B :: I :: (Z ++ R)) := List.perm_middle (l₁ := [C, P, M, B, I]) (l₂ := Z ++ R) (a := S)
  exact h1.trans ((h2.symm.cons S).trans h3.symm)
theorem cut_perm2 {α : Type} (M P C B I S : α) (Z R : List α) : (M :: P :: C :: B :: I :: S :: (Z ++ R)).Perm (S :: B :: C :: P :: M :: (Z ++ I :: R)) := by
  have h1 : (S :: B :: C :: P :: M :: (Z ++ I :: R)).Perm (S :: B :: C :: P :: M :: I :: (Z ++ R)) := ((((List.perm_middle.cons M).cons P).cons C).cons B).cons S
  have h2 : (M :: P :: C :: B :: I :: S :: (Z ++ R)).Perm (S :: M :: P :: C :: B :: I :: (Z ++ R)) := List.perm_middle (l₁ := [M, P, C, B, I]) (l₂ := Z ++ R) (a := S)
  have h3 : (M :: P :: C :: B :: I :: (Z ++ R)).Perm (B :: M :: P :: C :: I :: (Z ++ R)) := List.perm_middle (l₁ := [M, P, C]) (l₂ := I :: (Z ++ R)) (a := B)
  have h4 : (M :: P :: C :: I :: (Z ++ R)).Perm (C :: M :: P :: I :: (Z ++ R)) := List.perm_middle (l₁ := [M, P]) (l₂ := I :: (Z ++ R)) (a := C)
  exact h2.trans ((((h3.trans ((h4.trans ((List.Perm.swap P M _).cons C)).cons B)).cons S)).trans h1.symm)
theorem insCells_set {xs : List Ins} {i : Nat} {x : Ins} {s : ByteArray} (h : xs[i]? = some x) : (insCells xs).set (i * 5 + 2) (.string s) = insCells (xs.set i { x with to := s }) := by
  induction xs generalizing i with
  | nil => simp at h
  | cons y xs ih =>
    cases i with
    | zero =>
      simp at h
      subst h
      rfl
    | succ i =>
      have h' : xs[i]? = some x := by simpa using h
      have e : (i + 1) * 5 + 2 = y.cells.length + (i * 5 + 2) := by rw [Ins.cells_len]; omega
      unfold insCells at ih ⊢
      rw [List.flatMap_cons, List.set_cons_succ, List.flatMap_cons, ← ih h', e, List.set_append_right _ _ (by omega), Nat.add_sub_cancel_left]
theorem cutRows_len {xss : List (List Int)} {r : Nat} {l0 : List Int} {b : Nat} (h : ∀ l ∈ xss, l.length ≤ b) (hl : xss[r]? = some l0) : ∀ l ∈ cutRows xss r l0, l.length ≤ b + 1 := by
  intro l hm
  unfold cutRows at hm
  rcases List.mem_or_eq_of_mem_set hm with hm | rfl
  · rcases List.mem_append.1 hm with hm | hm
    · have := h l hm; omega
    · rw [List.mem_singleton] at hm
      subst hm
      have h1 := normL_len (l0 ++ [(r : Int)])
      have h2 := h l0 (List.mem_of_getElem? hl)
      rw [List.length_append] at h1
      simp at h1
      omega
  · simp
theorem up_len {l : List Int} {n : Nat} (hp : l.Pairwise (· < ·)) (hb : ∀ y ∈ l, 0 ≤ y ∧ y < (n : Int)) : l.length ≤ n := by
  have hn : (l.map Int.toNat).Nodup := by
    rw [List.nodup_iff_pairwise_ne, List.pairwise_map]
    refine List.Pairwise.imp_of_mem ?_ hp
    intro a b ha hb' hab
    have := hb a ha
    have := hb b hb'
    omega
  have hs : l.map Int.toNat ⊆ List.range n := by
    intro x hx
    obtain ⟨y, hy, rfl⟩ := List.mem_map.1 hx
    have := hb y hy
    rw [List.mem_range]
    omega
  have := List.Nodup.length_le_of_subset hn hs
  simpa using this
theorem Okay.len {xss : List (List Int)} (h : Okay xss) {l : List Int} (hl : l ∈ xss) : l.length ≤ xss.length := up_len (h l hl).1 (h l hl).2

theorem mendL_up {r more : Int} {l : List Int} (hp : l.Pairwise (· < ·)) (hb : ∀ y ∈ l, y < more) : (mendL r more l).Pairwise (· < ·) := by
  unfold mendL
  rw [List.pairwise_append]
  refine ⟨hp.filter _, by simp, fun a ha b hb' => ?_⟩
  rw [List.mem_singleton] at hb'
  subst hb'
  exact hb a (List.mem_filter.1 ha).1
theorem mendL_mem {r more y : Int} {l : List Int} : y ∈ mendL r more l ↔ (y ∈ l ∧ y ≠ r) ∨ y = more := by
  unfold mendL
  simp

/-- What a cut leaves is in order again. -/
theorem cut_okay {acts : List Ins} {xss : List (List Int)} {to : ByteArray} {r : Nat} {l : List Int} (h : Okay xss) (hl : xss[r]? = some l) (i : Nat) : Okay (mendTo acts to r xss.length (cutRows xss r l) i) := by
  have hr : r < xss.length := (List.getElem?_eq_some_iff.1 hl).1
  have hlen : (mendTo acts to r xss.length (cutRows xss r l) i).length = xss.length + 1 := by rw [mendTo_len, cutRows]; simp
  have base : ∀ (j : Nat) (m : List Int), (cutRows xss r l)[j]? = some m → m.Pairwise (· < ·) ∧ (∀ y ∈ m, 0 ≤ y ∧ y < (xss.length : Int)) := by
    intro j m hm
    unfold cutRows at hm
    by_cases hj : r = j
    · subst hj
      rw [List.getElem?_set_self (by simp; omega)] at hm
      obtain rfl : [] = m := by simpa using hm
      simp
    · rw [List.getElem?_set_ne hj] at hm
      rcases Nat.lt_or_ge j xss.length with h1 | h1
      · rw [List.getElem?_append_left h1] at hm
        have h2 := h m (List.mem_of_getElem? hm)
        exact ⟨h2.1, h2.2⟩
      · rw [List.getElem?_append_right h1] at hm
        rcases hx : j - xss.length with _ | q
        · rw [hx] at hm
          obtain rfl : normL (l ++ [(r : Int)]) = m := by simpa using hm
          refine ⟨normL_up _, fun y hy => ?_⟩
          rw [normL_mem, List.mem_append, List.mem_singleton] at hy
          rcases hy with hy | rfl
          · have h2 := (h l (List.mem_of_getElem? hl)).2 y hy
            exact h2
          · omega
        · rw [hx] at hm
          simp at hm
  intro m hm
  obtain ⟨j, hj⟩ := List.mem_iff_getElem?.1 hm
  rw [hlen]
  obtain ⟨m0, h1, h2⟩ := mendTo_row i hj
  obtain ⟨b1, b2⟩ := base j m0 h1
  rcases h2 with rfl | ⟨rfl, _⟩
  · exact ⟨b1, fun y hy => by have := b2 y hy; omega⟩
  · refine ⟨mendL_up b1 fun y hy => (b2 y hy).2, fun y hy => ?_⟩
    rcases mendL_mem.1 hy with ⟨hy, _⟩ | rfl
    · have := b2 y hy; omega
    · omega
theorem norm_okay {xss : List (List Int)} (h : ∀ l ∈ xss, ∀ y ∈ l, 0 ≤ y ∧ y < (xss.length : Int)) : Okay (xss.map normL) := by
  intro m hm
  obtain ⟨l, hl, rfl⟩ := List.mem_map.1 hm
  rw [List.length_map]
  exact ⟨normL_up _, fun y hy => h l hl y ((normL_mem l y).1 hy)⟩
end Go.Proofs.YtioonfceamgpmaaDoor
