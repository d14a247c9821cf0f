/- Norm, AddPlain, Finds, RefIn, laid together. -/
import Derived.Lib.SlicesCompact
import Derived.Test.YtioonfceamgpmaaGreatDoorJ14
import Derived.Test.YtioonfceamgpmaaGreatDoorJ13
namespace Go.Proofs.YtioonfceamgpmaaGreatDoor
set_option linter.unusedVariables false

/-- A list in order. -/
def sortL (zs : List Int) : List Int := zs.mergeSort fun x y => decide (x ≤ y)
theorem sortL_perm (zs : List Int) : (sortL zs).Perm zs := List.mergeSort_perm _ _
theorem sortL_up (zs : List Int) : (sortL zs).Pairwise (· ≤ ·) := by
  have h := List.pairwise_mergeSort (le := fun x y : Int => decide (x ≤ y)) (fun a b c h1 h2 => by simp at *; omega) (fun a b => by simp; omega) zs
  exact h.imp fun h => by simpa using h
/-- .. each number once. -/
def normL (zs : List Int) : List Int := Lib.compact (sortL zs)

theorem compact_mem (zs : List Int) (x : Int) : x ∈ Lib.compact zs ↔ x ∈ zs := by
  unfold Lib.compact Lib.compactUpTo
  rw [List.mem_map]
  constructor
  · rintro ⟨j, hj, rfl⟩
    rw [List.mem_filter, List.mem_range] at hj
    rw [getElem!_pos _ j (by simpa using hj.1)]
    simp
  · intro hx
    obtain ⟨m, hm, rfl⟩ := List.mem_iff_getElem.1 hx
    have key : ∀ m, (hm : m < zs.length) → ∃ j, j ∈ (List.range zs.length).filter (Lib.keeps zs.toArray) ∧ zs.toArray[j]! = zs[m] := by
      intro m
      induction m with
      | zero =>
        intro hm
        refine ⟨0, ?_, ?_⟩
        · rw [List.mem_filter, List.mem_range]
          exact ⟨hm, Lib.keeps_lt_one _ 0 (by omega)⟩
        · rw [getElem!_pos _ 0 (by simpa using hm)]
          simp
      | succ m ih =>
        intro hm
        have e1 : zs.toArray[m + 1]! = zs[m + 1] := by rw [getElem!_pos _ _ (by simpa using hm)]; simp
        have e2 : zs.toArray[m]! = zs[m] := by rw [getElem!_pos _ _ (by simpa using (show m < zs.length by omega))]; simp
        by_cases e : zs[m + 1] = zs[m]
        · obtain ⟨j, h1, h2⟩ := ih (by omega)
          exact ⟨j, h1, h2.trans e.symm⟩
        · refine ⟨m + 1, ?_, e1⟩
          rw [List.mem_filter, List.mem_range]
          exact ⟨hm, Lib.keeps_pos (by rw [e1, Nat.add_sub_cancel, e2]; exact e)⟩
    exact key m hm
theorem compact_up {zs : List Int} (h : zs.Pairwise (· ≤ ·)) : (Lib.compact zs).Pairwise (· < ·) := by
  unfold Lib.compact Lib.compactUpTo
  rw [List.pairwise_map]
  have hr : ((List.range zs.length).filter (Lib.keeps zs.toArray)).Pairwise (· < ·) := List.Pairwise.filter _ List.pairwise_lt_range
  refine List.Pairwise.imp_of_mem (R := (· < ·)) ?_ hr
  intro i j hi hj hij
  rw [List.mem_filter, List.mem_range] at hi hj
  have hle := List.pairwise_iff_getElem.1 h
  have e : ∀ k (hk : k < zs.length), zs.toArray[k]! = zs[k] := fun k hk => by rw [getElem!_pos _ _ (by simpa using hk)]; simp
  have hne : zs[j]'hj.1 ≠ zs[j - 1]'(by omega) := by
    intro heq
    have := Lib.keeps_neg (d := zs.toArray) (m := j) (by omega) (by rw [e j hj.1, e (j - 1) (by omega)]; exact heq)
    rw [this] at hj
    exact absurd hj.2 (by decide)
  rw [e i hi.1, e j hj.1]
  have h1 : zs[j - 1]'(by omega) ≤ zs[j]'hj.1 := hle (j - 1) j (by omega) hj.1 (by omega)
  by_cases hij2 : i = j - 1
  · subst hij2; omega
  · have h2 : zs[i]'hi.1 ≤ zs[j - 1]'(by omega) := hle i (j - 1) hi.1 (by omega) (by omega)
    omega
theorem compact_len (zs : List Int) : (Lib.compact zs).length ≤ zs.length := by
  unfold Lib.compact Lib.compactUpTo
  rw [List.length_map]
  have := List.length_filter_le (Lib.keeps zs.toArray) (List.range zs.length)
  simpa using this
theorem normL_up (zs : List Int) : (normL zs).Pairwise (· < ·) := compact_up (sortL_up zs)
theorem normL_mem (zs : List Int) (x : Int) : x ∈ normL zs ↔ x ∈ zs := by
  unfold normL
  rw [compact_mem]
  exact (sortL_perm zs).mem_iff
theorem normL_len (zs : List Int) : (normL zs).length ≤ zs.length := by
  have h1 := compact_len (sortL zs)
  have h2 := (sortL_perm zs).length_eq
  unfold normL
  omega
/-- A list that rises is told by what it holds. -/
theorem up_unique {l m : List Int} (hl : l.Pairwise (· < ·)) (hm : m.Pairwise (· < ·)) (h : ∀ x, x ∈ l ↔ x ∈ m) : l = m := by
  have n1 : l.Nodup := hl.imp fun h => by omega
  have n2 : m.Nodup := hm.imp fun h => by omega
  exact List.Perm.eq_of_pairwise (le := (· < ·)) (fun a b _ _ h1 h2 => by omega) hl hm ((List.perm_ext_iff_of_nodup n1 n2).2 h)
theorem normL_of {l zs : List Int} (hl : l.Pairwise (· < ·)) (h : ∀ x, x ∈ l ↔ x ∈ zs) : normL zs = l :=
  up_unique (normL_up zs) hl fun x => (normL_mem zs x).trans (h x).symm
theorem normL_self {l : List Int} (hl : l.Pairwise (· < ·)) : normL l = l := normL_of hl fun _ => Iff.rfl
end Go.Proofs.YtioonfceamgpmaaGreatDoor

namespace Go.Proofs.YtioonfceamgpmaaGreatDoor
set_option linter.unusedVariables false

def addL (n : Int) : List Int → List Int
  | [] => [n]
  | x :: t => if x < n then x :: addL n t else if x = n then x :: t else n :: x :: t
theorem addL_mem (n x : Int) (l : List Int) : x ∈ addL n l ↔ x ∈ l ∨ x = n := by
  induction l with
  | nil => simp [addL]
  | cons y t ih =>
    unfold addL
    split
    · rw [List.mem_cons, ih, List.mem_cons, or_assoc]
    · split
      · rename_i h
        subst h
        simp only [List.mem_cons]
        constructor
        · exact .inl
        · rintro (h | h)
          · exact h
          · exact .inl h
      · simp only [List.mem_cons]
        constructor
        · rintro (h | h)
          · exact .inr h
          · exact .inl h
        · rintro (h | h)
          · exact .inr h
          · exact .inl h
theorem addL_up (n : Int) (l : List Int) (h : l.Pairwise (· < ·)) : (addL n l).Pairwise (· < ·) := by
  induction l with
  | nil => simp [addL]
  | cons y t ih =>
    obtain ⟨h1, h2⟩ := List.pairwise_cons.1 h
    unfold addL
    split
    · rename_i hlt
      refine List.pairwise_cons.2 ⟨fun z hz => ?_, ih h2⟩
      rcases (addL_mem n z t).1 hz with hz | rfl
      · exact h1 z hz
      · exact hlt
    · split
      · exact h
      · refine List.pairwise_cons.2 ⟨fun z hz => ?_, h⟩
        rcases List.mem_cons.1 hz with rfl | hz
        · omega
        · have := h1 z hz
          omega
theorem addL_norm {n : Int} {l : List Int} (h : l.Pairwise (· < ·)) : normL (l ++ [n]) = addL n l :=
  normL_of (addL_up n l h) fun x => by rw [addL_mem]; simp
def addsL (l : List Int) (ns : List Int) : List Int := ns.foldl (fun l n => addL n l) l
theorem addsL_up {ns : List Int} : ∀ {l : List Int}, l.Pairwise (· < ·) → (addsL l ns).Pairwise (· < ·) := by
  induction ns with
  | nil => exact fun h => h
  | cons n ns ih => exact fun h => ih (addL_up n _ h)
theorem addsL_mem {ns : List Int} (x : Int) : ∀ {l : List Int}, x ∈ addsL l ns ↔ x ∈ l ∨ x ∈ ns := by
  induction ns with
  | nil => intro l; simp [addsL]
  | cons n ns ih =>
    intro l
    have h1 : x ∈ addsL (addL n l) ns ↔ _ := ih (l := addL n l)
    rw [addL_mem] at h1
    show x ∈ addsL (addL n l) ns ↔ _
    rw [h1, List.mem_cons, or_assoc]
theorem addsL_norm (ns : List Int) : addsL [] ns = normL ns :=
  (normL_of (addsL_up List.Pairwise.nil) fun x => by rw [addsL_mem]; simp).symm
theorem addsL_take {ns : List Int} {k : Nat} (hk : k < ns.length) : addL ns[k] (addsL [] (ns.take k)) = addsL [] (ns.take (k + 1)) := by
  have e : ns.take (k + 1) = ns.take k ++ [ns[k]] := by rw [List.take_add_one, List.getElem?_eq_getElem hk]; rfl
  rw [e]
  unfold addsL
  rw [List.foldl_append]
  rfl
/-- Where the number goes: the numbers ahead of it are less. -/
def addAt (n : Int) : List Int → Nat
  | [] => 0
  | x :: t => if x < n then addAt n t + 1 else 0
theorem addAt_le (n : Int) (l : List Int) : addAt n l ≤ l.length := by
  induction l with
  | nil => exact Nat.le_refl _
  | cons x t ih =>
    unfold addAt
    split
    · simp only [List.length_cons]; omega
    · omega
theorem addAt_lt (n : Int) (l : List Int) (k : Nat) (hk : k < l.length) (h : k < addAt n l) : l[k] < n := by
  induction l generalizing k with
  | nil => simp at hk
  | cons x t ih =>
    unfold addAt at h
    split at h
    · cases k with
      | zero => assumption
      | succ k => exact ih k (by simpa using hk) (by omega)
    · omega
theorem addAt_not (n : Int) (l : List Int) (hk : addAt n l < l.length) : ¬ l[addAt n l] < n := by
  induction l with
  | nil => simp at hk
  | cons x t ih =>
    by_cases h : x < n
    · have e : addAt n (x :: t) = addAt n t + 1 := by
        conv => lhs; unfold addAt
        rw [if_pos h]
      have h1 : addAt n t < t.length := by rw [e] at hk; simpa using hk
      simp only [e, List.getElem_cons_succ]
      exact ih h1
    · have e : addAt n (x :: t) = 0 := by
        conv => lhs; unfold addAt
        rw [if_neg h]
      simp only [e, List.getElem_cons_zero]
      exact h
theorem addL_at (n : Int) (l : List Int) : addL n l = if l[addAt n l]? = some n then l else l.take (addAt n l) ++ [n] ++ l.drop (addAt n l) := by
  induction l with
  | nil => simp [addL, addAt]
  | cons x t ih =>
    by_cases h : x < n
    · have e : addAt n (x :: t) = addAt n t + 1 := by
        conv => lhs; unfold addAt
        rw [if_pos h]
      have e2 : addL n (x :: t) = x :: addL n t := by
        conv => lhs; unfold addL
        rw [if_pos h]
      rw [e, e2, ih, List.getElem?_cons_succ]
      split <;> simp
    · have e : addAt n (x :: t) = 0 := by
        conv => lhs; unfold addAt
        rw [if_neg h]
      have e2 : addL n (x :: t) = if x = n then x :: t else n :: x :: t := by
        conv => lhs; unfold addL
        rw [if_neg h]
      rw [e, e2, List.getElem?_cons_zero]
      by_cases h2 : x = n
      · rw [if_pos h2, if_pos (by rw [h2])]
      · rw [if_neg h2, if_neg (by simpa using h2)]
        rfl
end Go.Proofs.YtioonfceamgpmaaGreatDoor

namespace Go.Proofs.YtioonfceamgpmaaGreatDoor
open Go.RowKit
set_option linter.unusedVariables false

def idxI (x : Int) : List Int → Nat → Int
  | [], _ => -1
  | y :: l, k => if x = y then (k : Int) else idxI x l (k + 1)
theorem idxI_nonneg (x : Int) : ∀ (l : List Int) (k : Nat), (0 ≤ idxI x l k) ↔ x ∈ l := by
  intro l
  induction l with
  | nil => intro k; simp [idxI]
  | cons y l ih =>
    intro k
    by_cases e : x = y
    · subst e; simp [idxI]
    · simp [idxI, e, ih]

theorem index_any {xs : List Int} {w : World} {v : Value} (h : IntsAt w v xs) (x : Int) :
    Calls Tryz.prog 56 #[v, .int .i64 x] w fun e w' => e = .returned (.int .i64 (idxI x xs 0)) ∧ w = w' := by
  obtain ⟨A, c, rfl, hm⟩ := h.shape
  unfold maxLen at hm
  have hm' : (xs.length : Int) ≤ 9223372036854775807 := by omega
  go_enter Tryz.func56, Tryz.ntmps56
  go_wp2_with fail
  go_loop [8] (fun i => ∃ (k : Nat), k ≤ xs.length ∧ i = .int .i64 k ∧ Hid (idxI x xs 0 = idxI x (xs.drop k) k)) (fun i => xs.length - (intOf i).toNat)
  case atStart => exact ⟨0, Nat.zero_le _, rfl, rfl⟩
  case round =>
    obtain ⟨k, hk, rfl, hd⟩ := hrel
    by_cases hlt : k < xs.length
    · obtain ⟨ad, c', e, h3⟩ := h.at_ hlt
      cases e
      have b1 : (k : Int) < (xs.length : Int) := by omega
      have b2 : (0 : Int) ≤ (k : Int) := by omega
      have hd2 := hd.out
      rw [List.drop_eq_getElem_cons hlt, idxI] at hd2
      generalize xs[k] = y at h3 hd2
      by_cases e : x = y
      · subst e
        rw [if_pos rfl] at hd2
        have hd' := Lib.hid hd2
        clear hd hd2
        have b3 : (x == x) = true := by simp
        go_wp2_with fail
        go_ret
        exact ⟨by rw [hd'.out]; rfl, rfl⟩
      · rw [if_neg e] at hd2
        have hd' := Lib.hid hd2
        clear hd hd2
        have b3 : (x == y) = false := by simpa using e
        go_wp2_with fail
        all_goals exact ⟨⟨k + 1, by omega, by go_num, hd'⟩, by simp [intOf]; omega⟩
    · obtain rfl : k = xs.length := by omega
      have hd2 := hd.out
      rw [List.drop_length, idxI] at hd2
      have hd' := Lib.hid hd2
      clear hd hd2
      go_wp2_with fail
      go_ret
      exact ⟨by rw [hd'.out]; rfl, rfl⟩

theorem contains_any {xs : List Int} {w : World} {v : Value} (h : IntsAt w v xs) (x : Int) :
    Calls Tryz.prog 35 #[v, .int .i64 x] w fun e w' => e = .returned (.bool (xs.contains x)) ∧ w = w' := by
  have hi := index_any h x
  have e : decide (0 ≤ idxI x xs 0) = xs.contains x := by
    rw [Bool.eq_iff_iff]
    simp [idxI_nonneg]
  have e' := Lib.hid e
  clear e
  go_enter Tryz.func35, Tryz.ntmps35
  go_wp2_with (go_at_call 56; refine hi.mono ?_; rintro e w' ⟨rfl, rfl⟩)
  go_ret
  exact ⟨by rw [← e'.out]; rfl, rfl⟩

/-- The closure that Round sorts by. -/
theorem less_any {xs ys : List Int} {w : World} {v u : Value} (h1 : IntsAt w v xs) (h2 : IntsAt w u ys) (hx : 0 < xs.length) (hy : 0 < ys.length) (bx : 0 ≤ xs[0] ∧ xs[0] ≤ 1024) (by' : 0 ≤ ys[0] ∧ ys[0] ≤ 1024) :
    Calls Tryz.prog 37 #[v, u] w fun e w' => e = .returned (.int .i64 (xs[0] - ys[0])) ∧ ∃ n, w' = w.drewN n := by
  obtain ⟨ad, c, rfl, a1⟩ := h1.at_ hx
  obtain ⟨ad', c', rfl, a2⟩ := h2.at_ hy
  rw [add_zero'] at a1 a2
  have b1 : (0 : Int) < (xs.length : Int) := by omega
  have b2 : (0 : Int) < (ys.length : Int) := by omega
  generalize xs[0] = x at bx a1 ⊢
  generalize ys[0] = y at by' a2 ⊢
  obtain ⟨c1, c2⟩ := bx
  obtain ⟨c3, c4⟩ := by'
  clear h1 h2
  go_enter Tryz.func37, Tryz.ntmps37
  go_wp2_with fail
  go_quiet (fail)
  go_wp2_with fail
  go_ret
  exact ⟨rfl, nq, rfl⟩
end Go.Proofs.YtioonfceamgpmaaGreatDoor

namespace Go.Proofs.YtioonfceamgpmaaGreatDoor
open Go.RowKit
set_option linter.unusedVariables false

theorem refin_any {xs : List Int} {w : World} {v : Value} (h : IntsAt w v xs) (x : Int) :
    Calls Tryz.prog 28 #[v, .int .i64 x] w fun e w' => e = .returned (.bool (xs.contains x)) ∧ w = w' := by
  obtain ⟨A, c, rfl, hm⟩ := h.shape
  unfold maxLen at hm
  have hm' : (xs.length : Int) ≤ 9223372036854775807 := by omega
  go_enter Tryz.func28, Tryz.ntmps28
  go_wp2_with fail
  go_loop [5] (fun i => ∃ (k : Nat), k ≤ xs.length ∧ i = .int .i64 k ∧ Hid (xs.contains x = (xs.drop k).contains x)) (fun i => xs.length - (intOf i).toNat)
  case atStart => exact ⟨0, Nat.zero_le _, rfl, rfl⟩
  case round =>
    obtain ⟨k, hk, rfl, hd⟩ := hrel
    by_cases hlt : k < xs.length
    · obtain ⟨ad, c', e, h3⟩ := h.at_ hlt
      cases e
      have b1 : (k : Int) < (xs.length : Int) := by omega
      have b2 : (0 : Int) ≤ (k : Int) := by omega
      have hd2 := hd.out
      rw [List.drop_eq_getElem_cons hlt, List.contains_cons] at hd2
      generalize xs[k] = y at h3 hd2
      by_cases e : x = y
      · subst e
        rw [beq_self_eq_true, Bool.true_or] at hd2
        have hd' := Lib.hid hd2
        clear hd hd2
        have b3 : (x == x) = true := by simp
        go_wp2_with fail
        go_ret
        have q := hd'.out
        rw [List.contains_eq_mem] at q
        exact ⟨by rw [q]; rfl, rfl⟩
      · have e2 : (x == y) = false := by simpa using e
        rw [e2, Bool.false_or] at hd2
        have hd' := Lib.hid hd2
        clear hd hd2
        have b3 : (y == x) = false := by simpa using Ne.symm e
        go_wp2_with fail
        all_goals exact ⟨⟨k + 1, by omega, by go_num, hd'⟩, by simp [intOf]; omega⟩
    · obtain rfl : k = xs.length := by omega
      have hd2 := hd.out
      rw [List.drop_length, List.contains_nil] at hd2
      have hd' := Lib.hid hd2
      clear hd hd2
      go_wp2_with fail
      go_ret
      have q := hd'.out
      rw [List.contains_eq_mem] at q
      exact ⟨by rw [q]; rfl, rfl⟩
end Go.Proofs.YtioonfceamgpmaaGreatDoor
