/- slices.Index, slices.Contains over []int; SameNeeds; the document's members and Refused, walked. -/
import Derived.Test.YtahkpkaodeeemaaGreatKit14
namespace Go.Proofs.YtahkpkaodeeemaaGreat
open Go.RowKit
set_option linter.unusedVariables false

def idxI (x : Int) : List Int → Nat → Int
  | [], _ => -1
  | y :: l, k => if x = y then (k : Int) else idxI x l (k + 1)
theorem idxI_nonneg (x : Int) : ∀ (l : List Int) (k : Nat), (0 ≤ idxI x l k) ↔ x ∈ l := by
  intro l
  induction l with
  | nil => intro k; simp [idxI]
  | cons y l ih =>
    intro k
    by_cases e : x = y
    · subst e; simp [idxI]
    · simp [idxI, e, ih]

theorem index_any {xs : List Int} {w : World} {v : Value} (h : IntsAt w v xs) (x : Int) :
    Calls Tryz.prog 47 #[v, .int .i64 x] w fun e w' => e = .returned (.int .i64 (idxI x xs 0)) ∧ w = w' := by
  obtain ⟨A, c, rfl, hm⟩ := h.shape
  unfold maxLen at hm
  have hm' : (xs.length : Int) ≤ 9223372036854775807 := by omega
  go_enter Tryz.func47, Tryz.ntmps47
  go_wp2_with fail
  go_loop [8] (fun i => ∃ (k : Nat), k ≤ xs.length ∧ i = .int .i64 k ∧ Hid (idxI x xs 0 = idxI x (xs.drop k) k)) (fun i => xs.length - (intOf i).toNat)
  case atStart => exact ⟨0, Nat.zero_le _, rfl, rfl⟩
  case round =>
    obtain ⟨k, hk, rfl, hd⟩ := hrel
    by_cases hlt : k < xs.length
    · obtain ⟨ad, c', e, h3⟩ := h.at_ hlt
      cases e
      have b1 : (k : Int) < (xs.length : Int) := by omega
      have b2 : (0 : Int) ≤ (k : Int) := by omega
      have hd2 := hd.out
      rw [List.drop_eq_getElem_cons hlt, idxI] at hd2
      generalize xs[k] = y at h3 hd2
      by_cases e : x = y
      · subst e
        rw [if_pos rfl] at hd2
        have hd' := Lib.hid hd2
        clear hd hd2
        have b3 : (x == x) = true := by simp
        go_wp2_with fail
        go_ret
        exact ⟨by rw [hd'.out]; rfl, rfl⟩
      · rw [if_neg e] at hd2
        have hd' := Lib.hid hd2
        clear hd hd2
        have b3 : (x == y) = false := by simpa using e
        go_wp2_with fail
        all_goals exact ⟨⟨k + 1, by omega, by go_num, hd'⟩, by simp [intOf]; omega⟩
    · obtain rfl : k = xs.length := by omega
      have hd2 := hd.out
      rw [List.drop_length, idxI] at hd2
      have hd' := Lib.hid hd2
      clear hd hd2
      go_wp2_with fail
      go_ret
      exact ⟨by rw [hd'.out]; rfl, rfl⟩

theorem contains_any {xs : List Int} {w : World} {v : Value} (h : IntsAt w v xs) (x : Int) :
    Calls Tryz.prog 27 #[v, .int .i64 x] w fun e w' => e = .returned (.bool (xs.contains x)) ∧ w = w' := by
  have hi := index_any h x
  have e : decide (0 ≤ idxI x xs 0) = xs.contains x := by
    rw [Bool.eq_iff_iff]
    simp [idxI_nonneg]
  have e' := Lib.hid e
  clear e
  go_enter Tryz.func27, Tryz.ntmps27
  go_wp2_with (go_at_call 47; refine hi.mono ?_; rintro e w' ⟨rfl, rfl⟩)
  go_ret
  exact ⟨by rw [← e'.out]; rfl, rfl⟩

/-- The closure that Round sorts by. -/
theorem less_any {xs ys : List Int} {w : World} {v u : Value} (h1 : IntsAt w v xs) (h2 : IntsAt w u ys) (hx : 0 < xs.length) (hy : 0 < ys.length) (bx : 0 ≤ xs[0] ∧ xs[0] ≤ 1024) (by' : 0 ≤ ys[0] ∧ ys[0] ≤ 1024) :
    Calls Tryz.prog 29 #[v, u] w fun e w' => e = .returned (.int .i64 (xs[0] - ys[0])) ∧ ∃ n, w' = w.drewN n := by
  obtain ⟨ad, c, rfl, a1⟩ := h1.at_ hx
  obtain ⟨ad', c', rfl, a2⟩ := h2.at_ hy
  rw [add_zero'] at a1 a2
  have b1 : (0 : Int) < (xs.length : Int) := by omega
  have b2 : (0 : Int) < (ys.length : Int) := by omega
  generalize xs[0] = x at bx a1 ⊢
  generalize ys[0] = y at by' a2 ⊢
  obtain ⟨c1, c2⟩ := bx
  obtain ⟨c3, c4⟩ := by'
  clear h1 h2
  go_enter Tryz.func29, Tryz.ntmps29
  go_wp2_with fail
  go_quiet (fail)
  go_wp2_with fail
  go_ret
  exact ⟨rfl, nq, rfl⟩
end Go.Proofs.YtahkpkaodeeemaaGreat
