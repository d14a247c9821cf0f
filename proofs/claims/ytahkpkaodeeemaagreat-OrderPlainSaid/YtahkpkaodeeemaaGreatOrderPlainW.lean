/- shuntlaw16.OrderPlain, walked. -/
import Derived.Test.YtahkpkaodeeemaaGreatOrderRoundW
namespace Go.Proofs.YtahkpkaodeeemaaGreat
open Go.RowKit
set_option linter.unusedVariables false

/-- The needs backwards as far as the first i. -/
def backTo (n i : Nat) : List (List Int) := (List.range n).map fun j => if j < i ∧ j + 1 < n then [(j : Int) + 1] else []
theorem backTo_len (n i : Nat) : (backTo n i).length = n := by simp [backTo]
theorem backTo_zero (n : Nat) : backTo n 0 = List.replicate n [] := by
  apply List.ext_getElem
  · simp [backTo]
  · intro j h1 h2
    simp [backTo]
theorem backTo_set {n i : Nat} (h : i + 1 < n) : (backTo n i).set i [(i : Int) + 1] = backTo n (i + 1) := by
  apply List.ext_getElem
  · simp [backTo]
  · intro j h1 h2
    rw [List.getElem_set]
    by_cases e : i = j
    · subst e
      simp [backTo, h]
    · have e2 : j < i + 1 ↔ j < i := by omega
      simp [backTo, e, e2]
theorem backTo_end {n i : Nat} (h : i + 1 = n) : backTo n i = backTo n (i + 1) := by
  apply List.ext_getElem
  · simp [backTo]
  · intro j h1 h2
    have e2 : (j < i + 1 ∧ j + 1 < n) ↔ (j < i ∧ j + 1 < n) := by omega
    simp only [backTo, List.getElem_map, List.getElem_range, e2]
theorem backTo_full (n : Nat) : backTo n n = longX n false := by
  apply List.ext_getElem
  · simp [backTo, longX]
  · intro j h1 h2
    have hj : j < n := by simpa [backTo] using h1
    simp [backTo, longX, hj]

theorem plain_out {n : Int} {b : Bool} {w : World} (h : n < 1 ∨ 100 < n) :
    Calls Tryz.prog 5 #[.int .i64 n, .bool b] w fun e w' => e = .returned (.bool true) ∧ Below w.heap.size w w' := by
  have hal := Lib.hid (alive16_any w)
  rcases h with h | h
  · go_enter Tryz.func5, Tryz.ntmps5
    go_wp2_with (go_at_call 6; refine hal.out.mono ?_; rintro e w1 ⟨rfl, hb1⟩)
    go_ret
    exact ⟨rfl, hb1⟩
  · have h2 : ¬ n < 1 := by omega
    go_enter Tryz.func5, Tryz.ntmps5
    go_wp2_with (go_at_call 6; refine hal.out.mono ?_; rintro e w1 ⟨rfl, hb1⟩)
    go_ret
    exact ⟨rfl, hb1⟩

set_option maxRecDepth 100000 in
set_option maxHeartbeats 2000000 in
theorem plain_fwd {n : Nat} {w : World} (h1 : 1 ≤ n) (hn : n ≤ 100) :
    Calls Tryz.prog 5 #[.int .i64 n, .bool false] w fun e w' => e = .returned (.bool true) ∧ Below w.heap.size w w' := by
  have hal := Lib.hid (alive16_any w)
  obtain ⟨i0, hinf, hz0, hz1, hz2⟩ := info_parts info_ins
  obtain ⟨i1, hi1, hz10, hz11, hz12⟩ := info_parts info_rowsQ
  have b1 : (1 : Int) ≤ (n : Int) := by omega
  have b2 : (n : Int) ≤ 100 := by omega
  have hmk0 := fun W : World => run_make_n (P := Tryz.prog) 24 27 i1 (.slice none 0 0) 24 Tryz.underlying24 hi1 hz10 hz11 hz12 rfl .i64 .i64 n (by omega) (by unfold maxLen; omega) W
  have hmk1 := fun W : World => run_make_any (P := Tryz.prog) 23 26 i0 _ 5 56 Tryz.underlying23 hinf hz0 hz1 hz2 .i64 .i64 n (by omega) (by unfold maxLen; omega) W
  go_enter Tryz.func5, Tryz.ntmps5
  go_wp2_with (go_at_call 6; refine hal.out.mono ?_; rintro e w1 ⟨rfl, hb1⟩; (have hb1' := Lib.hid hb1); clear hb1)
  have hS1 := ((((Sep.nil w).pure hb1'.out).made5 26 #[.int .i64 0, .string ⟨#[]⟩, .string ⟨#[]⟩, .int .i64 0, .int .i64 0] 5 n (by unfold maxLen; omega)).made 27 (.slice none 0 0) n (by unfold maxLen; omega)).nils n
  simp only [World.size_alloc] at hS1
  have hcl := made_len #[.int .i64 0, .string ⟨#[]⟩, .string ⟨#[]⟩, .int .i64 0, .int .i64 0] (n * 5)
  generalize (madeCells #[.int .i64 0, .string ⟨#[]⟩, .string ⟨#[]⟩, .int .i64 0, .int .i64 0] (n * 5)).toList = cs0 at hS1 hcl
  have hS1' := Lib.hid hS1
  have hcl' := Lib.hid hcl
  clear hS1 hcl
  generalize w1.heap.size + 1 = gN at hS1' ⊢
  generalize w1.heap.size = gA at hS1' ⊢
  go_loopg [8] n (fun g ii wr => ∃ (i : Nat) (cs : List Value), i ≤ n ∧ Hid (g = n - i) ∧ ii = .int .i64 i ∧ Hid (cs.length = n * 5) ∧ Sep w wr (.sl 27 1 (.slice (some ⟨gN, 0, none⟩) n n) n (List.replicate n (.slice none 0 0)) :: .sl 26 5 (.slice (some ⟨gA, 0, none⟩) n n) n cs :: List.zipWith intsR (List.replicate n (.slice none 0 0)) (List.replicate n [])))
  case atStart => exact ⟨0, cs0, by omega, rfl, rfl, hcl', hS1'.out⟩
  case round =>
    obtain ⟨i, cs, hi, hm, rfl, hcsl, hS⟩ := hrel
    by_cases hlt : i < n
    case pos =>
      have c1 : (0 : Int) ≤ (i : Int) := by omega
      have c2 : (i : Int) < (n : Int) := by omega
      obtain ⟨f0, ⟨z0, d0⟩, S0⟩ := one_store hS hcsl.out (i * 5) (by omega) (.int .i64 5)
      obtain ⟨f1, ⟨z1, d1⟩, S1⟩ := one_store S0 (by simpa using hcsl.out) (i * 5 + 1) (by omega) (.string ⟨#[97]⟩)
      obtain ⟨f2, ⟨z2, d2⟩, S2⟩ := one_store S1 (by simpa using hcsl.out) (i * 5 + 2) (by omega) (.string ⟨#[]⟩)
      obtain ⟨f3, ⟨z3, d3⟩, S3⟩ := one_store S2 (by simpa using hcsl.out) (i * 5 + 3) (by omega) (.int .i64 0)
      obtain ⟨f4, ⟨z4, d4⟩, S4⟩ := one_store S3 (by simpa using hcsl.out) (i * 5 + 4) (by omega) (.int .i64 0)
      have hcl4 : Hid ((((((cs.set (i * 5) (.int .i64 5)).set (i * 5 + 1) (.string ⟨#[97]⟩)).set (i * 5 + 2) (.string ⟨#[]⟩)).set (i * 5 + 3) (.int .i64 0)).set (i * 5 + 4) (.int .i64 0)).length = n * 5) := by have := hcsl.out; simpa [Hid] using this
      have S4' := Lib.hid S4
      clear hS S0 S1 S2 S3 S4 hmk0 hmk1
      go_wp2_with fail
      go_roundg (n - (i + 1))
      case measure => rw [hm.out]; omega
      case rel => exact ⟨i + 1, _, by omega, rfl, by go_num, hcl4, S4'.out⟩
    case neg =>
      have e : i = n := by omega
      subst e
      have hS2 : Sep w wr [rowsR (.slice (some ⟨gN, 0, none⟩) i i) (List.replicate i ([] : List Int))] := by
        have hS0 := Sep.drop 1 (hS.perm (List.Perm.swap _ _ _))
        refine Sep.list_shut (vs := List.replicate i (.slice none 0 0)) (by simp) ?_
        rw [List.length_replicate]
        simpa using hS0
      have hb2 := Lib.hid hS2.below
      have hN := hS2.rows 0 rfl
      have q1 := Lib.hid (order_any (Aa := some ⟨gA, 0, none⟩) (ca := i) (m := i) hN (by simp) (by omega) (nils_ok (by omega)) (nils_none (by omega)) (order_none (by omega)))
      have hi9 := Lib.hid hi
      clear hS hS2 hN hmk0 hmk1
      unfold treeE at *
      go_wp2_with (first
        | (go_at_call 7; refine q1.out.mono ?_; clear q1; rintro e w2 ⟨v, rfl, hS3⟩; obtain ⟨gL, cL, rfl, hL⟩ := ints_read (by simp; omega) hS3; have hb3' := Lib.hid hS3.below; clear hS3; simp only [List.length_map, List.length_range] at hL ⊢; have hL' := Lib.hid hL; clear hL)
        | (go_at_call 8; refine (num_any16 _ _).mono ?_; rintro e w3 ⟨rfl, rfl⟩))
      have hD : ∀ k, k < i → w2.cell? ⟨gL, k, none⟩ = some (.int .i64 (k : Int)) := fun k hk => by
        have := hL'.out k (by simpa using hk)
        simpa using this
      have hD' := Lib.hid hD
      clear hD hL'
      go_loopg [11] i (fun g jj wz => ∃ j : Nat, j ≤ i ∧ Hid (g = i - j) ∧ jj = .int .i64 j ∧ Below w2.heap.size w2 wz)
      case atStart => exact ⟨0, by omega, rfl, rfl, Below.refl _ _⟩
      case round =>
        obtain ⟨j, hj, hm, rfl, hB⟩ := hrel
        by_cases hlt : j < i
        case pos =>
          have c1 : (0 : Int) ≤ (j : Int) := by omega
          have c2 : (j : Int) < (i : Int) := by omega
          have hD0 := hD'.out j hlt
          have d0 : _ = some (Value.int .i64 (j : Int)) := (hB.cell (p := ⟨gL, j, none⟩) (World.block_lt_of_cell? _ _ hD0)).trans hD0
          clear hD0
          have hB' := Lib.hid hB
          clear hB
          go_wp2_with fail
          go_roundg (i - (j + 1))
          case measure => rw [hm.out]; omega
          case rel => exact ⟨j + 1, by omega, rfl, by go_num, hB'.out⟩
        case neg =>
          have hB' := Lib.hid hB
          clear hB
          have c2 : ¬ (j : Int) < (i : Int) := by omega
          go_wp2_with fail
          go_ret
          exact ⟨rfl, hb2.out.trans ((hb3'.out.trans (hB'.out.mono hb3'.out.size)).mono hb2.out.size)⟩
set_option maxRecDepth 100000 in
set_option maxHeartbeats 2000000 in
theorem plain_back {n : Nat} {w : World} (h1 : 1 ≤ n) (hn : n ≤ 100) :
    Calls Tryz.prog 5 #[.int .i64 n, .bool true] w fun e w' => e = .returned (.bool true) ∧ Below w.heap.size w w' := by
  have hal := Lib.hid (alive16_any w)
  obtain ⟨i0, hinf, hz0, hz1, hz2⟩ := info_parts info_ins
  obtain ⟨i1, hi1, hz10, hz11, hz12⟩ := info_parts info_rowsQ
  have b1 : (1 : Int) ≤ (n : Int) := by omega
  have b2 : (n : Int) ≤ 100 := by omega
  have hmk0 := fun W : World => run_make_n (P := Tryz.prog) 24 27 i1 (.slice none 0 0) 24 Tryz.underlying24 hi1 hz10 hz11 hz12 rfl .i64 .i64 n (by omega) (by unfold maxLen; omega) W
  have hmk1 := fun W : World => run_make_any (P := Tryz.prog) 23 26 i0 _ 5 56 Tryz.underlying23 hinf hz0 hz1 hz2 .i64 .i64 n (by omega) (by unfold maxLen; omega) W
  go_enter Tryz.func5, Tryz.ntmps5
  go_wp2_with (go_at_call 6; refine hal.out.mono ?_; rintro e w1 ⟨rfl, hb1⟩; (have hb1' := Lib.hid hb1); clear hb1)
  have hS1 := ((((Sep.nil w).pure hb1'.out).made5 26 #[.int .i64 0, .string ⟨#[]⟩, .string ⟨#[]⟩, .int .i64 0, .int .i64 0] 5 n (by unfold maxLen; omega)).made 27 (.slice none 0 0) n (by unfold maxLen; omega)).nils n
  simp only [World.size_alloc] at hS1
  have hcl := made_len #[.int .i64 0, .string ⟨#[]⟩, .string ⟨#[]⟩, .int .i64 0, .int .i64 0] (n * 5)
  generalize (madeCells #[.int .i64 0, .string ⟨#[]⟩, .string ⟨#[]⟩, .int .i64 0, .int .i64 0] (n * 5)).toList = cs0 at hS1 hcl
  rw [← backTo_zero] at hS1
  have hS1' := Lib.hid hS1
  have hcl' := Lib.hid hcl
  clear hS1 hcl
  generalize w1.heap.size + 1 = gN at hS1' ⊢
  generalize w1.heap.size = gA at hS1' ⊢
  go_loopg [8] n (fun g ii wr => ∃ (i : Nat) (vs cs : List Value), i ≤ n ∧ Hid (g = n - i) ∧ ii = .int .i64 i ∧ Hid (vs.length = n) ∧ Hid (cs.length = n * 5) ∧ Sep w wr (.sl 27 1 (.slice (some ⟨gN, 0, none⟩) n n) n vs :: .sl 26 5 (.slice (some ⟨gA, 0, none⟩) n n) n cs :: List.zipWith intsR vs (backTo n i)))
  case atStart => exact ⟨0, _, cs0, by omega, rfl, rfl, by simp [Hid], hcl', hS1'.out⟩
  case round =>
    obtain ⟨i, vs, cs, hi, hm, rfl, hvl, hcsl, hS⟩ := hrel
    by_cases hlt : i < n
    case pos =>
      have c1 : (0 : Int) ≤ (i : Int) := by omega
      have c2 : (i : Int) < (n : Int) := by omega
      obtain ⟨f0, ⟨z0, d0⟩, S0⟩ := one_store hS hcsl.out (i * 5) (by omega) (.int .i64 5)
      obtain ⟨f1, ⟨z1, d1⟩, S1⟩ := one_store S0 (by simpa using hcsl.out) (i * 5 + 1) (by omega) (.string ⟨#[97]⟩)
      obtain ⟨f2, ⟨z2, d2⟩, S2⟩ := one_store S1 (by simpa using hcsl.out) (i * 5 + 2) (by omega) (.string ⟨#[]⟩)
      obtain ⟨f3, ⟨z3, d3⟩, S3⟩ := one_store S2 (by simpa using hcsl.out) (i * 5 + 3) (by omega) (.int .i64 0)
      obtain ⟨f4, ⟨z4, d4⟩, S4⟩ := one_store S3 (by simpa using hcsl.out) (i * 5 + 4) (by omega) (.int .i64 0)
      have hcl4 : Hid ((((((cs.set (i * 5) (.int .i64 5)).set (i * 5 + 1) (.string ⟨#[97]⟩)).set (i * 5 + 2) (.string ⟨#[]⟩)).set (i * 5 + 3) (.int .i64 0)).set (i * 5 + 4) (.int .i64 0)).length = n * 5) := by have := hcsl.out; simpa [Hid] using this
      have S4' := Lib.hid S4
      by_cases hlt2 : i + 1 < n
      case pos =>
        have c3 : (i : Int) + 1 < (n : Int) := by omega
        have a0 := S4.frozenAt 0 rfl i
        have a1 := at_some (S4.cellAt 0 rfl i (by omega)) (by have := hvl.out; omega)
        have a2 := (S4.alloc (.cells #[.int .i64 ((i : Int) + 1)] 3)).frozenAt 0 rfl i
        have a3 := at_some ((S4.alloc (.cells #[.int .i64 ((i : Int) + 1)] 3)).cellAt 0 rfl i (by omega)) (by have := hvl.out; omega)
        obtain ⟨y1, a1⟩ := a1
        obtain ⟨y3, a3⟩ := a3
        clear hS S0 S1 S2 S3 S4
        go_wp2_with fail
        have hS5 := ring_in (i := i) (x := (i : Int) + 1) hvl.out (backTo_len n i) hlt S4'.out
        rw [backTo_set hlt2] at hS5
        simp only [setCell_size] at hS5
        have hS5' := Lib.hid hS5
        clear hS5 S4' hmk0 hmk1
        go_roundg (n - (i + 1))
        case measure => rw [hm.out]; omega
        case rel => exact ⟨i + 1, _, _, by omega, rfl, by go_num, Lib.hid (by rw [List.length_set]; exact hvl.out), hcl4, hS5'.out⟩
      case neg =>
        have c3 : ¬ (i : Int) + 1 < (n : Int) := by omega
        rw [backTo_end (show i + 1 = n by omega)] at S4
        have S5 := Lib.hid S4
        clear hS S0 S1 S2 S3 S4 S4' hmk0 hmk1
        go_wp2_with fail
        go_roundg (n - (i + 1))
        case measure => rw [hm.out]; omega
        case rel => exact ⟨i + 1, _, _, by omega, rfl, by go_num, hvl, hcl4, S5.out⟩
    case neg =>
      have e : i = n := by omega
      subst e
      have hS2 : Sep w wr [rowsR (.slice (some ⟨gN, 0, none⟩) i i) (longX i false)] := by
        rw [backTo_full] at hS
        have hS0 := Sep.drop 1 (hS.perm (List.Perm.swap _ _ _))
        refine Sep.list_shut (vs := vs) (by rw [longX_len]; exact hvl.out) ?_
        rw [longX_len]
        simpa using hS0
      have hb2 := Lib.hid hS2.below
      have hN := hS2.rows 0 rfl
      have q1 := Lib.hid (order_any (Aa := some ⟨gA, 0, none⟩) (ca := i) (m := i) hN (longX_len _ _) (by omega) (back_ok (by omega)) (back_none (by omega)) (order_back h1 (by omega)))
      have hi9 := Lib.hid hi
      clear hS hS2 hN hmk0 hmk1
      unfold treeE at *
      go_wp2_with (first
        | (go_at_call 7; refine q1.out.mono ?_; clear q1; rintro e w2 ⟨v, rfl, hS3⟩; obtain ⟨gL, cL, rfl, hL⟩ := ints_read (by simp; omega) hS3; have hb3' := Lib.hid hS3.below; clear hS3; simp only [List.length_map, List.length_range] at hL ⊢; have hL' := Lib.hid hL; clear hL)
        | (go_at_call 8; refine (num_any16 _ _).mono ?_; rintro e w3 ⟨rfl, rfl⟩))
      have hD : ∀ k, k < i → w2.cell? ⟨gL, k, none⟩ = some (.int .i64 ((i : Int) - 1 - (k : Int))) := fun k hk => by
        have := hL'.out k (by simpa using hk)
        have e9 : ((i - 1 - k : Nat) : Int) = (i : Int) - 1 - (k : Int) := by omega
        rw [← e9]
        simpa using this
      have hD' := Lib.hid hD
      clear hD hL'
      go_loopg [11] i (fun g jj wz => ∃ j : Nat, j ≤ i ∧ Hid (g = i - j) ∧ jj = .int .i64 j ∧ Below w2.heap.size w2 wz)
      case atStart => exact ⟨0, by omega, rfl, rfl, Below.refl _ _⟩
      case round =>
        obtain ⟨j, hj, hm, rfl, hB⟩ := hrel
        by_cases hlt : j < i
        case pos =>
          have c1 : (0 : Int) ≤ (j : Int) := by omega
          have c2 : (j : Int) < (i : Int) := by omega
          have hD0 := hD'.out j hlt
          have d0 : _ = some (Value.int .i64 ((i : Int) - 1 - (j : Int))) := (hB.cell (p := ⟨gL, j, none⟩) (World.block_lt_of_cell? _ _ hD0)).trans hD0
          clear hD0
          have hB' := Lib.hid hB
          clear hB
          go_wp2_with fail
          go_roundg (i - (j + 1))
          case measure => rw [hm.out]; omega
          case rel => exact ⟨j + 1, by omega, rfl, by go_num, hB'.out⟩
        case neg =>
          have hB' := Lib.hid hB
          clear hB
          have c2 : ¬ (j : Int) < (i : Int) := by omega
          go_wp2_with fail
          go_ret
          exact ⟨rfl, hb2.out.trans ((hb3'.out.trans (hB'.out.mono hb3'.out.size)).mono hb2.out.size)⟩
end Go.Proofs.YtahkpkaodeeemaaGreat
