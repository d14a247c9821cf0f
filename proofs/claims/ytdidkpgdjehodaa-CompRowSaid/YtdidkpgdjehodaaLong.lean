/- CompLong, walked. -/
import Derived.Test.YtdidkpgdjehodaaLongPlain
namespace Go.Proofs.Ytdidkpgdjehodaa
open Go.RowKit
set_option linter.unusedVariables false

theorem Sep.swap_in {w0 w : World} {X A P : Asn} {Ps : List Asn} {i : Nat} (h : Sep w0 w (X :: A :: Ps)) (hi : Ps[i]? = some P) : Sep w0 w (A :: Ps.set i X) := by
  obtain ⟨e1, e2⟩ := split_at hi
  rw [e2]
  rw [e1] at h
  have hp : (X :: A :: (Ps.take i ++ P :: Ps.drop (i + 1))).Perm (P :: A :: (Ps.take i ++ X :: Ps.drop (i + 1))) := by
    have p1 : (X :: A :: (Ps.take i ++ P :: Ps.drop (i + 1))).Perm (X :: A :: P :: (Ps.take i ++ Ps.drop (i + 1))) := .cons _ (.cons _ List.perm_middle)
    have p2 : (X :: A :: P :: (Ps.take i ++ Ps.drop (i + 1))).Perm (P :: A :: X :: (Ps.take i ++ Ps.drop (i + 1))) :=
      (List.Perm.cons _ (List.Perm.swap _ _ _)).trans ((List.Perm.swap _ _ _).trans (.cons _ (List.Perm.swap _ _ _)))
    exact p1.trans (p2.trans (.cons _ (.cons _ List.perm_middle.symm)))
  exact Sep.drop 1 (h.perm hp)

/-- The lists as far as the first i. -/
def longTo (n i : Nat) : List (List Int) := (List.range n).map fun j => if j < i then [(j : Int) + 1] else []
theorem longTo_len (n i : Nat) : (longTo n i).length = n := by simp [longTo]
theorem longTo_zero (n : Nat) : longTo n 0 = List.replicate n [] := by
  apply List.ext_getElem
  · simp [longTo]
  · intro j h1 h2
    simp [longTo]
theorem longTo_set {n i : Nat} : (longTo n i).set i [(i : Int) + 1] = longTo n (i + 1) := by
  apply List.ext_getElem
  · simp [longTo]
  · intro j h1 h2
    rw [List.getElem_set]
    by_cases e : i = j
    · subst e
      simp [longTo]
    · have e2 : j < i + 1 ↔ j < i := by omega
      simp [longTo, e, e2]
theorem longTo_row {n i : Nat} (hi : i + 1 = n) : longTo n i = longX n false := by
  apply List.ext_getElem
  · simp [longTo, longX]
  · intro j h1 h2
    have e2 : j + 1 < n ↔ j < i := by omega
    simp [longTo, longX, e2]
theorem longTo_ring {n i : Nat} (hi : i + 1 = n) : (longTo n i).set i [0] = longX n true := by
  apply List.ext_getElem
  · simp [longTo, longX]
  · intro j h1 h2
    rw [List.getElem_set]
    by_cases e : i = j
    · subst e
      simp [longX, hi]
    · have h3 : j < n := by simpa [longX] using h2
      have e2 : j + 1 < n := by omega
      have e3 : j < i := by omega
      simp [longTo, longX, e, e2, e3]

/-- A row of one's own is laid into a slice of rows. -/
theorem Sep.row_in {w0 w : World} {g n i : Nat} {vs : List Value} {rows : List (List Int)} {x : Int} (hvl : vs.length = n) (hrl : rows.length = n) (hi : i < n)
    (h : Sep w0 w (.sl 29 1 (.slice (some ⟨g, 0, none⟩) n n) n vs :: List.zipWith intsR vs rows)) :
    Sep w0 ((w.alloc (.cells #[.int .i64 x] 3)).setCell ⟨g, i, none⟩ (.slice (some ⟨w.heap.size, 0, none⟩) 1 1))
      (.sl 29 1 (.slice (some ⟨g, 0, none⟩) n n) n (vs.set i (.slice (some ⟨w.heap.size, 0, none⟩) 1 1)) :: List.zipWith intsR (vs.set i (.slice (some ⟨w.heap.size, 0, none⟩) 1 1)) (rows.set i [x])) := by
  have h1 := h.lit 3 #[.int .i64 x] (by simp [maxLen])
  have h2 := h1.stored 1 rfl i (.slice (some ⟨w.heap.size, 0, none⟩) 1 1)
  rw [zip_set]
  have hz : (List.zipWith intsR vs rows)[i]? = some (intsR (vs[i]'(by omega)) (rows[i]'(by omega))) := zip_some (List.getElem?_eq_getElem _) (List.getElem?_eq_getElem _)
  exact h2.swap_in hz

set_option maxRecDepth 100000 in
theorem long_out {n : Int} {round : Bool} {w : World} (h : n < 2 ∨ 1030 < n) :
    Calls Try.prog 5 #[.int .i64 n, .bool round] w fun e w' => e = .returned (.bool true) ∧ Below w.heap.size w w' := by
  have hal := Lib.hid (alive_any w)
  rcases h with h | h
  · go_enter Try.func5, Try.ntmps5
    go_wp2_with (go_at_call 8; refine hal.out.mono ?_; rintro e w1 ⟨rfl, hb1⟩)
    go_ret
    exact ⟨rfl, hb1⟩
  · have h2 : ¬ n < 2 := by omega
    go_enter Try.func5, Try.ntmps5
    go_wp2_with (go_at_call 8; refine hal.out.mono ?_; rintro e w1 ⟨rfl, hb1⟩)
    go_ret
    exact ⟨rfl, hb1⟩

set_option maxRecDepth 100000 in
set_option maxHeartbeats 2000000 in
theorem long_row_any {n : Nat} {w : World} (h2 : 2 ≤ n) (hn : n ≤ 1030) :
    Calls Try.prog 5 #[.int .i64 n, .bool false] w fun e w' => e = .returned (.bool true) ∧ Below w.heap.size w w' := by
  have hal := Lib.hid (alive_any w)
  obtain ⟨i0, hinf, hz0, hz1, hz2⟩ := info_parts info_int
  obtain ⟨i1, hi1, hz10, hz11, hz12⟩ := info_parts info_ints
  have b1 : (2 : Int) ≤ (n : Int) := by omega
  have b2 : (n : Int) ≤ 1030 := by omega
  have hmk0 := fun W : World => run_make_n (P := Try.prog) 22 29 i1 (.slice none 0 0) 24 Try.underlying22 hi1 hz10 hz11 hz12 rfl .i64 .i64 n (by omega) (by unfold maxLen; omega) W
  have hmk1 := fun W : World => run_make_n (P := Try.prog) 29 3 i0 (.int .i64 0) 8 Try.underlying29 hinf hz0 hz1 hz2 rfl .i64 .i64 n (by omega) (by unfold maxLen; omega) W
  go_enter Try.func5, Try.ntmps5
  go_wp2_with (go_at_call 8; refine hal.out.mono ?_; rintro e w1 ⟨rfl, hb1⟩; (have hb1' := Lib.hid hb1); clear hb1)
  have hS1 : Sep w1 (w1.alloc (.cells (madeCells #[.slice none 0 0] n) 29)) (.sl 29 1 (.slice (some ⟨w1.heap.size, 0, none⟩) n n) n (List.replicate n (.slice none 0 0)) :: List.zipWith intsR (List.replicate n (.slice none 0 0)) (longTo n 0)) := by
    rw [longTo_zero]
    exact (((Sep.nil w1).made 29 (.slice none 0 0) n (by unfold maxLen; omega)).nils n)
  have hS1' := Lib.hid hS1
  clear hS1
  generalize w1.heap.size = gN at hS1' ⊢
  go_loopg [7] n (fun g ii wr => ∃ (i : Nat) (vs : List Value), i + 1 ≤ n ∧ Hid (g = n - i) ∧ ii = .int .i64 i ∧ Hid (vs.length = n) ∧ Sep w1 wr (.sl 29 1 (.slice (some ⟨gN, 0, none⟩) n n) n vs :: List.zipWith intsR vs (longTo n i)))
  case atStart => exact ⟨0, _, by omega, rfl, rfl, by simp [Hid], hS1'.out⟩
  case round =>
    obtain ⟨i, vs, hi, hm, rfl, hvl, hS⟩ := hrel
    have c1 : (0 : Int) ≤ (i : Int) := by omega
    have c2 : (i : Int) < (n : Int) := by omega
    by_cases hlt : i + 1 < n
    case pos =>
      have hS2 : Sep w1 _ _ := Sep.row_in (i := i) (x := (i : Int) + 1) hvl.out (longTo_len n i) (by omega) hS
      rw [longTo_set] at hS2
      have hS2' := Lib.hid hS2
      have a0 := hS.frozenAt 0 rfl i
      have a1 : ∃ z, wr.cell? ⟨gN, i, none⟩ = some z := by
        rw [hS.cellAt 0 rfl i (by omega)]
        have := hvl.out
        exact ⟨vs[i]'(by omega), List.getElem?_eq_getElem _⟩
      obtain ⟨z, a1⟩ := a1
      have a2 := (hS.alloc (.cells #[.int .i64 ((i : Int) + 1)] 3)).frozenAt 0 rfl i
      have a3 : (wr.alloc (.cells #[.int .i64 ((i : Int) + 1)] 3)).cell? ⟨gN, i, none⟩ = some z := by
        rw [(hS.alloc (.cells #[.int .i64 ((i : Int) + 1)] 3)).cellAt 0 rfl i (by omega), ← hS.cellAt 0 rfl i (by omega)]
        exact a1
      clear hS hS2 hmk0 hmk1 a0 a1
      go_wp2_with fail
      go_roundg (n - (i + 1))
      case measure => rw [hm.out]; omega
      case rel => exact ⟨i + 1, vs.set i (.slice (some ⟨wr.heap.size, 0, none⟩) 1 1), by omega, rfl, by go_num, Lib.hid (by rw [List.length_set]; exact hvl.out), hS2'.out⟩
    have hS2 : Sep w1 wr [rowsR (.slice (some ⟨gN, 0, none⟩) n n) (longX n false)] := by
      rw [longTo_row (by omega)] at hS
      refine Sep.list_shut (vs := vs) (by rw [longX_len]; exact hvl.out) ?_
      rw [longX_len]
      simpa using hS
    have hS2' := Lib.hid hS2
    clear hS hS2 hmk0
    have hn3 := Lib.hid (hS2'.out.rows 0 rfl)
    go_wp2_with (go_at_call 10; refine (comps_any hn3.out).mono ?_; rintro e w3 ⟨lv, rfl, hS⟩; obtain ⟨A1, k1, e1, _⟩ := (hS.rows 0 rfl).shape; subst e1; (have hS3 := Lib.hid (hS2'.out.join hS)); (have hn4 := Lib.hid (hn3.out.below hS.below)); clear hS)
    go_wp2_with (go_at_call 14; refine (round_any hn4.out).mono ?_; rintro e w4 ⟨rv, rfl, hS⟩; obtain ⟨A2, k2, e2, _⟩ := (hS.rows 0 rfl).shape; subst e2; (have hS4 := Lib.hid (hS3.out.join hS)); clear hS hn4)
    have hZ : Sep w1 ((w4.alloc (.cells (madeCells #[.int .i64 0] n) 3)).alloc (.cells #[.slice (some ⟨w4.heap.size, 0, none⟩) n n] 29))
        (rowsR (.slice (some ⟨w4.heap.size + 1, 0, none⟩) 1 1) [List.replicate n 0] :: rowsR (.slice A2 (roundRows (longX n false)).length k2) (roundRows (longX n false)) :: rowsR (.slice A1 (compRows (longX n false)).length k1) (compRows (longX n false)) :: [rowsR (.slice (some ⟨gN, 0, none⟩) n n) (longX n false)]) := by
      have h := (hS4.out.made 3 (.int .i64 0) n (by unfold maxLen; omega)).lit 29 #[.slice (some ⟨w4.heap.size, 0, none⟩) n n] (by simp [maxLen])
      refine Sep.list_shut (vs := [.slice (some ⟨w4.heap.size, 0, none⟩) n n]) rfl ?_
      simpa [intsR] using h
    have hZ' := Lib.hid hZ
    clear hZ hS3
    by_cases hlong : 1024 < n
    case pos =>
      have d1 : (1024 : Int) < (n : Int) := by omega
      go_wp2_with (go_at_call 14; refine (round_any (hZ'.out.rows 0 rfl)).mono ?_; rintro e w5 ⟨zv, rfl, hS⟩; (have hS5 := Lib.hid (Sep.drop 2 (hZ'.out.join hS))); clear hS hZ')
      have hb5 := Lib.hid (hb1'.out.trans (hS5.out.below.mono hb1'.out.size))
      clear hmk1 hS4 hS2' hn3 hS1' hvl hal hb1'
      have hnum : ∀ (x : Int) W, Calls Try.prog 11 #[.int .i64 x] W fun e w' => e = .returned (.int .i64 x) ∧ W = w' := fun x W => num_any x W
      have hnum' := Lib.hid hnum
      clear hnum
      have e1 := longX_long false hlong
      have e2 := zeros_long hlong
      obtain ⟨n1, hn1⟩ : ∃ n1, n1 = (compRows (longX n false)).length := ⟨_, rfl⟩
      obtain ⟨n2, hn2⟩ : ∃ n2, n2 = (roundRows (longX n false)).length := ⟨_, rfl⟩
      rw [← hn1, ← hn2, e1, e2]
      rw [compRows_bad (by rw [e1]; decide)] at hn1
      rw [roundRows_bad (by rw [e1]; decide)] at hn2
      obtain rfl : n1 = 0 := hn1
      obtain rfl : n2 = 0 := hn2
      clear e1 e2 hS5
      go_wp2_with (go_at_call 11; refine (hnum'.out _ _).mono ?_; rintro e w' ⟨rfl, rfl⟩)
      go_ret
      exact ⟨rfl, hb5.out⟩
    have hn4 : n ≤ 1024 := by omega
    have d1 : ¬ (1024 : Int) < (n : Int) := by omega
    go_wp2_with (go_at_call 14; refine (round_any (hZ'.out.rows 0 rfl)).mono ?_; rintro e w5 ⟨zv, rfl, hS⟩; (have hS5 := Lib.hid (Sep.drop 2 (hZ'.out.join hS))); clear hS hZ')
    have hb5 := Lib.hid (hb1'.out.trans (hS5.out.below.mono hb1'.out.size))
    clear hmk1 hS4 hS2' hn3 hS1' hvl hal hb1'
    have hnum : ∀ (x : Int) W, Calls Try.prog 11 #[.int .i64 x] W fun e w' => e = .returned (.int .i64 x) ∧ W = w' := fun x W => num_any x W
    have hnum' := Lib.hid hnum
    clear hnum
    obtain ⟨s1, s2, s3⟩ := long_row_says h2 hn4
    rw [longX_ok false h2 hn4, zeros_ok hn4]
    obtain ⟨g, cg, u0, ev, r1, _, r2⟩ := rows_cells (k := 0) (Sep.sel [1, 0] hS5.out (by decide) (by simp)) (by rw [s1]; omega)
    obtain ⟨g', cg', un, ev', r3, _, r4⟩ := rows_cells (k := n - 1) (Sep.sel [1, 0] hS5.out (by decide) (by simp)) (by rw [s1]; omega)
    rw [s2] at r2 r4
    obtain ⟨ga, ca, rfl, r5⟩ := r2 (by simp)
    obtain ⟨gb, cb, rfl, r6⟩ := r4 (by simp)
    have r7 := r5 0 (by simp)
    have r8 := r6 0 (by simp)
    simp only [List.getElem_cons_zero, List.length_cons, List.length_nil, Nat.zero_add] at r7 r8 r1 r3
    have q1 : ((n - 1 - 0 : Nat) : Int) = (n : Int) - 1 := by omega
    have q2 : ((n - 1 - (n - 1) : Nat) : Int) = 0 := by omega
    rw [q1] at r7
    rw [q2] at r8
    rw [s1] at ev ev'
    cases ev
    cases ev'
    rw [s1, s3]
    clear hS5 q1 q2 r5 r6 r2 r4
    go_wp2_with (go_at_call 11; refine (hnum'.out _ _).mono ?_; rintro e w' ⟨rfl, rfl⟩)
    go_ret
    exact ⟨rfl, hb5.out⟩
set_option maxRecDepth 100000 in
set_option maxHeartbeats 2000000 in
theorem long_ring_any {n : Nat} {w : World} (h2 : 2 ≤ n) (hn : n ≤ 1030) :
    Calls Try.prog 5 #[.int .i64 n, .bool true] w fun e w' => e = .returned (.bool true) ∧ Below w.heap.size w w' := by
  have hal := Lib.hid (alive_any w)
  obtain ⟨i0, hinf, hz0, hz1, hz2⟩ := info_parts info_int
  obtain ⟨i1, hi1, hz10, hz11, hz12⟩ := info_parts info_ints
  have b1 : (2 : Int) ≤ (n : Int) := by omega
  have b2 : (n : Int) ≤ 1030 := by omega
  have hmk0 := fun W : World => run_make_n (P := Try.prog) 22 29 i1 (.slice none 0 0) 24 Try.underlying22 hi1 hz10 hz11 hz12 rfl .i64 .i64 n (by omega) (by unfold maxLen; omega) W
  have hmk1 := fun W : World => run_make_n (P := Try.prog) 29 3 i0 (.int .i64 0) 8 Try.underlying29 hinf hz0 hz1 hz2 rfl .i64 .i64 n (by omega) (by unfold maxLen; omega) W
  go_enter Try.func5, Try.ntmps5
  go_wp2_with (go_at_call 8; refine hal.out.mono ?_; rintro e w1 ⟨rfl, hb1⟩; (have hb1' := Lib.hid hb1); clear hb1)
  have hS1 : Sep w1 (w1.alloc (.cells (madeCells #[.slice none 0 0] n) 29)) (.sl 29 1 (.slice (some ⟨w1.heap.size, 0, none⟩) n n) n (List.replicate n (.slice none 0 0)) :: List.zipWith intsR (List.replicate n (.slice none 0 0)) (longTo n 0)) := by
    rw [longTo_zero]
    exact (((Sep.nil w1).made 29 (.slice none 0 0) n (by unfold maxLen; omega)).nils n)
  have hS1' := Lib.hid hS1
  clear hS1
  generalize w1.heap.size = gN at hS1' ⊢
  go_loopg [7] n (fun g ii wr => ∃ (i : Nat) (vs : List Value), i + 1 ≤ n ∧ Hid (g = n - i) ∧ ii = .int .i64 i ∧ Hid (vs.length = n) ∧ Sep w1 wr (.sl 29 1 (.slice (some ⟨gN, 0, none⟩) n n) n vs :: List.zipWith intsR vs (longTo n i)))
  case atStart => exact ⟨0, _, by omega, rfl, rfl, by simp [Hid], hS1'.out⟩
  case round =>
    obtain ⟨i, vs, hi, hm, rfl, hvl, hS⟩ := hrel
    have c1 : (0 : Int) ≤ (i : Int) := by omega
    have c2 : (i : Int) < (n : Int) := by omega
    by_cases hlt : i + 1 < n
    case pos =>
      have hS2 : Sep w1 _ _ := Sep.row_in (i := i) (x := (i : Int) + 1) hvl.out (longTo_len n i) (by omega) hS
      rw [longTo_set] at hS2
      have hS2' := Lib.hid hS2
      have a0 := hS.frozenAt 0 rfl i
      have a1 : ∃ z, wr.cell? ⟨gN, i, none⟩ = some z := by
        rw [hS.cellAt 0 rfl i (by omega)]
        have := hvl.out
        exact ⟨vs[i]'(by omega), List.getElem?_eq_getElem _⟩
      obtain ⟨z, a1⟩ := a1
      have a2 := (hS.alloc (.cells #[.int .i64 ((i : Int) + 1)] 3)).frozenAt 0 rfl i
      have a3 : (wr.alloc (.cells #[.int .i64 ((i : Int) + 1)] 3)).cell? ⟨gN, i, none⟩ = some z := by
        rw [(hS.alloc (.cells #[.int .i64 ((i : Int) + 1)] 3)).cellAt 0 rfl i (by omega), ← hS.cellAt 0 rfl i (by omega)]
        exact a1
      clear hS hS2 hmk0 hmk1 a0 a1
      go_wp2_with fail
      go_roundg (n - (i + 1))
      case measure => rw [hm.out]; omega
      case rel => exact ⟨i + 1, vs.set i (.slice (some ⟨wr.heap.size, 0, none⟩) 1 1), by omega, rfl, by go_num, Lib.hid (by rw [List.length_set]; exact hvl.out), hS2'.out⟩
    obtain rfl : i = n - 1 := by omega
    have hvl2 := hvl.out
    have hS2 : Sep w1 ((wr.alloc (.cells #[.int .i64 0] 3)).setCell ⟨gN, n - 1, none⟩ (.slice (some ⟨wr.heap.size, 0, none⟩) 1 1)) [rowsR (.slice (some ⟨gN, 0, none⟩) n n) (longX n true)] := by
      have h := Sep.row_in (i := n - 1) (x := 0) hvl.out (longTo_len n (n - 1)) (by omega) hS
      rw [longTo_ring (by omega)] at h
      refine Sep.list_shut (vs := vs.set (n - 1) (.slice (some ⟨wr.heap.size, 0, none⟩) 1 1)) (by rw [longX_len, List.length_set]; exact hvl.out) ?_
      rw [longX_len]
      simpa using h
    have hS2' := Lib.hid hS2
    have a2 := (hS.alloc (.cells #[.int .i64 0] 3)).frozenAt 0 rfl (n - 1)
    have a3 : ∃ z, (wr.alloc (.cells #[.int .i64 0] 3)).cell? ⟨gN, n - 1, none⟩ = some z := by
      rw [(hS.alloc (.cells #[.int .i64 0] 3)).cellAt 0 rfl (n - 1) (by omega)]
      exact ⟨vs[n - 1]'(by omega), List.getElem?_eq_getElem _⟩
    obtain ⟨z, a3⟩ := a3
    clear hS hS2 hmk0 hvl2
    generalize hw2 : (wr.alloc (.cells #[.int .i64 0] 3)).setCell ⟨gN, n - 1, none⟩ (.slice (some ⟨wr.heap.size, 0, none⟩) 1 1) = w2 at hS2'
    have hw2' := Lib.hid hw2
    clear hw2
    have hn3 := Lib.hid (hS2'.out.rows 0 rfl)
    go_wp2_with fail
    rw [hw2'.out]
    clear hw2'
    go_wp2_with (go_at_call 10; refine (comps_any hn3.out).mono ?_; rintro e w3 ⟨lv, rfl, hS⟩; obtain ⟨A1, k1, e1, _⟩ := (hS.rows 0 rfl).shape; subst e1; (have hS3 := Lib.hid (hS2'.out.join hS)); (have hn4 := Lib.hid (hn3.out.below hS.below)); clear hS)
    go_wp2_with (go_at_call 14; refine (round_any hn4.out).mono ?_; rintro e w4 ⟨rv, rfl, hS⟩; obtain ⟨A2, k2, e2, _⟩ := (hS.rows 0 rfl).shape; subst e2; (have hS4 := Lib.hid (hS3.out.join hS)); clear hS hn4)
    have hZ : Sep w1 ((w4.alloc (.cells (madeCells #[.int .i64 0] n) 3)).alloc (.cells #[.slice (some ⟨w4.heap.size, 0, none⟩) n n] 29))
        (rowsR (.slice (some ⟨w4.heap.size + 1, 0, none⟩) 1 1) [List.replicate n 0] :: rowsR (.slice A2 (roundRows (longX n true)).length k2) (roundRows (longX n true)) :: rowsR (.slice A1 (compRows (longX n true)).length k1) (compRows (longX n true)) :: [rowsR (.slice (some ⟨gN, 0, none⟩) n n) (longX n true)]) := by
      have h := (hS4.out.made 3 (.int .i64 0) n (by unfold maxLen; omega)).lit 29 #[.slice (some ⟨w4.heap.size, 0, none⟩) n n] (by simp [maxLen])
      refine Sep.list_shut (vs := [.slice (some ⟨w4.heap.size, 0, none⟩) n n]) rfl ?_
      simpa [intsR] using h
    have hZ' := Lib.hid hZ
    clear hZ hS3
    by_cases hlong : 1024 < n
    case pos =>
      have d1 : (1024 : Int) < (n : Int) := by omega
      go_wp2_with (go_at_call 14; refine (round_any (hZ'.out.rows 0 rfl)).mono ?_; rintro e w5 ⟨zv, rfl, hS⟩; (have hS5 := Lib.hid (Sep.drop 2 (hZ'.out.join hS))); clear hS hZ')
      have hb5 := Lib.hid (hb1'.out.trans (hS5.out.below.mono hb1'.out.size))
      clear hmk1 hS4 hS2' hn3 hS1' hvl hal hb1'
      have hnum : ∀ (x : Int) W, Calls Try.prog 11 #[.int .i64 x] W fun e w' => e = .returned (.int .i64 x) ∧ W = w' := fun x W => num_any x W
      have hnum' := Lib.hid hnum
      clear hnum
      have e1 := longX_long true hlong
      have e2 := zeros_long hlong
      obtain ⟨n1, hn1⟩ : ∃ n1, n1 = (compRows (longX n true)).length := ⟨_, rfl⟩
      obtain ⟨n2, hn2⟩ : ∃ n2, n2 = (roundRows (longX n true)).length := ⟨_, rfl⟩
      rw [← hn1, ← hn2, e1, e2]
      rw [compRows_bad (by rw [e1]; decide)] at hn1
      rw [roundRows_bad (by rw [e1]; decide)] at hn2
      obtain rfl : n1 = 0 := hn1
      obtain rfl : n2 = 0 := hn2
      clear e1 e2 hS5
      go_wp2_with (go_at_call 11; refine (hnum'.out _ _).mono ?_; rintro e w' ⟨rfl, rfl⟩)
      go_ret
      exact ⟨rfl, hb5.out⟩
    have hn4 : n ≤ 1024 := by omega
    have d1 : ¬ (1024 : Int) < (n : Int) := by omega
    go_wp2_with (go_at_call 14; refine (round_any (hZ'.out.rows 0 rfl)).mono ?_; rintro e w5 ⟨zv, rfl, hS⟩; (have hS5 := Lib.hid (Sep.drop 2 (hZ'.out.join hS))); clear hS hZ')
    have hb5 := Lib.hid (hb1'.out.trans (hS5.out.below.mono hb1'.out.size))
    clear hmk1 hS4 hS2' hn3 hS1' hvl hal hb1'
    have hnum : ∀ (x : Int) W, Calls Try.prog 11 #[.int .i64 x] W fun e w' => e = .returned (.int .i64 x) ∧ W = w' := fun x W => num_any x W
    have hnum' := Lib.hid hnum
    clear hnum
    obtain ⟨s1, s2, s3, s4⟩ := long_ring_says h2 hn4
    rw [longX_ok true h2 hn4, zeros_ok hn4]
    obtain ⟨g, cg, u0, ev, r1, r2, _⟩ := rows_cells (k := 0) (Sep.sel [1, 0] hS5.out (by decide) (by simp)) (by rw [s1]; omega)
    obtain ⟨g', cg', u1, ev', r3, r4, _⟩ := rows_cells (k := 0) hS5.out (by rw [s3]; omega)
    rw [s2] at r2
    rw [s4] at r4
    obtain ⟨Aa, ca, rfl⟩ := r2
    obtain ⟨Ab, cb, rfl⟩ := r4
    rw [s1] at ev
    rw [s3] at ev'
    cases ev
    cases ev'
    rw [s1, s3]
    clear hS5 s2 s4
    go_wp2_with (go_at_call 11; refine (hnum'.out _ _).mono ?_; rintro e w' ⟨rfl, rfl⟩)
    go_ret
    exact ⟨rfl, hb5.out⟩

theorem long_any {n : Int} {round : Bool} {w : World} : Calls Try.prog 5 #[.int .i64 n, .bool round] w fun e w' => e = .returned (.bool true) ∧ Below w.heap.size w w' := by
  by_cases h : n < 2 ∨ 1030 < n
  · exact long_out h
  obtain ⟨m, rfl⟩ := Int.eq_ofNat_of_zero_le (show 0 ≤ n by omega)
  cases round
  · exact long_row_any (by omega) (by omega)
  · exact long_ring_any (by omega) (by omega)
end Go.Proofs.Ytdidkpgdjehodaa
