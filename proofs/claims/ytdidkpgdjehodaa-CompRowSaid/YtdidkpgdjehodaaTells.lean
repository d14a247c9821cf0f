/- CompTells, walked: whatever needs it is handed (rows of at most 1048576 numbers), it answers true. -/
import Derived.Test.YtdidkpgdjehodaaBoth
namespace Go.Proofs.Ytdidkpgdjehodaa
open Go.RowKit
set_option linter.unusedVariables false

theorem much_len {xss : List (List Int)} (h : muchB xss = false) : xss.length ≤ 80 := by
  unfold muchB at h
  simp at h
  exact h.2

set_option maxRecDepth 100000 in
set_option maxHeartbeats 1000000 in
theorem tells_much {xss yss : List (List Int)} {w : World} {nv ov : Value} (hn : RowsAt w nv xss) (ho : RowsAt w ov yss) (hm : muchB xss = true ∨ muchB yss = true) :
    Calls Try.prog 4 #[nv, ov] w fun e w' => e = .returned (.bool true) ∧ Below w.heap.size w w' := by
  obtain ⟨A, cA, rfl, _⟩ := hn.shape
  obtain ⟨B, cB, rfl, _⟩ := ho.shape
  have hn' := Lib.hid hn
  have ho' := Lib.hid ho
  clear hn ho
  have hal := Lib.hid (alive_any w)
  cases hmb : muchB xss
  case true =>
    clear hm
    go_enter Try.func4, Try.ntmps4
    go_wp2_with (first
      | (go_at_call 8; refine hal.out.mono ?_; rintro e w1 ⟨rfl, hb1⟩; (have hmu := much_any (hn'.out.below hb1)); rw [hmb] at hmu)
      | (go_at_call 9; refine hmu.mono ?_; rintro e w2 ⟨rfl, rfl⟩))
    go_ret
    exact ⟨rfl, hb1⟩
  have hmb2 : muchB yss = true := by rcases hm with h | h; rw [hmb] at h; cases h; exact h
  clear hm
  go_enter Try.func4, Try.ntmps4
  go_wp2_with (first
    | (go_at_call 8; refine hal.out.mono ?_; rintro e w1 ⟨rfl, hb1⟩; (have hmu := much_any (hn'.out.below hb1)); rw [hmb] at hmu; (have hmu2 := much_any (ho'.out.below hb1)); rw [hmb2] at hmu2; (have hmu' := Lib.hid hmu); (have hmu2' := Lib.hid hmu2); clear hmu hmu2)
    | (go_at_call 9; refine hmu'.out.mono ?_; rintro e w2 ⟨rfl, rfl⟩; clear hmu')
    | (go_at_call 9; refine hmu2'.out.mono ?_; rintro e w2 ⟨rfl, rfl⟩))
  go_ret
  exact ⟨rfl, hb1⟩

set_option maxRecDepth 100000 in
set_option maxHeartbeats 2000000 in
theorem tells_any {xss yss : List (List Int)} {w : World} {nv ov : Value} (hn : RowsAt w nv xss) (ho : RowsAt w ov yss) (hr : ∀ j (hj : j < xss.length), xss[j].length ≤ 1048576) :
    Calls Try.prog 4 #[nv, ov] w fun e w' => e = .returned (.bool true) ∧ Below w.heap.size w w' := by
  by_cases hm : muchB xss = true ∨ muchB yss = true
  · exact tells_much hn ho hm
  obtain ⟨hmb, hmb2⟩ : muchB xss = false ∧ muchB yss = false := by simpa using hm
  have hl := much_len hmb
  clear hm
  obtain ⟨A, cA, rfl, _⟩ := hn.shape
  obtain ⟨B, cB, rfl, _⟩ := ho.shape
  have hn' := Lib.hid hn
  have ho' := Lib.hid ho
  have hr' := Lib.hid hr
  clear hn ho hr
  have hal := Lib.hid (alive_any w)
  have hnum : ∀ W, Calls Try.prog 11 #[.int .i64 (refused xss)] W fun e w' => e = .returned (.int .i64 (refused xss)) ∧ W = w' := fun W => num_any _ W
  have hnum' := Lib.hid hnum
  clear hnum
  go_enter Try.func4, Try.ntmps4
  go_wp2_with (first
    | (go_at_call 8; refine hal.out.mono ?_; rintro e w1 ⟨rfl, hb1⟩; (have hb1' := Lib.hid hb1); (have hmu := much_any (hn'.out.below hb1)); rw [hmb] at hmu; (have hmu2 := much_any (ho'.out.below hb1)); rw [hmb2] at hmu2; (have hmu' := Lib.hid hmu); (have hmu2' := Lib.hid hmu2); clear hmu hmu2 hb1)
    | (go_at_call 9; refine hmu'.out.mono ?_; rintro e w2 ⟨rfl, rfl⟩; clear hmu')
    | (go_at_call 9; refine hmu2'.out.mono ?_; rintro e w2 ⟨rfl, rfl⟩; clear hmu2')
    | (go_at_call 13; refine (lent_any (by omega) hr'.out (hn'.out.below hb1'.out)).mono ?_; rintro e w2 ⟨fv, vs, last, rfl, hvl, hS⟩; (have hvl' := Lib.hid hvl); (have hfr := Lib.hid (lent_rows (R := []) hvl (by simpa using hS))); (have hS2 := Lib.hid hS); clear hvl hS))
  go_wp2_with (go_at_call 10; refine (comps_any hfr.out).mono ?_; rintro e w3 ⟨lv, rfl, hS⟩; obtain ⟨A1, c1, e1, _⟩ := (hS.rows 0 rfl).shape; subst e1; (have hS3 := Lib.hid (hS2.out.join hS)); (have hfr3 := Lib.hid (hfr.out.below hS.below)); clear hS)
  go_wp2_with (go_at_call 14; refine (round_any hfr3.out).mono ?_; rintro e w4 ⟨rv, rfl, hS⟩; obtain ⟨A2, c2, e2, _⟩ := (hS.rows 0 rfl).shape; subst e2; (have hS4 := Lib.hid (hS3.out.join hS)); clear hS)
  have hn4 := Lib.hid ((hn'.out.below hb1'.out).below hS4.out.below)
  have ho4 := Lib.hid ((ho'.out.below hb1'.out).below hS4.out.below)
  have hS4a : Sep w1 w4 (lentAll fv vs last xss ++ [rowsR (.slice A1 (compRows xss).length c1) (compRows xss), rowsR (.slice A2 (roundRows xss).length c2) (roundRows xss)]) := by
    refine hS4.out.perm ?_
    exact List.perm_append_comm (l₁ := [rowsR (.slice A2 (roundRows xss).length c2) (roundRows xss), rowsR (.slice A1 (compRows xss).length c1) (compRows xss)]) |>.trans (List.Perm.append_left _ (List.Perm.swap _ _ _))
  have hS4b := Lib.hid hS4a
  clear hS4a
  go_wp2_with (go_at_call 15; refine (stay_any (by omega) hr'.out hvl'.out hS4b.out hn4.out).mono ?_; rintro e w' ⟨rfl, m, rfl⟩)
  have hbm : Below w4.heap.size w4 (w4.drewN m) := ((Sep.nil w4).drewN m).below
  have hbm' := Lib.hid hbm
  clear hbm
  have hS5 := Lib.hid ((Sep.snd hS4b.out).drewN m)
  have hfin := Lib.hid (hS4b.out.drewN m).below
  have ho5 := Lib.hid (ho4.out.below hbm'.out)
  have hn5 := Lib.hid (hn4.out.below hbm'.out)
  clear hS4b hS4 hS3 hS2 ho4 hn4 hfr hfr3 hbm'
  generalize w4.drewN m = w5 at hS5 hfin ho5 hn5 ⊢
  go_wp2_with (go_at_call 10; refine (comps_any ho5.out).mono ?_; rintro e w6 ⟨mv, rfl, hS⟩; (have hS6 := Lib.hid (hS5.out.join hS)); (have ho6 := Lib.hid (ho5.out.below hS.below)); (have hn6 := Lib.hid (hn5.out.below hS.below)); (have hf6 := Lib.hid (hfin.out.trans (hS.below.mono hfin.out.size))); clear hS)
  go_wp2_with (go_at_call 14; refine (round_any ho6.out).mono ?_; rintro e w7 ⟨qv, rfl, hS⟩; (have hS7 := Lib.hid (hS6.out.join hS)); (have hn7 := Lib.hid (hn6.out.below hS.below)); (have hf7 := Lib.hid (hf6.out.trans (hS.below.mono hf6.out.size))); clear hS)
  have hS7a : Sep w1 w7 [rowsR mv (compRows yss), rowsR qv (roundRows yss), rowsR (.slice A1 (compRows xss).length c1) (compRows xss), rowsR (.slice A2 (roundRows xss).length c2) (roundRows xss)] := Sep.sel [1, 0] hS7.out (by decide) (by simp)
  have hS7b := Lib.hid hS7a
  clear hS7a hS7 hS6 hS5 ho5 ho6 hn5 hn6 hf6 hf7 hn7
  go_wp2_with (go_at_call 16; refine (wipe_any hS7b.out).mono ?_; rintro e w8 ⟨rfl, zss, hS⟩; (have hS8 := Lib.hid (Sep.sel [1, 0] hS (by decide) (by simp))); clear hS hS7b)
  go_wp2_with (go_at_call 16; refine (wipe_any (R := [rowsR mv zss, rowsR (.slice A1 (compRows xss).length c1) (compRows xss), rowsR (.slice A2 (roundRows xss).length c2) (roundRows xss)]) hS8.out).mono ?_; rintro e w9 ⟨rfl, zss2, hS⟩; (have hS9 := Lib.hid (Sep.drop 2 hS)); clear hS hS8)
  have hn9 := Lib.hid ((hn'.out.below hb1'.out).below hS9.out.below)
  have hb9 := Lib.hid (hb1'.out.trans (hS9.out.below.mono hb1'.out.size))
  clear hfin
  by_cases hx : refused xss = 0
  case neg =>
    have b1 : (refused xss != refused xss) = false := by simp
    have b2 : (refused xss != 0) = true := by simpa using hx
    obtain ⟨n1, hn1⟩ : ∃ n1, n1 = (compRows xss).length := ⟨_, rfl⟩
    obtain ⟨n2, hn2⟩ : ∃ n2, n2 = (roundRows xss).length := ⟨_, rfl⟩
    rw [← hn1, ← hn2]
    rw [compRows_bad hx] at hn1
    rw [roundRows_bad hx] at hn2
    obtain rfl : n1 = 0 := hn1
    obtain rfl : n2 = 0 := hn2
    have hx' := Lib.hid hx
    clear hx hS9
    go_wp2_with (first
      | (go_at_call 17; refine (refused_any w9 _ xss hn9.out).mono ?_; rintro e w' ⟨rfl, rfl⟩)
      | (go_at_call 11; refine (hnum'.out _).mono ?_; rintro e w' ⟨rfl, rfl⟩))
    go_ret
    exact ⟨rfl, hb9.out⟩
  have hwant := Lib.hid ((refused_any w9 _ xss hn9.out))
  rw [hx] at hwant hnum' ⊢
  have hx' := Lib.hid hx
  clear hx
  go_wp2_with (first
    | (go_at_call 17; refine hwant.out.mono ?_; rintro e w' ⟨rfl, rfl⟩)
    | (go_at_call 11; refine (hnum'.out _).mono ?_; rintro e w' ⟨rfl, rfl⟩))
  go_wp2_with (go_at_call 19; refine (refcomps_rows hx'.out hn9.out (told_some hx'.out hn9.out)).mono ?_; rintro e w10 ⟨sv, rfl, hS⟩; (have hS10 := Lib.hid (hS9.out.join hS)); clear hS)
  have hsame1 := Lib.hid (same_any (hS10.out.rows 1 rfl) (hS10.out.rows 0 rfl))
  rw [decide_eq_true (show compRows xss = compRows xss from rfl)] at hsame1
  go_wp2_with (go_at_call 18; refine hsame1.out.mono ?_; rintro e w' ⟨rfl, m, rfl⟩; clear hsame1)
  have hS11 := Lib.hid (hS10.out.drewN m)
  clear hS10 hS9
  generalize w10.drewN m = w11 at hS11 ⊢
  have hn11 := Lib.hid ((hn'.out.below hb1'.out).below hS11.out.below)
  go_wp2_with (go_at_call 20; refine (refround_rows hx'.out hn11.out).mono ?_; rintro e w12 ⟨tv, rfl, hS⟩; (have hS12 := Lib.hid (hS11.out.join hS)); clear hS)
  have hsame2 := Lib.hid (same_any (hS12.out.rows 3 rfl) (hS12.out.rows 0 rfl))
  rw [decide_eq_true (show roundRows xss = roundRows xss from rfl)] at hsame2
  go_wp2_with (go_at_call 18; refine hsame2.out.mono ?_; rintro e w' ⟨rfl, m, rfl⟩)
  have hb13 := Lib.hid (hb1'.out.trans (((hS12.out.drewN m).below).mono hb1'.out.size))
  clear hsame2 hS12 hS11
  go_wp2_with fail
  go_ret
  exact ⟨rfl, hb13.out⟩
end Go.Proofs.Ytdidkpgdjehodaa
