/- CompMore, walked. -/
import Derived.Test.YtdidkpgdjehodaaLong
import Derived.Test.YtdidkpgdjehodaaTells
namespace Go.Proofs.Ytdidkpgdjehodaa
open Go.RowKit
set_option linter.unusedVariables false

theorem twice_comp {xss : List (List Int)} {k : Nat} {w : World} {nv : Value} (hx : refused xss = 0) (hx2 : refused (twice xss k) = 0) (hn : RowsAt w nv xss) : compRows (twice xss k) = compRows xss := by
  obtain ⟨rep, T, hr, hT⟩ := told_some hx hn
  rw [← compRows_of hx hr hT, ← compRows_of hx2 (twice_rep hx hr) (twice_told hx hT), twice_len]
theorem twice_found {xss : List (List Int)} {k : Nat} (hx2 : refused (twice xss k) = 0) (hk : k < xss.length) : ∃ r, r ∈ roundRows (twice xss k) ∧ (k : Int) ∈ r := by
  obtain ⟨r, h1, h2⟩ := twice_round hx2 hk
  rw [roundRows_ok hx2, round_rows]
  exact ⟨_, List.mem_map.2 ⟨r, h1, rfl⟩, List.mem_map.2 ⟨k, h2, rfl⟩⟩
theorem twice_take {xss : List (List Int)} {k i : Nat} (hi : i < xss.length) : (twice xss k).take (i + 1) = (twice xss k).take i ++ [(xss[i] ++ xss[i]) ++ if i = k then [(k : Int)] else []] := by
  have h : i < (twice xss k).length := by rw [twice_len]; exact hi
  rw [List.take_add_one, List.getElem?_eq_getElem h, twice_at h]
  rfl

set_option maxRecDepth 100000 in
set_option maxHeartbeats 1000000 in
theorem more_out {xss : List (List Int)} {w : World} {nv : Value} {who : Int} (hn : RowsAt w nv xss) (h : muchB xss = true ∨ xss.length = 0 ∨ who < 0) :
    Calls Try.prog 7 #[nv, .int .i64 who] w fun e w' => e = .returned (.bool true) ∧ Below w.heap.size w w' := by
  obtain ⟨A, cA, rfl, _⟩ := hn.shape
  have hn' := Lib.hid hn
  clear hn
  have hal := Lib.hid (alive_any w)
  cases hmb : muchB xss
  case true =>
    clear h
    go_enter Try.func7, Try.ntmps7
    go_wp2_with (first
      | (go_at_call 8; refine hal.out.mono ?_; rintro e w1 ⟨rfl, hb1⟩; (have hmu := much_any (hn'.out.below hb1)); rw [hmb] at hmu)
      | (go_at_call 9; refine hmu.mono ?_; rintro e w2 ⟨rfl, rfl⟩))
    go_ret
    exact ⟨rfl, hb1⟩
  rw [hmb] at h
  have h' : xss.length = 0 ∨ 0 < xss.length ∧ who < 0 := by
    rcases h with h | h | h
    · cases h
    · exact .inl h
    · rcases Nat.eq_zero_or_pos xss.length with h0 | h0
      · exact .inl h0
      · exact .inr ⟨h0, h⟩
  clear h
  rcases h' with h | ⟨h0, h⟩
  · have hmu0 : ∀ W, Below w.heap.size w W → _ := fun W hb => much_any (hn'.out.below hb)
    rw [hmb] at hmu0
    have hmu' := Lib.hid hmu0
    clear hmu0
    rw [h] at hmu' ⊢
    clear hn'
    go_enter Try.func7, Try.ntmps7
    go_wp2_with (first
      | (go_at_call 8; refine hal.out.mono ?_; rintro e w1 ⟨rfl, hb1⟩; (have hmu := hmu'.out _ hb1))
      | (go_at_call 9; refine hmu.mono ?_; rintro e w2 ⟨rfl, rfl⟩))
    go_ret
    exact ⟨rfl, hb1⟩
  · have b1 : ((xss.length : Int) == 0) = false := by simp; intro e; simp [e] at h0
    have b2 : ¬ xss = [] := by intro e; rw [e] at h0; exact Nat.lt_irrefl _ h0
    go_enter Try.func7, Try.ntmps7
    go_wp2_with (first
      | (go_at_call 8; refine hal.out.mono ?_; rintro e w1 ⟨rfl, hb1⟩; (have hmu := much_any (hn'.out.below hb1)); rw [hmb] at hmu)
      | (go_at_call 9; refine hmu.mono ?_; rintro e w2 ⟨rfl, rfl⟩))
    go_ret
    exact ⟨rfl, hb1⟩

set_option maxRecDepth 100000 in
set_option maxHeartbeats 2000000 in
theorem more_in {xss : List (List Int)} {w : World} {nv : Value} {m : Nat} (hn : RowsAt w nv xss) (hmb : muchB xss = false) (h0 : 0 < xss.length) (hm : m ≤ 9223372036854775807) :
    Calls Try.prog 7 #[nv, .int .i64 m] w fun e w' => e = .returned (.bool true) ∧ Below w.heap.size w w' := by
  have hl := much_len hmb
  obtain ⟨A, cA, rfl, _⟩ := hn.shape
  obtain ⟨i0, hinf, hz0, hz1, hz2⟩ := info_parts info_int
  obtain ⟨i1, hi1, hz10, hz11, hz12⟩ := info_parts info_ints
  have hn' := Lib.hid hn
  clear hn
  have hal := Lib.hid (alive_any w)
  have b1 : ((xss.length : Int) == 0) = false := by simp; intro e; simp [e] at h0
  have b2 : ¬ xss = [] := by intro e; rw [e] at h0; exact Nat.lt_irrefl _ h0
  have b3 : (0 : Int) ≤ (m : Int) := by omega
  have b4 : (m : Int) ≤ 9223372036854775807 := by omega
  have b5 : (xss.length : Int) ≤ 80 := by omega
  have b6 : (0 : Int) < (xss.length : Int) := by omega
  obtain ⟨k, hk⟩ : ∃ k, k = m % xss.length := ⟨_, rfl⟩
  have hkl : k < xss.length := by rw [hk]; exact Nat.mod_lt _ h0
  have b7 : (m : Int) % (xss.length : Int) = (k : Int) := by rw [hk]; rfl
  have b7' := Lib.hid b7
  clear b7
  clear hk
  go_enter Try.func7, Try.ntmps7
  go_wp2_with (first
    | (go_at_call 8; refine hal.out.mono ?_; rintro e w1 ⟨rfl, hb1⟩; (have hmu := much_any (hn'.out.below hb1)); rw [hmb] at hmu; (have hb1' := Lib.hid hb1); clear hb1)
    | (go_at_call 9; refine hmu.mono ?_; rintro e w2 ⟨rfl, rfl⟩; clear hmu))
  have hn1 := Lib.hid (hn'.out.below hb1'.out)
  go_loop [7] (fun ii => ∃ i : Nat, i ≤ xss.length ∧ ii = .int .i64 i ∧ Hid (∀ j (hj : j < xss.length), j < i → xss[j].length ≤ 500)) (fun ii => xss.length - (intOf ii).toNat)
  case atStart => exact ⟨0, Nat.zero_le _, rfl, fun j _ hj => absurd hj (Nat.not_lt_zero _)⟩
  case round =>
    obtain ⟨i, hi, rfl, hall⟩ := hrel
    by_cases hlt : i < xss.length
    case pos =>
      obtain ⟨ad, c', un, e, hun, hcn⟩ := hn1.out.all hlt
      cases e
      have a0 := hcn w1 (Below.refl _ _)
      obtain ⟨Au, cu, rfl, hum⟩ := hun.shape
      have c1 : (0 : Int) ≤ (i : Int) := by omega
      have c2 : (i : Int) < (xss.length : Int) := by omega
      unfold maxLen at hum
      clear hun hcn
      by_cases h5 : xss[i].length ≤ 500
      case pos =>
        have h5' := Lib.hid h5
        have c3 : ¬ (500 : Int) < (xss[i].length : Int) := by omega
        clear h5
        go_wp2_with fail
        go_round
        case rel => exact ⟨i + 1, by omega, by go_num, fun j hj hj' => by
            rcases Nat.lt_or_ge j i with h' | h'
            · exact hall.out j hj h'
            · obtain rfl : j = i := by omega
              exact h5'.out⟩
        case measure => simp [intOf]; omega
      case neg =>
        have c3 : (500 : Int) < (xss[i].length : Int) := by omega
        go_wp2_with fail
        go_ret
        exact ⟨rfl, hb1'.out⟩
    obtain rfl : i = xss.length := by omega
    have h500 : Hid (∀ j (hj : j < xss.length), xss[j].length ≤ 500) := fun j hj => hall.out j hj hj
    clear hall
    have hnum : ∀ (x : Int) W, Calls Try.prog 11 #[.int .i64 x] W fun e w' => e = .returned (.int .i64 x) ∧ W = w' := fun x W => num_any x W
    have hnum' := Lib.hid hnum
    clear hnum
    by_cases hx : refused xss = 0
    case neg =>
      have c1 : (refused xss != 0) = true := by simpa using hx
      go_wp2_with (first
        | (go_at_call 10; refine (comps_any hn1.out).mono ?_; rintro e w3 ⟨lv, rfl, hS⟩; (have hb3 := Lib.hid (hb1'.out.trans (hS.below.mono hb1'.out.size))); clear hS)
        | (go_at_call 11; refine (hnum'.out _ _).mono ?_; rintro e w' ⟨rfl, rfl⟩))
      go_ret
      exact ⟨rfl, hb3.out⟩
    have hco := Lib.hid (comps_any hn1.out)
    rw [hx] at hco
    have hx' := Lib.hid hx
    clear hx
    go_wp2_with (first
      | (go_at_call 10; refine hco.out.mono ?_; rintro e w3 ⟨lv, rfl, hS⟩; (have hS3 := Lib.hid hS); clear hS hco)
      | (go_at_call 11; refine (hnum'.out _ _).mono ?_; rintro e w' ⟨rfl, rfl⟩))
    rw [b7'.out]
    have c1 : (0 : Int) ≤ (k : Int) := by omega
    have c2 : (k : Int) < (xss.length : Int) := by omega
    go_loopg [11, 12] xss.length (fun g mv ii wr => ∃ i : Nat, i ≤ xss.length ∧ Hid (g = xss.length - i) ∧ ii = .int .i64 i ∧ Sep w1 wr [rowsR mv ((twice xss k).take i), rowsR lv (compRows xss)])
    case atStart => exact ⟨0, Nat.zero_le _, rfl, rfl, by rw [List.take_zero]; exact hS3.out.list_nil _ _⟩
    case round =>
    obtain ⟨i, hi, hmg, rfl, hS⟩ := hrel
    by_cases hlt : i < xss.length
    case pos =>
      obtain ⟨ad, c', un, e, hun, hcn⟩ := hn1.out.all hlt
      cases e
      have h5i := h500.out i hlt
      obtain ⟨vs, hvl, hS1⟩ := Sep.list_open hS
      have hlen : ((twice xss k).take i).length = i := by rw [List.length_take, twice_len]; omega
      rw [hlen] at hvl hS1
      have a0 := hcn wr hS.below
      obtain ⟨Au, cu, rfl, hum⟩ := hun.shape
      have d1 : (0 : Int) ≤ (i : Int) := by omega
      have d2 : (i : Int) < (xss.length : Int) := by omega
      obtain ⟨xs, hxs⟩ : ∃ xs, xs = xss[i] := ⟨_, rfl⟩
      have hxs' := Lib.hid hxs
      rw [← hxs] at hun hcn hum h5i a0
      have hun' := Lib.hid hun
      have hcn' := Lib.hid hcn
      have hS1' := Lib.hid hS1
      have hvl' := Lib.hid hvl
      clear hS hS1 hun hcn hxs hvl hlen
      replace hvl := hvl'
      clear hvl'
      go_wp2_with (first
        | (at_builtin; refine wpList_append_any_sep 0 rfl _ _ 29 rfl 3 i0 (.int .i64 0) 1 8 Try.underlying29 hinf hz0 hz1 hz2 rfl (by decide) (hS1'.out.sl_nil 3 1) (.slice none 0 0) 0 [] rfl rfl (.slice Au xs.length cu) xs.length (xs.map (.int .i64)) rfl (hun'.out.below hS1'.out.below) (by simp [Value.oneCell']) (by unfold maxLen; omega) (by omega) ?_)
        | fail)
      intro x1 w2 hSa hza
      try simp only [List.set_cons_zero, Nat.zero_add, List.nil_append] at hSa
      have a1 := hcn'.out w2 hSa.below
      have hSa' := Lib.hid hSa
      clear hSa hza a0 hS1'
      go_wp2_with (first
        | (at_builtin; refine wpList_append_any_sep 0 rfl _ _ 29 rfl 3 i0 (.int .i64 0) 1 8 Try.underlying29 hinf hz0 hz1 hz2 rfl (by decide) hSa'.out x1 xs.length (xs.map (.int .i64)) rfl rfl (.slice Au xs.length cu) xs.length (xs.map (.int .i64)) rfl (hun'.out.below hSa'.out.below) (by simp [Value.oneCell']) (by unfold maxLen; omega) (by omega) ?_)
        | fail)
      intro x2 w3 hSb hzb
      try simp only [List.set_cons_zero] at hSb
      have hSb' := Lib.hid hSb
      clear hSb hzb hSa' a1 hcn' hun'
      by_cases e : i = k
      case pos =>
        subst e
        have d3 : ((i : Int) == (i : Int)) = true := by simp
        have hSb2 := Lib.hid (hSb'.out.alloc (.cells #[.int .i64 i] 3))
        clear hSb'
        go_wp2_with (first
          | (at_builtin; refine wpList_append_sep 0 rfl _ _ 29 rfl 3 i0 (.int .i64 0) 1 8 Try.underlying29 hinf hz0 hz1 hz2 rfl (by decide) hSb2.out x2 (xs.length + xs.length) (xs.map (.int .i64) ++ xs.map (.int .i64)) rfl rfl ⟨w3.heap.size, 0, none⟩ 1 1 [.int .i64 i] rfl rfl (cell_one_new _ _ _) (by simp [Value.oneCell']) (by decide) (by unfold maxLen; omega) (by omega) ?_)
          | fail)
        intro gx capx w4 hSc0 hzc
        try simp only [List.set_cons_zero] at hSc0
        have hSc := Lib.hid hSc0
        clear hSc0 hzc hSb2
        have hSd := Lib.hid (hSc.out.alloc (.cells #[.slice (some ⟨gx, 0, none⟩) (xs.length + xs.length + 1) capx] 29))
        clear hSc
        go_wp2_with (first
          | (at_builtin; refine wpList_append_sep 1 rfl _ _ 22 rfl 29 i1 (.slice none 0 0) 1 24 Try.underlying22 hi1 hz10 hz11 hz12 rfl (by decide) hSd.out _ i vs rfl rfl ⟨w4.heap.size, 0, none⟩ 1 1 [.slice (some ⟨gx, 0, none⟩) (xs.length + xs.length + 1) capx] rfl rfl (cell_one_new _ _ _) (by simp [Value.oneCell']) (by decide) (by unfold maxLen; omega) (by omega) ?_)
          | fail)
        intro g cap w5 hS5 hsz5
        have hS6 : Sep w1 w5 [rowsR (.slice (some ⟨g, 0, none⟩) (i + 1) cap) ((twice xss i).take (i + 1)), rowsR lv (compRows xss)] := by
          rw [twice_take hlt]
          have hlen : ((twice xss i).take i).length = i := by rw [List.length_take, twice_len]; omega
          refine Sep.list_push (vs := vs) (u := .slice (some ⟨gx, 0, none⟩) (xs.length + xs.length + 1) capx) (by rw [hlen]; exact hvl.out) ?_
          rw [hlen]
          have e4 : (xs ++ xs ++ if i = i then [(i : Int)] else []) = xs ++ xs ++ [(i : Int)] := by rw [if_pos rfl]
          rw [← hxs'.out, e4]
          have e5 : intsR (.slice (some ⟨gx, 0, none⟩) (xs.length + xs.length + 1) capx) (xs ++ xs ++ [(i : Int)]) = .sl 3 1 (.slice (some ⟨gx, 0, none⟩) (xs.length + xs.length + 1) capx) (xs.length + xs.length + 1) (xs.map (.int .i64) ++ (xs.map (.int .i64) ++ [.int .i64 i])) := by unfold intsR; rw [List.map_append, List.map_append, List.length_append, List.length_append, List.append_assoc]; rfl
          rw [e5]
          exact hS5.perm ((List.Perm.swap _ _ _).trans (.cons _ List.perm_middle.symm))
        have hS6' := Lib.hid hS6
        clear hS5 hS6 hsz5 hSd
        go_wp2_with fail
        go_roundg (xss.length - (i + 1))
        case measure => rw [hmg.out]; omega
        case rel => exact ⟨i + 1, by omega, rfl, by go_num, hS6'.out⟩
      case neg =>
        have d3 : ((i : Int) == (k : Int)) = false := by simp; omega
        have hSc := hSb'
        clear hSb'
        obtain ⟨A3, c3, e3, _⟩ := id (hSc.out.sl_any 0 rfl)
        subst e3
        have hSd := Lib.hid (hSc.out.alloc (.cells #[.slice A3 (xs.length + xs.length) c3] 29))
        clear hSc
        go_wp2_with (first
          | (at_builtin; refine wpList_append_sep 1 rfl _ _ 22 rfl 29 i1 (.slice none 0 0) 1 24 Try.underlying22 hi1 hz10 hz11 hz12 rfl (by decide) hSd.out _ i vs rfl rfl ⟨w3.heap.size, 0, none⟩ 1 1 [.slice A3 (xs.length + xs.length) c3] rfl rfl (cell_one_new _ _ _) (by simp [Value.oneCell']) (by decide) (by unfold maxLen; omega) (by omega) ?_)
          | fail)
        intro g cap w5 hS5 hsz5
        have hS6 : Sep w1 w5 [rowsR (.slice (some ⟨g, 0, none⟩) (i + 1) cap) ((twice xss k).take (i + 1)), rowsR lv (compRows xss)] := by
          rw [twice_take hlt]
          have hlen : ((twice xss k).take i).length = i := by rw [List.length_take, twice_len]; omega
          refine Sep.list_push (vs := vs) (u := .slice A3 (xs.length + xs.length) c3) (by rw [hlen]; exact hvl.out) ?_
          rw [hlen]
          have e4 : (xs ++ xs ++ if i = k then [(k : Int)] else []) = xs ++ xs := by rw [if_neg e, List.append_nil]
          rw [← hxs'.out, e4]
          have e5 : intsR (.slice A3 (xs.length + xs.length) c3) (xs ++ xs) = .sl 3 1 (.slice A3 (xs.length + xs.length) c3) (xs.length + xs.length) (xs.map (.int .i64) ++ xs.map (.int .i64)) := by unfold intsR; rw [List.map_append, List.length_append]
          rw [e5]
          exact hS5.perm ((List.Perm.swap _ _ _).trans (.cons _ List.perm_middle.symm))
        have hS6' := Lib.hid hS6
        clear hS5 hS6 hsz5 hSd
        go_wp2_with fail
        go_roundg (xss.length - (i + 1))
        case measure => rw [hmg.out]; omega
        case rel => exact ⟨i + 1, by omega, rfl, by go_num, hS6'.out⟩
    obtain rfl : i = xss.length := by omega
    rw [List.take_of_length_le (by rw [twice_len]; exact Nat.le_refl _)] at hS
    have hS' := Lib.hid hS
    clear hS
    have h2len := twice_len (xss := xss) (k := k)
    obtain ⟨A5, c5, e5, _⟩ := (hS'.out.rows 0 rfl).shape
    rw [h2len] at e5
    subst e5
    have hx2 := Lib.hid (twice_refused hx'.out hkl h500.out)
    have hnm := Lib.hid (hS'.out.rows 0 rfl)
    have hca := Lib.hid (comps_any hnm.out)
    rw [hx2.out, twice_comp hx'.out hx2.out hn1.out] at hca
    go_wp2_with (go_at_call 10; refine hca.out.mono ?_; rintro e w6 ⟨av, rfl, hS⟩; (have hS6 := Lib.hid (hS'.out.join hS)); (have hnm6 := Lib.hid (hnm.out.below hS.below)); clear hS hca)
    have hra := Lib.hid (round_any hnm6.out)
    rw [hx2.out] at hra
    have hfound := Lib.hid (twice_found hx2.out hkl)
    generalize hrr : roundRows (twice xss k) = rr at hra hfound
    clear hrr
    go_wp2_with (go_at_call 14; refine hra.out.mono ?_; rintro e w7 ⟨rv, rfl, hS⟩; obtain ⟨A7, c7, e7, hm7⟩ := (hS.rows 0 rfl).shape; subst e7; (have hS7 := Lib.hid (hS6.out.join hS)); clear hS hra)
    have hsame := Lib.hid (same_any (hS7.out.rows 3 rfl) (hS7.out.rows 1 rfl))
    rw [decide_eq_true (show compRows xss = compRows xss from rfl)] at hsame
    go_wp2_with (first
      | (go_at_call 18; refine hsame.out.mono ?_; rintro e w' ⟨rfl, mm, rfl⟩; (have hS8 := Lib.hid (hS7.out.drewN mm)); clear hsame)
      | (go_at_call 11; refine (hnum'.out _ _).mono ?_; rintro e w' ⟨rfl, rfl⟩))
    generalize w7.drewN mm = w8 at hS8 ⊢
    have hb8 := Lib.hid (hb1'.out.trans (hS8.out.below.mono hb1'.out.size))
    clear hS7 hS6 hS' hnm hnm6 hn1 hS3
    unfold maxLen at hm7
    have d9 : (rr.length : Int) ≤ 9223372036854775807 := by omega
    go_loop [18] (fun ii => ∃ i : Nat, i ≤ rr.length ∧ ii = .int .i64 i ∧ Hid (∀ j (hj : j < rr.length), j < i → (k : Int) ∉ rr[j])) (fun ii => rr.length - (intOf ii).toNat)
    case atStart => exact ⟨0, Nat.zero_le _, rfl, fun j _ hj => absurd hj (Nat.not_lt_zero _)⟩
    case round =>
    obtain ⟨i, hi, rfl, hno⟩ := hrel
    by_cases hlt : i < rr.length
    case neg =>
      obtain rfl : i = rr.length := by omega
      obtain ⟨r, h1, h2⟩ := hfound.out
      obtain ⟨j, hj, rfl⟩ := List.mem_iff_getElem.1 h1
      exact absurd h2 (hno.out j hj hj)
    obtain ⟨gr, cr, ur, er, q1, ⟨Ar, crr, e2⟩, q2⟩ := rows_cells hS8.out hlt
    subst e2
    cases er
    have q3 := (hS8.out.rows 0 rfl).at_ hlt
    have hml : rr[i].length ≤ maxLen := by
      obtain ⟨_, _, u, _, _, hu⟩ := q3
      obtain ⟨_, _, _, h⟩ := hu.shape
      exact h
    unfold maxLen at hml
    have c3 : (0 : Int) ≤ (i : Int) := by omega
    have c4 : (i : Int) < (rr.length : Int) := by omega
    have c5 : (rr[i].length : Int) ≤ 9223372036854775807 := by omega
    have q2' := Lib.hid q2
    clear q2 q3 hml
    go_wp2_with fail
    go_loop [19] (fun jj => ∃ j : Nat, j ≤ rr[i].length ∧ jj = .int .i64 j ∧ Hid (∀ p (hp : p < rr[i].length), p < j → rr[i][p] ≠ (k : Int))) (fun jj => rr[i].length - (intOf jj).toNat)
    case atStart => exact ⟨0, Nat.zero_le _, rfl, fun j _ hj => absurd hj (Nat.not_lt_zero _)⟩
    case round =>
    obtain ⟨j, hj, rfl, hnoj⟩ := hrel
    by_cases hlj : j < rr[i].length
    case neg =>
      have hnew : Hid (∀ p (hp : p < rr.length), p < i + 1 → (k : Int) ∉ rr[p]) := fun p hp hpi => by
        rcases Nat.lt_or_ge p i with h' | h'
        · exact hno.out p hp h'
        · obtain rfl : p = i := by omega
          intro hm
          obtain ⟨x, hx, e⟩ := List.mem_iff_getElem.1 hm
          exact hnoj.out x hx (by omega) e
      go_wp2_with fail
      go_round
      case rel => exact ⟨i + 1, by omega, by go_num, hnew⟩
      case measure => simp [intOf]; omega
    obtain ⟨ga, ca, e3, q4⟩ := q2'.out (by omega)
    obtain ⟨rfl, rfl⟩ : Ar = some ⟨ga, 0, none⟩ ∧ crr = ca := by simpa using e3
    have q5 := q4 j hlj
    have c6 : (0 : Int) ≤ (j : Int) := by omega
    have c7' : (j : Int) < (rr[i].length : Int) := by omega
    clear q4 e3
    by_cases hv : rr[i][j] = (k : Int)
    case pos =>
      rw [hv] at q5
      have c8 : ((k : Int) == (k : Int)) = true := by simp
      go_wp2_with fail
      go_ret
      exact ⟨rfl, hb8.out⟩
    have c8 : (rr[i][j] == (k : Int)) = false := by simpa using hv
    have hnew : Hid (∀ p (hp : p < rr[i].length), p < j + 1 → rr[i][p] ≠ (k : Int)) := fun p hp hpj => by
      rcases Nat.lt_or_ge p j with h' | h'
      · exact hnoj.out p hp h'
      · obtain rfl : p = j := by omega
        exact hv
    clear hv
    generalize rr[i][j] = x at q5 c8
    go_wp2_with fail
    go_round
    case rel => exact ⟨j + 1, by omega, by go_num, hnew⟩
    case measure => simp [intOf]; omega

theorem more_any {xss : List (List Int)} {w : World} {nv : Value} {who : Int} (hn : RowsAt w nv xss) (hw : who ≤ 9223372036854775807) :
    Calls Try.prog 7 #[nv, .int .i64 who] w fun e w' => e = .returned (.bool true) ∧ Below w.heap.size w w' := by
  by_cases h : muchB xss = true ∨ xss.length = 0 ∨ who < 0
  · exact more_out hn h
  simp only [not_or] at h
  obtain ⟨h1, h2, h3⟩ := h
  obtain ⟨m, rfl⟩ := Int.eq_ofNat_of_zero_le (show 0 ≤ who by omega)
  exact more_in hn (by simpa using h1) (by omega) (by omega)
end Go.Proofs.Ytdidkpgdjehodaa
