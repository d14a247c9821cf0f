/- CompRow, walked. -/
import Derived.Test.YtdidkpgdjehodaaRowPlain
import Derived.Test.YtdidkpgdjehodaaMore
import Derived.IntWalk
namespace Go.Proofs.Ytdidkpgdjehodaa
open Go.RowKit
set_option linter.unusedVariables false

def sOf (zs : List Int) (r : Nat) : Nat := (zs.getD r 0).toNat
def cntTo (s : Nat → Nat) (i : Nat) : Nat := ((List.range i).filter fun r => decide (1 < s r)).length
theorem cntTo_succ (s : Nat → Nat) (i : Nat) : cntTo s (i + 1) = cntTo s i + if 1 < s i then 1 else 0 := by
  unfold cntTo
  rw [List.range_succ, List.filter_append, List.length_append]
  congr 1
  by_cases h : 1 < s i <;> simp [h]
theorem cntTo_le (s : Nat → Nat) (i : Nat) : cntTo s i ≤ i := by
  have := List.length_filter_le (fun r => decide (1 < s r)) (List.range i)
  simpa [cntTo] using this
def firstsTo (s : Nat → Nat) (i : Nat) : List Int := (List.range i).map fun r => ((fOf s r : Nat) : Int)
theorem firstsTo_succ (s : Nat → Nat) (i : Nat) : firstsTo s (i + 1) = firstsTo s i ++ [((fOf s i : Nat) : Int)] := by simp [firstsTo, List.range_succ]
theorem firstsTo_len (s : Nat → Nat) (i : Nat) : (firstsTo s i).length = i := by simp [firstsTo]

theorem ints_cell {w : World} {g n c : Nat} {xs : List Int} (h : IntsAt w (.slice (some ⟨g, 0, none⟩) n c) xs) {j : Nat} (hj : j < xs.length) : w.cell? ⟨g, j, none⟩ = some (.int .i64 xs[j]) := by
  obtain ⟨ad, c', e, hc⟩ := h.at_ hj
  injection e with e1 e2 e3
  injection e1 with e1
  subst e1
  have hadd : (⟨g, 0, none⟩ : Addr).add j = ⟨g, j, none⟩ := by unfold Addr.add; split <;> simp_all
  rw [hadd] at hc
  exact hc
theorem firstsTo_at {s : Nat → Nat} {i r : Nat} (h : r < (firstsTo s i).length) : (firstsTo s i)[r] = ((fOf s r : Nat) : Int) := by simp [firstsTo]

set_option maxRecDepth 100000 in
set_option maxHeartbeats 1000000 in
theorem row_out {zs : List Int} {w : World} {sv : Value} (hn : IntsAt w sv zs) (h : zs.length = 0 ∨ 12 < zs.length) :
    Calls Try.prog 6 #[sv] w fun e w' => e = .returned (.bool true) ∧ Below w.heap.size w w' := by
  have hal := Lib.hid (alive_any w)
  obtain ⟨A, cA, rfl, _⟩ := hn.shape
  clear hn
  generalize zs.length = n at h ⊢
  rcases h with rfl | h
  · go_enter Try.func6, Try.ntmps6
    go_wp2_with (go_at_call 8; refine hal.out.mono ?_; rintro e w1 ⟨rfl, hb1⟩)
    go_ret
    exact ⟨rfl, hb1⟩
  · have b1 : ((n : Int) == 0) = false := by simp; omega
    have b2 : (12 : Int) < (n : Int) := by omega
    have b3 : ¬ n = 0 := by omega
    go_enter Try.func6, Try.ntmps6
    go_wp2_with (go_at_call 8; refine hal.out.mono ?_; rintro e w1 ⟨rfl, hb1⟩)
    go_ret
    exact ⟨rfl, hb1⟩

attribute [local go_sem ↓] Go.wp_at_zero Go.wp_at_succ
set_option maxRecDepth 100000 in
set_option maxHeartbeats 8000000 in
theorem row_in {zs : List Int} {w : World} {sv : Value} (hn : IntsAt w sv zs) (h0 : 0 < zs.length) (h12 : zs.length ≤ 12) :
    Calls Try.prog 6 #[sv] w fun e w' => e = .returned (.bool true) ∧ Below w.heap.size w w' := by
  have hal := Lib.hid (alive_any w)
  obtain ⟨A, cA, rfl, _⟩ := hn.shape
  obtain ⟨i0, hinf, hz0, hz1, hz2⟩ := info_parts info_int
  obtain ⟨i1, hi1, hz10, hz11, hz12⟩ := info_parts info_ints
  have b1 : ((zs.length : Int) == 0) = false := by simp; intro e; simp [e] at h0
  have b2 : ¬ (12 : Int) < (zs.length : Int) := by omega
  have b3 : ¬ zs = [] := by intro e; rw [e] at h0; exact Nat.lt_irrefl _ h0
  have b4 : (zs.length : Int) ≤ 12 := by omega
  obtain ⟨s, hs⟩ : ∃ s, s = sOf zs := ⟨_, rfl⟩
  have hs' := Lib.hid hs
  have hn' := Lib.hid hn
  clear hn hs
  go_enter Try.func6, Try.ntmps6
  go_wp2_with (go_at_call 8; refine hal.out.mono ?_; rintro e w1 ⟨rfl, hb1⟩; (have hb1' := Lib.hid hb1); clear hb1)
  have hn1 := Lib.hid (hn'.out.below hb1'.out)
  go_loopg [4, 5, 6, 7] zs.length (fun g nv fv rv ii wr => ∃ i : Nat, i ≤ zs.length ∧ Hid (g = zs.length - i) ∧ ii = .int .i64 i ∧ rv = .int .i64 (cntTo s i : Nat) ∧
    Hid (∀ r, r < i → (1 ≤ s r ∧ s r ≤ 9) ∧ zs.getD r 0 = (s r : Int)) ∧ Sep w1 wr [rowsR nv ((ownTo s i).map (cellOf s)), intsR fv (firstsTo s i)])
  case atStart => exact ⟨0, Nat.zero_le _, rfl, rfl, rfl, fun r hr => absurd hr (Nat.not_lt_zero _), (intsR_nil (Sep.nil w1)).list_nil _ _⟩
  case round =>
  obtain ⟨i, hi, hm, rfl, rfl, hall, hS⟩ := hrel
  by_cases hlt : i < zs.length
  case pos =>
    obtain ⟨ad, c', e, hcn⟩ := hn1.out.all hlt
    cases e
    have a0 := hcn wr hS.below
    have d1 : (0 : Int) ≤ (i : Int) := by omega
    have d2 : (i : Int) < (zs.length : Int) := by omega
    have hgd : zs.getD i 0 = zs[i] := by simp [List.getD, hlt]
    have hsi : s i = (zs[i]).toNat := by rw [hs'.out]; unfold sOf; rw [hgd]
    by_cases hbad : zs[i] < 1 ∨ 9 < zs[i]
    case pos =>
      have hb := Lib.hid (hb1'.out.trans (hS.below.mono hb1'.out.size))
      generalize zs[i] = z at a0 hbad
      clear hS hcn hgd hsi
      rcases hbad with h | h
      · go_wp2_with fail
        go_ret
        exact ⟨rfl, hb.out⟩
      · have h' : ¬ z < 1 := by omega
        go_wp2_with fail
        go_ret
        exact ⟨rfl, hb.out⟩
    have hz : zs[i] = ((s i : Nat) : Int) := by omega
    have hsb : 1 ≤ s i ∧ s i ≤ 9 := by omega
    rw [hz] at a0
    have hall2 : Hid (∀ r, r < i + 1 → (1 ≤ s r ∧ s r ≤ 9) ∧ zs.getD r 0 = (s r : Int)) := fun r hr => by
      rcases Nat.lt_or_ge r i with h' | h'
      · exact hall.out r h'
      · obtain rfl : r = i := by omega
        exact ⟨hsb, hgd.trans hz⟩
    have hfb : fOf s i ≤ 9 * i := fOf_bound fun r hr => (hall.out r hr).1.2
    have hfsu : fOf s (i + 1) = fOf s i + s i := rfl
    have hcnt := cntTo_succ s i
    have hcle := cntTo_le s i
    obtain ⟨n, hn9⟩ : ∃ n, n = s i := ⟨_, rfl⟩
    rw [← hn9] at a0 hsb hcnt
    obtain ⟨at_, hat⟩ : ∃ at_, at_ = fOf s i := ⟨_, rfl⟩
    rw [← hat] at hfb
    have d3 : ¬ ((n : Int) < 1) := by omega
    have d4 : ¬ (9 : Int) < (n : Int) := by omega
    have d5 : (1 : Int) ≤ (n : Int) := by omega
    have d6 : (n : Int) ≤ 9 := by omega
    have d7 : (at_ : Int) ≤ 108 := by omega
    have d8 : (0 : Int) ≤ (at_ : Int) := by omega
    obtain ⟨A4, c4, e4, _⟩ := (hS.rows 0 rfl).shape
    rw [List.length_map, ownTo_len, ← hat] at e4
    subst e4
    have hn9' := Lib.hid hn9
    have hat' := Lib.hid hat
    have hcnt' := Lib.hid hcnt
    have hS2 := Lib.hid (hS.alloc (.cells #[.int .i64 at_] 3))
    clear hS hcn hgd hsi hz hall hn9 hat hcnt hfsu
    go_wp2_with (first
      | (at_builtin; refine wpList_append_sep 1 rfl _ _ 29 rfl 3 i0 (.int .i64 0) 1 8 Try.underlying29 hinf hz0 hz1 hz2 rfl (by decide) hS2.out u5 (firstsTo s i).length ((firstsTo s i).map (.int .i64)) rfl rfl ⟨wr.heap.size, 0, none⟩ 1 1 [.int .i64 at_] rfl rfl (cell_one_new _ _ _) (by simp [Value.oneCell']) (by decide) (by rw [firstsTo_len]; unfold maxLen; omega) (by rw [firstsTo_len]; omega) ?_)
      | fail)
    intro gF capF w2 hS3 hsz
    have hS4 : Sep w1 w2 [rowsR (.slice A4 at_ c4) ((own s i 0).map (cellOf s)), intsR (.slice (some ⟨gF, 0, none⟩) (i + 1) capF) (firstsTo s (i + 1))] := by
      rw [own_zero, firstsTo_succ]
      have e : intsR (.slice (some ⟨gF, 0, none⟩) (i + 1) capF) (firstsTo s i ++ [((fOf s i : Nat) : Int)]) = .sl 3 1 (.slice (some ⟨gF, 0, none⟩) ((firstsTo s i).length + 1) capF) ((firstsTo s i).length + 1) ((firstsTo s i).map (.int .i64) ++ [.int .i64 at_]) := by
        unfold intsR
        rw [List.map_append, List.length_append, firstsTo_len, hat'.out]
        rfl
      rw [e]
      exact hS3
    rw [firstsTo_len]
    have hS4' := Lib.hid hS4
    clear hS3 hS4 hsz hS2
    go_wp2_with fail
    go_loopg [4, 10] n (fun g nv kk wr => ∃ p : Nat, p ≤ n ∧ Hid (g = n - p) ∧ kk = .int .i64 p ∧ Sep w1 wr [rowsR nv ((own s i p).map (cellOf s)), intsR (.slice (some ⟨gF, 0, none⟩) (i + 1) capF) (firstsTo s (i + 1))])
    case atStart => exact ⟨0, Nat.zero_le _, rfl, rfl, hS4'.out⟩
    case round =>
    obtain ⟨p, hp, hm2, rfl, hS⟩ := hrel
    by_cases hlp : p < n
    case neg =>
      obtain rfl : p = n := by omega
      have hS5 : Sep w1 wr [rowsR u4 ((ownTo s (i + 1)).map (cellOf s)), intsR (.slice (some ⟨gF, 0, none⟩) (i + 1) capF) (firstsTo s (i + 1))] := by
        rw [← own_full, ← hn9'.out]
        exact hS
      have hS5' := Lib.hid hS5
      clear hS hS5 hS4'
      by_cases hone : 1 < p
      · have k1 : (1 : Int) < (p : Int) := by omega
        have hc : Hid (cntTo s (i + 1) = cntTo s i + 1) := by
          have := hcnt'.out
          rw [if_pos hone] at this
          exact this
        go_wp2_with fail
        go_roundg (zs.length - (i + 1))
        case measure => rw [hm.out]; omega
        case rel => exact ⟨i + 1, by omega, rfl, by go_num, by rw [hc.out]; go_num, hall2, hS5'.out⟩
      · have k1 : ¬ (1 : Int) < (p : Int) := by omega
        have hc : Hid (cntTo s (i + 1) = cntTo s i) := by
          have := hcnt'.out
          rw [if_neg hone] at this
          exact this
        go_wp2_with fail
        go_roundg (zs.length - (i + 1))
        case measure => rw [hm.out]; omega
        case rel => exact ⟨i + 1, by omega, rfl, by go_num, by rw [hc.out], hall2, hS5'.out⟩
    have k2 : (0 : Int) ≤ (p : Int) := by omega
    have k3 : (p : Int) < (n : Int) := by omega
    obtain ⟨vs, hvl, hS1⟩ := Sep.list_open hS
    rw [List.length_map, own_len, ← hat'.out] at hvl hS1
    have hvl' := Lib.hid hvl
    have hatl : at_ + p ≤ 117 := by omega
    have hpush : ∀ (w' : World) (g m cap : Nat) (u : Value) (row : List Int), m = at_ + p → cellOf s (i, p) = row → Sep w1 w' (.sl 29 1 (.slice (some ⟨g, 0, none⟩) (m + 1) cap) (m + 1) (vs ++ [u]) :: (List.zipWith intsR vs ((own s i p).map (cellOf s)) ++ (intsR u row :: [intsR (.slice (some ⟨gF, 0, none⟩) (i + 1) capF) (firstsTo s (i + 1))]))) →
        Sep w1 w' [rowsR (.slice (some ⟨g, 0, none⟩) (m + 1) cap) ((own s i (p + 1)).map (cellOf s)), intsR (.slice (some ⟨gF, 0, none⟩) (i + 1) capF) (firstsTo s (i + 1))] := by
      rintro w' g m cap u row rfl rfl h
      rw [own_succ, List.map_append]
      have hl2 : ((own s i p).map (cellOf s)).length = at_ + p := by rw [List.length_map, own_len, hat'.out]
      refine Sep.list_push (vs := vs) (u := u) (by rw [hl2]; exact hvl'.out) ?_
      rw [hl2]
      exact h
    have hpush' := Lib.hid hpush
    by_cases hone : 1 < n
    case pos =>
      have k1 : (1 : Int) < (n : Int) := by omega
      have hmod : (0 : Int) ≤ ((p : Int) + 1) % (n : Int) ∧ ((p : Int) + 1) % (n : Int) < (n : Int) := ⟨Int.emod_nonneg _ (by omega), Int.emod_lt_of_pos _ (by omega)⟩
      obtain ⟨k4, k5⟩ := hmod
      have hrow : Hid (cellOf s (i, p) = [(at_ : Int) + ((p : Int) + 1) % (n : Int)]) := by
        show _ = _
        unfold cellOf
        rw [if_pos (by rw [← hn9'.out]; exact hone), ← hat'.out, ← hn9'.out]
        simp
      have hS2 := Lib.hid ((hS1.lit 3 #[.int .i64 ((at_ : Int) + ((p : Int) + 1) % (n : Int))] (by simp [maxLen])).alloc (.cells #[.slice (some ⟨wr.heap.size, 0, none⟩) 1 1] 29))
      clear hS hS1 hpush hvl hS4'
      go_wp2_with (first
        | (at_builtin; refine wpList_append_sep 1 rfl _ _ 22 rfl 29 i1 (.slice none 0 0) 1 24 Try.underlying22 hi1 hz10 hz11 hz12 rfl (by decide) hS2.out u4 (at_ + p) vs rfl rfl ⟨wr.heap.size + 1, 0, none⟩ 1 1 [.slice (some ⟨wr.heap.size, 0, none⟩) 1 1] rfl rfl (cells_new _ _ _ _ (by simp)) (by simp [Value.oneCell']) (by decide) (by unfold maxLen; omega) (by omega) ?_)
        | fail)
      intro g cap w3 hS5 hsz
      have hS6 := Lib.hid (hpush'.out _ _ _ _ _ _ rfl hrow.out (hS5.perm ((List.Perm.swap _ _ _).trans (.cons _ List.perm_middle.symm))))
      clear hS5 hsz hS2 hpush'
      go_wp2_with fail
      go_roundg (n - (p + 1))
      case measure => rw [hm2.out]; omega
      case rel => exact ⟨p + 1, by omega, rfl, by go_num, hS6.out⟩
    case neg =>
      have k1 : ¬ (1 : Int) < (n : Int) := by omega
      have hrow : Hid (cellOf s (i, p) = []) := by
        show _ = _
        unfold cellOf
        rw [if_neg (by rw [← hn9'.out]; exact hone)]
      have hS2 := Lib.hid ((hS1.sl_nil 3 1).alloc (.cells #[.slice none 0 0] 29))
      clear hS hS1 hpush hvl hS4'
      go_wp2_with (first
        | (at_builtin; refine wpList_append_sep 1 rfl _ _ 22 rfl 29 i1 (.slice none 0 0) 1 24 Try.underlying22 hi1 hz10 hz11 hz12 rfl (by decide) hS2.out u4 (at_ + p) vs rfl rfl ⟨wr.heap.size, 0, none⟩ 1 1 [.slice none 0 0] rfl rfl (cell_one_new _ _ _) (by simp [Value.oneCell']) (by decide) (by unfold maxLen; omega) (by omega) ?_)
        | fail)
      intro g cap w3 hS5 hsz
      have hS6 := Lib.hid (hpush'.out _ _ _ _ _ _ rfl hrow.out (hS5.perm ((List.Perm.swap _ _ _).trans (.cons _ List.perm_middle.symm))))
      clear hS5 hsz hS2 hpush'
      go_wp2_with fail
      go_roundg (n - (p + 1))
      case measure => rw [hm2.out]; omega
      case rel => exact ⟨p + 1, by omega, rfl, by go_num, hS6.out⟩
  obtain rfl : i = zs.length := by omega
  have hpos : 0 < fOf s zs.length := by
    have h1 := fOf_lt (s := s) (k := zs.length) (fun r hr => (hall.out r hr).1.1) h0 (Nat.le_refl _)
    omega
  have hbnd := fOf_bound (s := s) (k := zs.length) fun r hr => (hall.out r hr).1.2
  obtain ⟨N, hN⟩ : ∃ N, N = fOf s zs.length := ⟨_, rfl⟩
  rw [← hN] at hpos hbnd
  have hN' := Lib.hid hN
  obtain ⟨vs, hvl, hS1⟩ := Sep.list_open hS
  rw [List.length_map, ownTo_len, ← hN] at hvl hS1
  rw [← rowX_zero] at hS1
  obtain ⟨gN, cN, rfl, _, _, hc1, hc2⟩ := hS1.sl_form 0 rfl hpos
  have hS2 : Sep w1 wr (intsR u5 (firstsTo s zs.length) :: .sl 29 1 (.slice (some ⟨gN, 0, none⟩) N cN) N vs :: List.zipWith intsR vs (rowX s zs.length 0)) := by
    refine hS1.perm ?_
    exact (List.Perm.cons _ (List.perm_append_singleton _ _)).trans (List.Perm.swap _ _ _)
  obtain ⟨gF, cF, e5, _, _, hd1, hd2⟩ := hS2.sl_form 0 rfl (by rw [firstsTo_len]; exact h0)
  rw [firstsTo_len] at e5 hd1
  subst e5
  unfold maxLen at hc2 hd2
  have b5 : (N : Int) ≤ 108 := by omega
  have hS2' := Lib.hid hS2
  clear hS hS1 hS2 hN
  have b6 : (0 : Int) < (zs.length : Int) := by omega
  go_wp2_with fail
  go_loopg [11] zs.length (fun g ii wr => ∃ (j : Nat) (vs : List Value), j + 1 ≤ zs.length ∧ Hid (g = zs.length - j) ∧ ii = .int .i64 j ∧ Hid (vs.length = N) ∧
    Sep w1 wr (intsR (.slice (some ⟨gF, 0, none⟩) zs.length cF) (firstsTo s zs.length) :: .sl 29 1 (.slice (some ⟨gN, 0, none⟩) N cN) N vs :: List.zipWith intsR vs (rowX s zs.length j)))
  case atStart => exact ⟨0, vs, h0, rfl, rfl, hvl, hS2'.out⟩
  case round =>
  obtain ⟨j, vs2, hj, hm3, rfl, hvl2, hS⟩ := hrel
  have k0 : (0 : Int) ≤ (j : Int) := by omega
  have k1 : (j : Int) < (zs.length : Int) := by omega
  by_cases hlj : j + 1 < zs.length
  case pos =>
    have k2 : (j : Int) + 1 < (zs.length : Int) := by omega
    have hjs := (hall.out j (by omega)).1
    have hfN : fOf s j + 0 < fOf s zs.length := pos_lt (by omega) (by omega)
    have hrowj := rowX_at (s := s) (k := zs.length) (j := j) (r := j) (p := 0) (by omega) (by omega)
    have hset := Lib.hid (rowX_set (s := s) (k := zs.length) (fun r hr => (hall.out r hr).1.1) (j := j) (by omega))
    rw [Nat.add_zero] at hfN hrowj
    rw [← hN'.out] at hfN
    have hlen : (linkOf s j (j, 0)).length ≤ 2 := by
      unfold linkOf cellOf
      split <;> split <;> simp
    have q1 : wr.cell? ⟨gF, j, none⟩ = some (.int .i64 (fOf s j : Nat)) := by
      rw [ints_cell (hS.ints 0 rfl) (show j < (firstsTo s zs.length).length by rw [firstsTo_len]; omega), firstsTo_at]
    have q2 : wr.cell? ⟨gF, j + 1, none⟩ = some (.int .i64 (fOf s (j + 1) : Nat)) := by
      rw [ints_cell (hS.ints 0 rfl) (show j + 1 < (firstsTo s zs.length).length by rw [firstsTo_len]; omega), firstsTo_at]
    obtain ⟨xs, hxs⟩ : ∃ xs, xs = linkOf s j (j, 0) := ⟨_, rfl⟩
    rw [← hxs] at hrowj hset hlen
    clear hxs
    obtain ⟨fj, hfj⟩ : ∃ fj, fj = fOf s j := ⟨_, rfl⟩
    obtain ⟨fk, hfk⟩ : ∃ fk, fk = fOf s (j + 1) := ⟨_, rfl⟩
    rw [← hfj] at hfN hrowj q1 hset
    rw [← hfk] at q2 hset
    clear hfj hfk hjs
    have hvl3 := hvl2.out
    have hu : vs2[fj]? = some (vs2[fj]'(by omega)) := List.getElem?_eq_getElem _
    generalize vs2[fj]'(by omega) = u at hu
    have hpk : (intsR (.slice (some ⟨gF, 0, none⟩) zs.length cF) (firstsTo s zs.length) :: .sl 29 1 (.slice (some ⟨gN, 0, none⟩) N cN) N vs2 :: List.zipWith intsR vs2 (rowX s zs.length j))[fj + 2]? = some (intsR u xs) := zip_some (f := intsR) hu hrowj
    have q3 : wr.cell? ⟨gN, fj, none⟩ = some u := by rw [hS.cellAt 1 rfl fj (by omega)]; exact hu
    obtain ⟨Au, cu, rfl, hu1, hu2, _⟩ := hS.sl_any (fj + 2) hpk
    have k3 : (fj : Int) < (N : Int) := by omega
    have k4 : (0 : Int) ≤ (fj : Int) := by omega
    have hq : ∀ (w' : World) (As : List Asn), Sep w1 w' (intsR (.slice (some ⟨gF, 0, none⟩) zs.length cF) (firstsTo s zs.length) :: As) → w'.cell? ⟨gF, j, none⟩ = some (.int .i64 fj) ∧ w'.cell? ⟨gF, j + 1, none⟩ = some (.int .i64 fk) := by
      intro w' As h
      have e1 := ints_cell (h.ints 0 rfl) (show j < (firstsTo s zs.length).length by rw [firstsTo_len]; omega)
      have e2 := ints_cell (h.ints 0 rfl) (show j + 1 < (firstsTo s zs.length).length by rw [firstsTo_len]; omega)
      have e3 := ints_cell (hS.ints 0 rfl) (show j < (firstsTo s zs.length).length by rw [firstsTo_len]; omega)
      have e4 := ints_cell (hS.ints 0 rfl) (show j + 1 < (firstsTo s zs.length).length by rw [firstsTo_len]; omega)
      exact ⟨e1.trans (e3.symm.trans q1), e2.trans (e4.symm.trans q2)⟩
    have hq' := Lib.hid hq
    have hS0 := Lib.hid hS
    have hpk' := Lib.hid hpk
    have hlen' : xs.length ≤ 2 := hlen
    have hu' := Lib.hid hu
    obtain ⟨qA1, qA2⟩ := hq _ _ (hS.alloc (.cells #[.int .i64 fk] 3))
    have qA3 : (wr.alloc (.cells #[.int .i64 fk] 3)).cell? ⟨gN, fj, none⟩ = some (.slice Au xs.length cu) := by rw [(hS.alloc (.cells #[.int .i64 fk] 3)).cellAt 1 rfl fj (by omega)]; exact hu
    have hA : xs.length + 1 ≤ maxLen := by unfold maxLen; omega
    have hB : (xs.length + 1) * 8 ≤ 140737488355328 := by omega
    have hC : fj < N * 1 := by omega
    have k5 : (0 : Int) ≤ (j : Int) + 1 := by omega
    have k6 : ((j : Int) + 1).toNat = j + 1 := by omega
    clear hS hpk hq hu hrowj hlen hvl3 hu1 hu2
    go_wp2_with fail
    have k7 : IntKind.i64.wrap ((j : Int) + 1) = (j : Int) + 1 := IntWalk.i64_in _ (by omega)
    have hfin : ∀ (w2 : World) (g cap : Nat), Sep w1 w2 ((intsR (.slice (some ⟨gF, 0, none⟩) zs.length cF) (firstsTo s zs.length) :: .sl 29 1 (.slice (some ⟨gN, 0, none⟩) N cN) N vs2 :: List.zipWith intsR vs2 (rowX s zs.length j)).set (fj + 2) (.sl 3 1 (.slice (some ⟨g, 0, none⟩) (xs.length + 1) cap) (xs.length + 1) (xs.map (.int .i64) ++ [.int .i64 fk]))) →
        Sep w1 (w2.setCell ⟨gN, fj, none⟩ (.slice (some ⟨g, 0, none⟩) (xs.length + 1) cap)) (intsR (.slice (some ⟨gF, 0, none⟩) zs.length cF) (firstsTo s zs.length) :: .sl 29 1 (.slice (some ⟨gN, 0, none⟩) N cN) N (vs2.set fj (.slice (some ⟨g, 0, none⟩) (xs.length + 1) cap)) :: List.zipWith intsR (vs2.set fj (.slice (some ⟨g, 0, none⟩) (xs.length + 1) cap)) (rowX s zs.length (j + 1))) := by
      intro w2 g cap h
      have h2 := h.stored 1 rfl fj (.slice (some ⟨g, 0, none⟩) (xs.length + 1) cap)
      rw [← hset.out, zip_set]
      have e : intsR (.slice (some ⟨g, 0, none⟩) (xs.length + 1) cap) (xs ++ [(fk : Int)]) = .sl 3 1 (.slice (some ⟨g, 0, none⟩) (xs.length + 1) cap) (xs.length + 1) (xs.map (.int .i64) ++ [.int .i64 fk]) := by
        unfold intsR
        rw [List.map_append, List.length_append]
        rfl
      rw [e]
      exact h2
    have hfin' := Lib.hid hfin
    clear hfin
    -- REGION
    go_region_law ((refine step_append_sep (fj + 2) (by rfl) _ _ 29 (by rfl) 3 i0 (.int .i64 0) 1 8 Try.underlying29 hinf hz0 hz1 hz2 rfl (by decide) (hS0.out.alloc (.cells #[.int .i64 fk] 3)).drew (.slice Au xs.length cu) xs.length (xs.map (.int .i64)) hpk'.out (by rfl) ⟨wr.heap.size, 0, none⟩ 1 1 [.int .i64 fk] (by rfl) (by rfl) (cell_one_new _ _ _) (by simp [Value.oneCell']) (by decide) hA hB ?_); intro g cap w2 hSa0 hza; have hSb := Lib.hid (hfin'.out w2 g cap hSa0); have r1 := hSa0.cellAt 1 rfl fj hC; have r2 := hSa0.frozenAt 1 rfl fj; rw [hu'.out] at r1; obtain ⟨r3, r4⟩ := hq'.out _ _ hSa0; clear hSa0 hza)
    all_goals
      go_wp2_with fail
      go_roundg (zs.length - (j + 1))
      case measure => rw [hm3.out]; omega
      case rel => exact ⟨j + 1, vs2.set fj (.slice (some ⟨g, 0, none⟩) (xs.length + 1) cap), by omega, rfl, by go_num, Lib.hid (by rw [List.length_set]; exact hvl2.out), hSb.out⟩
    -- END
  obtain rfl : j = zs.length - 1 := by omega
  have hall' : ∀ r, r < zs.length → 1 ≤ s r ∧ s r ≤ 9 := fun r hr => (hall.out r hr).1
  obtain ⟨y1, y2, y3⟩ := row_says hall' h12
  have hok := row_ok hall' h12
  generalize hX : rowX s zs.length (zs.length - 1) = X at hS y1 y2 y3 hok
  have hXl : X.length = N := by rw [← hX, rowX_len, hN'.out]
  have hS3 : Sep w1 wr [intsR (.slice (some ⟨gF, 0, none⟩) zs.length cF) (firstsTo s zs.length), rowsR (.slice (some ⟨gN, 0, none⟩) N cN) X] := by
    have h1 : Sep w1 wr (.sl 29 1 (.slice (some ⟨gN, 0, none⟩) N cN) N vs2 :: (List.zipWith intsR vs2 X ++ [intsR (.slice (some ⟨gF, 0, none⟩) zs.length cF) (firstsTo s zs.length)])) :=
      hS.perm ((List.Perm.swap _ _ _).trans (.cons _ (List.perm_append_singleton _ _).symm))
    have h2 : Sep w1 wr (rowsR (.slice (some ⟨gN, 0, none⟩) N cN) X :: [intsR (.slice (some ⟨gF, 0, none⟩) zs.length cF) (firstsTo s zs.length)]) := by
      refine Sep.list_shut (vs := vs2) (by rw [hXl]; exact hvl2.out) ?_
      rw [hXl]
      exact h1
    exact h2.perm (List.Perm.swap _ _ _)
  have hS3' := Lib.hid hS3
  clear hS hS3 hX hXl
  have hx3 := Lib.hid (hS3'.out.rows 1 rfl)
  have hca := Lib.hid (comps_any hx3.out)
  rw [hok] at hca
  have hnum : ∀ (x : Int) W, Calls Try.prog 11 #[.int .i64 x] W fun e w' => e = .returned (.int .i64 x) ∧ W = w' := fun x W => num_any x W
  have hnum' := Lib.hid hnum
  have hok' := Lib.hid hok
  have y2' := Lib.hid y2
  have y1' := Lib.hid y1
  have y3' : Hid ((roundRows X).length = cntTo s zs.length) := y3
  clear hnum hok y1 y2 y3 hall'
  go_wp2_with (go_at_call 10; refine hca.out.mono ?_; rintro e w6 ⟨lv, rfl, hS⟩; obtain ⟨A6, c6, e6, _⟩ := (hS.rows 0 rfl).shape; rw [y1'.out] at e6; subst e6; (have hS6 := Lib.hid (hS3'.out.join hS)); (have hx6 := Lib.hid (hx3.out.below hS.below)); clear hS hca)
  have hra := Lib.hid (round_any hx6.out)
  rw [hok'.out] at hra
  have b7 : (((zs.length : Int)) != ((zs.length : Int))) = false := by simp
  have b8 : ((((cntTo s zs.length : Nat) : Int)) != (((cntTo s zs.length : Nat) : Int))) = false := by simp
  go_wp2_with (first
    | (go_at_call 14; refine hra.out.mono ?_; rintro e w7 ⟨rv, rfl, hS⟩; obtain ⟨A7, c7, e7, _⟩ := (hS.rows 0 rfl).shape; rw [y3'.out] at e7; subst e7; (have hS7 := Lib.hid (hS6.out.join hS)); clear hS hra)
    | (go_at_call 11; refine (hnum'.out _ _).mono ?_; rintro e w' ⟨rfl, rfl⟩))
  have hb7 := Lib.hid (hb1'.out.trans (hS7.out.below.mono hb1'.out.size))
  have hn7 := Lib.hid (hn1.out.below hS7.out.below)
  go_loopg [16] zs.length (fun g ii wr => ∃ t m : Nat, t ≤ zs.length ∧ Hid (g = zs.length - t) ∧ ii = .int .i64 t ∧ wr = w7.drewN m)
  case atStart => exact ⟨0, 0, Nat.zero_le _, rfl, rfl, rfl⟩
  case round =>
  obtain ⟨t, m, ht, hmt, rfl, rfl⟩ := hrel
  by_cases hlt2 : t < zs.length
  case neg =>
    obtain rfl : t = zs.length := by omega
    have hb8 := Lib.hid (hb1'.out.trans ((hS7.out.drewN m).below.mono hb1'.out.size))
    go_wp2_with fail
    go_ret
    exact ⟨rfl, hb8.out⟩
  obtain ⟨r, hr⟩ : ∃ r, r = zs.length - 1 - t := ⟨_, rfl⟩
  have hrl : r < zs.length := by omega
  have ez : (zs.length : Int) - 1 - (t : Int) = (r : Int) := by omega
  have ez' := Lib.hid ez
  clear ez
  have hST := fun n => hS7.out.drewN n
  have htl : t < (compRows X).length := by rw [y1'.out]; exact hlt2
  obtain ⟨z1, l1, z2⟩ := y2'.out t htl
  rw [← hr] at z1 z2
  have hcell : ∃ gl cl gr cr, (Value.slice A6 zs.length c6 = .slice (some ⟨gl, 0, none⟩) zs.length cl) ∧ ∀ n, (w7.drewN n).cell? ⟨gl, t, none⟩ = some (.slice (some ⟨gr, 0, none⟩) (s r) cr) ∧ (w7.drewN n).cell? ⟨gr, 0, none⟩ = some (.int .i64 (fOf s r : Nat)) := by
    have hlp : 0 < (compRows X)[t].length := by rw [z2]; simp
    have key := fun n => rows_cells (k := t) (Sep.sel [1, 0] (hST n) (by decide) (by simp)) htl
    obtain ⟨gl, cl, u0, e0, k1, _, k2⟩ := key 0
    obtain ⟨gr, cr, eu, k3⟩ := k2 hlp
    rw [y1'.out] at e0
    rw [z1] at eu
    refine ⟨gl, cl, gr, cr, e0, fun n => ?_⟩
    obtain ⟨gl', cl', u1, e1, k4, _, k5⟩ := key n
    obtain ⟨gr', cr', eu', k6⟩ := k5 hlp
    rw [y1'.out, e0] at e1
    rw [z1] at eu'
    injection e1 with e1
    injection e1 with e1
    injection e1 with e1
    subst e1
    have k7 : u1 = u0 := by
      have h1 : (w7.drewN n).cell? ⟨gl, t, none⟩ = (w7.drewN 0).cell? ⟨gl, t, none⟩ := rfl
      rw [h1, k1] at k4
      exact (Option.some.inj k4).symm
    rw [k7, eu] at eu'
    injection eu' with eu'
    injection eu' with eu'
    injection eu' with eu'
    subst eu'
    refine ⟨by rw [k4, k7, eu], ?_⟩
    rw [k6 0 hlp]
    simp [z2]
  obtain ⟨gl, cl, gr, cr, eA, hc⟩ := hcell
  obtain ⟨rfl, rfl⟩ : A6 = some ⟨gl, 0, none⟩ ∧ c6 = cl := by simpa using eA
  obtain ⟨ad, c', e, hcn⟩ := hn7.out.all hrl
  cases e
  have hzr : zs[r] = ((s r : Nat) : Int) := by
    have h := (hall.out r hrl).2
    simpa [List.getD, hrl] using h
  rw [hzr] at hcn
  have f1 := fun n => hcn (w7.drewN n) ((Sep.nil w7).drewN n).below
  have f2 := fun n => (hc n).1
  have f3 := fun n => (hc n).2
  have f4 : ∀ n, (w7.drewN n).cell? ⟨gF, r, none⟩ = some (.int .i64 (fOf s r : Nat)) := fun n => by
    rw [ints_cell ((hST n).ints 2 rfl) (show r < (firstsTo s zs.length).length by rw [firstsTo_len]; exact hrl), firstsTo_at]
  have hs1 := (hall.out r hrl).1
  generalize fOf s r = fr at f3 f4
  generalize s r = sr at f1 f2 hs1
  have g1 : (0 : Int) ≤ (t : Int) := by omega
  have g2 : (t : Int) < (zs.length : Int) := by omega
  have g3 : (0 : Int) ≤ (r : Int) := by omega
  have g4 : (r : Int) < (zs.length : Int) := by omega
  have g5 : (0 : Int) < (sr : Int) := by omega
  have g6 : ((sr : Int) != (sr : Int)) = false := by simp
  have g7 : ((fr : Int) != (fr : Int)) = false := by simp
  clear hST hcn hc eA z1 z2 hzr htl hr hs1
  go_wp2_with fail
  rw [ez'.out]
  go_quiet (fail)
  go_wp2_with fail
  go_roundg (zs.length - (t + 1))
  case measure => rw [hmt.out]; omega
  case rel => exact ⟨t + 1, m + nq, by omega, rfl, by go_num, rfl⟩

theorem row_any {zs : List Int} {w : World} {sv : Value} (hn : IntsAt w sv zs) :
    Calls Try.prog 6 #[sv] w fun e w' => e = .returned (.bool true) ∧ Below w.heap.size w w' := by
  by_cases h : zs.length = 0 ∨ 12 < zs.length
  · exact row_out hn h
  · exact row_in hn (by omega) (by omega)
end Go.Proofs.Ytdidkpgdjehodaa
