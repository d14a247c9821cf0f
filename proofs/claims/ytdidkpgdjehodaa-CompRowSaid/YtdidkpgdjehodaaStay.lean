/- Stay and Wipe, walked. -/
import Derived.Test.YtdidkpgdjehodaaLent
namespace Go.Proofs.Ytdidkpgdjehodaa
open Go.RowKit
set_option linter.unusedVariables false

theorem lent_cells {w0 w : World} {v last : Value} {vs : List Value} {xss : List (List Int)} {R : List Asn} (hvl : vs.length = xss.length) (h : Sep w0 w (lentAll v vs last xss ++ R)) :
    ∃ g cap gl cl, v = .slice (some ⟨g, 0, none⟩) xss.length cap ∧ xss.length + 1 ≤ cap ∧ cap ≤ maxLen ∧ (∀ m, (w.drewN m).cell? ⟨g, xss.length, none⟩ = some (.slice (some ⟨gl, 0, none⟩) 1 cl)) ∧ (∀ m, (w.drewN m).cell? ⟨gl, 0, none⟩ = some (.int .i64 (-72))) ∧
      ∀ i (hi : i < xss.length), ∃ gi ci, xss[i].length + 1 ≤ ci ∧ ci ≤ maxLen ∧ (∀ m, (w.drewN m).cell? ⟨g, i, none⟩ = some (.slice (some ⟨gi, 0, none⟩) xss[i].length ci)) ∧ ∀ m, (w.drewN m).cell? ⟨gi, xss[i].length, none⟩ = some (.int .i64 (-71)) := by
  obtain ⟨g, cap, e, _, _, h1, h2⟩ := h.sl_form 0 rfl (Nat.succ_pos _)
  obtain ⟨gl, cl, e2, _, _, h3, h4⟩ := h.sl_form 1 rfl (by decide)
  subst e2
  have h0 : ∀ m, Sep w0 (w.drewN m) (.sl 29 1 (.slice (some ⟨g, 0, none⟩) (xss.length + 1) cap) (xss.length + 1) (vs ++ [.slice (some ⟨gl, 0, none⟩) 1 cl]) :: .sl 3 1 (.slice (some ⟨gl, 0, none⟩) 1 cl) 1 [.int .i64 (-72)] :: (List.zipWith lentRow vs xss ++ R)) := fun m => by
    have := h.drewN m
    unfold lentAll at this
    rw [e] at this
    exact this
  refine ⟨g, cap, gl, cl, more_form e, h1, h2, fun m => ?_, fun m => ?_, fun i hi => ?_⟩
  · rw [(h0 m).cellAt 0 rfl xss.length (by omega), ← hvl]
    simp
  · exact (h0 m).cellAt 1 rfl 0 (by decide)
  · have hz : (List.zipWith lentRow vs xss ++ R)[i]? = some (lentRow (vs[i]'(by omega)) xss[i]) := zip_at hvl hi R
    obtain ⟨gi, ci, ei, _, _, h5, h6⟩ := (h0 0).sl_form (i + 2) hz (Nat.succ_pos _)
    have ei' := more_form ei
    refine ⟨gi, ci, h5, h6, fun m => ?_, fun m => ?_⟩
    · rw [(h0 m).cellAt 0 rfl i (by omega), ← ei', List.getElem?_append_left (by omega)]
      exact List.getElem?_eq_getElem _
    · unfold lentRow at hz
      rw [ei] at hz
      rw [(h0 m).cellAt (i + 2) hz xss[i].length (by omega)]
      simp

set_option maxHeartbeats 1000000 in
theorem stay_any {xss : List (List Int)} {w0 w : World} {v nv last : Value} {vs : List Value} {R : List Asn} (hl : xss.length ≤ 1024) (hr : ∀ j (hj : j < xss.length), xss[j].length ≤ 1048576) (hvl : vs.length = xss.length)
    (h : Sep w0 w (lentAll v vs last xss ++ R)) (hn : RowsAt w nv xss) :
    Calls Try.prog 15 #[v, nv] w fun e w' => e = .returned (.bool true) ∧ ∃ m, w' = w.drewN m := by
  have hsame := Lib.hid (same_any (lent_rows hvl h) hn)
  rw [decide_eq_true (show xss = xss from rfl)] at hsame
  obtain ⟨g, cap, gl, cl, rfl, h1, h2, h3, h4, h5⟩ := lent_cells hvl h
  obtain ⟨A, c, rfl, _⟩ := hn.shape
  unfold maxLen at h2
  have b1 : (xss.length : Int) ≤ 1024 := by omega
  have b2 : (xss.length : Int) + 1 ≤ (cap : Int) := by omega
  have b3 : (cap : Int) ≤ 9223372036854775807 := by omega
  have hn' := Lib.hid hn
  have hr' := Lib.hid hr
  have h5' := Lib.hid h5
  clear h hn hr h5 hvl
  go_enter Try.func15, Try.ntmps15
  go_wp2_with (go_at_call 18; refine hsame.out.mono ?_; rintro e w1 ⟨rfl, m, rfl⟩)
  go_loop [7] (fun ii => ∃ i : Nat, i ≤ xss.length ∧ ii = .int .i64 i) (fun ii => xss.length - (intOf ii).toNat)
  case atStart => exact ⟨0, Nat.zero_le _, rfl⟩
  case round =>
    obtain ⟨i, hi, rfl⟩ := hrel
    by_cases hlt : i < xss.length
    case neg =>
      obtain rfl : i = xss.length := by omega
      go_wp2_with fail
      go_ret
      exact ⟨rfl, m, rfl⟩
    obtain ⟨gi, ci, k1, k2, k3, k4⟩ := h5'.out i hlt
    obtain ⟨ad, c', un, e, hun, hcn⟩ := hn'.out.all hlt
    cases e
    have hrl := hr'.out i hlt
    have a0 := hcn (w.drewN m) ((Sep.nil w).drewN m).below
    obtain ⟨Au, cu, rfl, _⟩ := hun.shape
    clear hun hcn
    generalize xss[i].length = n at k1 k3 k4 hrl a0
    unfold maxLen at k2
    have c1 : (0 : Int) ≤ (i : Int) := by omega
    have c2 : (i : Int) < (xss.length : Int) := by omega
    have c3 : (n : Int) + 1 ≤ (ci : Int) := by omega
    have c4 : (n : Int) ≤ 1048576 := by omega
    have c5 : (ci : Int) ≤ 9223372036854775807 := by omega
    have k3' := k3 m
    have k4' := k4 m
    clear k3 k4
    go_wp2_with fail
    go_round
    case rel => exact ⟨i + 1, by omega, by go_num⟩
    case measure => simp [intOf]; omega

set_option maxHeartbeats 1000000 in
theorem wipe_any {xss : List (List Int)} {w0 w : World} {v : Value} {R : List Asn} (h : Sep w0 w (rowsR v xss :: R)) :
    Calls Try.prog 16 #[v] w fun e w' => e = .returned (.tuple #[]) ∧ ∃ yss, Sep w0 w' (rowsR v yss :: R) := by
  obtain ⟨vs, hvl, h1⟩ := Sep.list_open h
  obtain ⟨A, c, rfl, hc1, hc2, _⟩ := h1.sl_any 0 rfl
  have h1' := Lib.hid h1
  have hvl' := Lib.hid hvl
  clear h h1 hvl
  obtain ⟨n, hn⟩ : ∃ n, n = xss.length := ⟨_, rfl⟩
  have hn' := Lib.hid hn
  rw [← hn] at hc1 ⊢
  unfold maxLen at hc2
  have bn : (n : Int) ≤ 9223372036854775807 := by omega
  clear hn hc1 hc2
  go_enter Try.func16, Try.ntmps16
  go_wp2_with fail
  go_loopg [2, 3] n (fun g ii kk wr => ∃ (i : Nat) (yss : List (List Int)), i ≤ n ∧ Hid (g = n - i) ∧ ii = .int .i64 i ∧ Hid (yss.length = n) ∧ Sep w0 wr (.sl 29 1 (.slice A n c) n vs :: (List.zipWith intsR vs yss ++ R)))
  case atStart => exact ⟨0, xss, Nat.zero_le _, rfl, rfl, hn'.out.symm, by rw [hn'.out]; exact h1'.out⟩
  case round =>
    obtain ⟨i, yss, hi, hm, rfl, hyl, hS⟩ := hrel
    have hS' := Lib.hid hS
    clear hS
    by_cases hlt : i < n
    case neg =>
      obtain rfl : i = n := by omega
      go_wp2_with fail
      go_end0
      refine ⟨rfl, yss, Sep.list_shut (vs := vs) (by rw [hvl'.out, hyl.out, hn'.out]) ?_⟩
      rw [hyl.out]
      exact hS'.out
    have c1 : (0 : Int) ≤ (i : Int) := by omega
    have c2 : (i : Int) < (n : Int) := by omega
    go_wp2_with fail
    go_loopg [3] (yss.getD i []).length (fun g kk wr2 => ∃ (k : Nat) (zss : List (List Int)), Hid (g = (zss.getD i []).length - k) ∧ Hid (k ≤ (zss.getD i []).length) ∧ kk = .int .i64 k ∧ Hid (zss.length = n) ∧ Sep w0 wr2 (.sl 29 1 (.slice A n c) n vs :: (List.zipWith intsR vs zss ++ R)))
    case atStart => exact ⟨0, yss, rfl, Nat.zero_le _, rfl, hyl, hS'.out⟩
    case round =>
      obtain ⟨k, zss, hm2, hk, rfl, hzl, hS2⟩ := hrel
      have hzl2 := hzl.out
      have hvl2 := hvl'.out
      have hn2 := hn'.out
      have hv : vs[i]? = some (vs[i]'(by omega)) := List.getElem?_eq_getElem _
      have hx : zss[i]? = some (zss[i]'(by omega)) := List.getElem?_eq_getElem _
      have hgx : zss.getD i [] = zss[i]'(by omega) := by rw [List.getD, hx]; rfl
      generalize vs[i]'(by omega) = u at hv
      generalize zss[i]'(by omega) = x at hx hgx
      have hpk : (.sl 29 1 (.slice A n c) n vs :: (List.zipWith intsR vs zss ++ R))[i + 1]? = some (intsR u x) := by
        have hz := zip_some (f := intsR) hv hx
        show (List.zipWith intsR vs zss ++ R)[i]? = _
        rw [List.getElem?_append_left (by rcases List.getElem?_eq_some_iff.1 hz with ⟨h, _⟩; exact h)]
        exact hz
      obtain ⟨gA, cA, eA, _⟩ := hS2.sl_form 0 rfl (by omega)
      obtain ⟨rfl, rfl⟩ : A = some ⟨gA, 0, none⟩ ∧ c = cA := by simpa using eA
      have a0 : wr.cell? ⟨gA, i, none⟩ = some u := by rw [hS2.cellAt 0 rfl i (by omega)]; exact hv
      by_cases hlk : k < x.length
      case neg =>
        obtain ⟨Ax, cx, rfl, hx1, hx2, _⟩ := hS2.sl_any (i + 1) hpk
        have hk2 := hk.out
        rw [hgx] at hk2
        obtain rfl : k = x.length := by omega
        have hS3 := Lib.hid hS2
        unfold maxLen at hx2
        have d1 : (x.length : Int) ≤ 9223372036854775807 := by omega
        clear hS2 hS' hzl2 hvl2 hn2 hv hx hgx hpk eA hk2 hk hx1 hx2
        go_wp2_with fail
        go_roundg (n - (i + 1))
        case measure => rw [hm.out]; omega
        case rel => exact ⟨i + 1, zss, by omega, rfl, by go_num, hzl, hS3.out⟩
      obtain ⟨gx, cx, rfl, _, _, hx1, hx2⟩ := hS2.sl_form (i + 1) hpk (by omega)
      have a1 := hS2.frozenAt (i + 1) hpk k
      have a2 : ∃ z, wr.cell? ⟨gx, k, none⟩ = some z := by
        rw [hS2.cellAt (i + 1) hpk k (by omega)]
        exact ⟨.int .i64 x[k], by simp [hlk]⟩
      obtain ⟨z, a2⟩ := a2
      have hS3 : Sep w0 (wr.setCell ⟨gx, k, none⟩ (.int .i64 (-9))) (.sl 29 1 (.slice (some ⟨gA, 0, none⟩) n c) n vs :: (List.zipWith intsR vs (zss.set i (x.set k (-9))) ++ R)) := by
        have h := hS2.stored (i + 1) hpk k (.int .i64 (-9))
        have e1 : List.zipWith intsR vs (zss.set i (x.set k (-9))) = (List.zipWith intsR vs zss).set i (.sl 3 1 (.slice (some ⟨gx, 0, none⟩) x.length cx) x.length ((x.map (.int .i64)).set k (.int .i64 (-9)))) := by
          have e2 : vs = vs.set i (.slice (some ⟨gx, 0, none⟩) x.length cx) := by
            obtain ⟨hlt', e3⟩ := List.getElem?_eq_some_iff.1 hv
            rw [← e3, List.set_getElem_self]
          have e4 := zip_set (f := intsR) vs zss i (.slice (some ⟨gx, 0, none⟩) x.length cx) (x.set k (-9))
          rw [← e2] at e4
          rw [e4]
          unfold intsR
          rw [List.length_set, List.map_set]
        rw [e1]
        rw [List.set_cons_succ, List.set_append_left _ _ (by simp; omega)] at h
        exact h
      have hgx2 : (zss.set i (x.set k (-9))).getD i [] = x.set k (-9) := by
        rw [List.getD, List.getElem?_set_self (by omega)]
        rfl
      have hzl3 : (zss.set i (x.set k (-9))).length = n := by rw [List.length_set]; exact hzl2
      have hgx' := Lib.hid hgx
      have hgx2' := Lib.hid hgx2
      have hzl3' := Lib.hid hzl3
      have hS3' := Lib.hid hS3
      have d1 : (0 : Int) ≤ (k : Int) := by omega
      have d2 : (k : Int) < (x.length : Int) := by omega
      unfold maxLen at hx2
      have d3 : (x.length : Int) ≤ 9223372036854775807 := by omega
      clear hS2 hS3 hS' hzl2 hvl2 hn2 hv hx hgx hpk eA hx1 hx2 hgx2 hzl3
      go_wp2_with fail
      go_roundg (x.length - (k + 1))
      case measure => rw [hm2.out, hgx'.out]; omega
      case rel => exact ⟨k + 1, _, Lib.hid (by rw [hgx2'.out, List.length_set]), Lib.hid (by rw [hgx2'.out, List.length_set]; omega), by go_num, hzl3', hS3'.out⟩
end Go.Proofs.Ytdidkpgdjehodaa
