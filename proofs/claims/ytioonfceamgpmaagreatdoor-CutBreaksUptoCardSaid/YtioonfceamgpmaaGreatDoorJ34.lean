/- Stay, LongPlain, RoundMore, laid together. -/
import Derived.Test.YtioonfceamgpmaaGreatDoorJ33
import Derived.Test.YtioonfceamgpmaaGreatDoorJ25
import Derived.Test.YtioonfceamgpmaaGreatDoorJ15
namespace Go.Proofs.YtioonfceamgpmaaGreatDoor
open Go.RowKit
set_option linter.unusedVariables false

theorem lent_cells {w0 w : World} {v last : Value} {vs : List Value} {xss : List (List Int)} {R : List Asn} (hvl : vs.length = xss.length) (h : Sep w0 w (lentAll v vs last xss ++ R)) :
    ∃ g cap gl cl, v = .slice (some ⟨g, 0, none⟩) xss.length cap ∧ xss.length + 1 ≤ cap ∧ cap ≤ maxLen ∧ (∀ m, (w.drewN m).cell? ⟨g, xss.length, none⟩ = some (.slice (some ⟨gl, 0, none⟩) 1 cl)) ∧ (∀ m, (w.drewN m).cell? ⟨gl, 0, none⟩ = some (.int .i64 (-72))) ∧
      ∀ i (hi : i < xss.length), ∃ gi ci, xss[i].length + 1 ≤ ci ∧ ci ≤ maxLen ∧ (∀ m, (w.drewN m).cell? ⟨g, i, none⟩ = some (.slice (some ⟨gi, 0, none⟩) xss[i].length ci)) ∧ ∀ m, (w.drewN m).cell? ⟨gi, xss[i].length, none⟩ = some (.int .i64 (-71)) := by
  obtain ⟨g, cap, e, _, _, h1, h2⟩ := h.sl_form 0 rfl (Nat.succ_pos _)
  obtain ⟨gl, cl, e2, _, _, h3, h4⟩ := h.sl_form 1 rfl (by decide)
  subst e2
  have h0 : ∀ m, Sep w0 (w.drewN m) (.sl 33 1 (.slice (some ⟨g, 0, none⟩) (xss.length + 1) cap) (xss.length + 1) (vs ++ [.slice (some ⟨gl, 0, none⟩) 1 cl]) :: .sl 3 1 (.slice (some ⟨gl, 0, none⟩) 1 cl) 1 [.int .i64 (-72)] :: (List.zipWith lentRow vs xss ++ R)) := fun m => by
    have := h.drewN m
    unfold lentAll at this
    rw [e] at this
    exact this
  refine ⟨g, cap, gl, cl, more_form e, h1, h2, fun m => ?_, fun m => ?_, fun i hi => ?_⟩
  · rw [(h0 m).cellAt 0 rfl xss.length (by omega), ← hvl]
    simp
  · exact (h0 m).cellAt 1 rfl 0 (by decide)
  · have hz : (List.zipWith lentRow vs xss ++ R)[i]? = some (lentRow (vs[i]'(by omega)) xss[i]) := zip_at hvl hi R
    obtain ⟨gi, ci, ei, _, _, h5, h6⟩ := (h0 0).sl_form (i + 2) hz (Nat.succ_pos _)
    have ei' := more_form ei
    refine ⟨gi, ci, h5, h6, fun m => ?_, fun m => ?_⟩
    · rw [(h0 m).cellAt 0 rfl i (by omega), ← ei', List.getElem?_append_left (by omega)]
      exact List.getElem?_eq_getElem _
    · unfold lentRow at hz
      rw [ei] at hz
      rw [(h0 m).cellAt (i + 2) hz xss[i].length (by omega)]
      simp

set_option maxHeartbeats 1000000 in
theorem stay_any {xss : List (List Int)} {w0 w : World} {v nv last : Value} {vs : List Value} {R : List Asn} (hl : xss.length ≤ 1024) (hr : ∀ j (hj : j < xss.length), xss[j].length ≤ 1048576) (hvl : vs.length = xss.length)
    (h : Sep w0 w (lentAll v vs last xss ++ R)) (hn : RowsAt w nv xss) :
    Calls Tryz.prog 10 #[v, nv] w fun e w' => e = .returned (.bool true) ∧ ∃ m, w' = w.drewN m := by
  have hsame := Lib.hid (same_any (lent_rows hvl h) hn)
  rw [decide_eq_true (show xss = xss from rfl)] at hsame
  obtain ⟨g, cap, gl, cl, rfl, h1, h2, h3, h4, h5⟩ := lent_cells hvl h
  obtain ⟨A, c, rfl, _⟩ := hn.shape
  unfold maxLen at h2
  have b1 : (xss.length : Int) ≤ 1024 := by omega
  have b2 : (xss.length : Int) + 1 ≤ (cap : Int) := by omega
  have b3 : (cap : Int) ≤ 9223372036854775807 := by omega
  have hn' := Lib.hid hn
  have hr' := Lib.hid hr
  have h5' := Lib.hid h5
  clear h hn hr h5 hvl
  go_enter Tryz.func10, Tryz.ntmps10
  go_wp2_with (go_at_call 14; refine hsame.out.mono ?_; rintro e w1 ⟨rfl, m, rfl⟩)
  go_loop [7] (fun ii => ∃ i : Nat, i ≤ xss.length ∧ ii = .int .i64 i) (fun ii => xss.length - (intOf ii).toNat)
  case atStart => exact ⟨0, Nat.zero_le _, rfl⟩
  case round =>
    obtain ⟨i, hi, rfl⟩ := hrel
    by_cases hlt : i < xss.length
    case neg =>
      obtain rfl : i = xss.length := by omega
      go_wp2_with fail
      go_ret
      exact ⟨rfl, m, rfl⟩
    obtain ⟨gi, ci, k1, k2, k3, k4⟩ := h5'.out i hlt
    obtain ⟨ad, c', un, e, hun, hcn⟩ := hn'.out.all hlt
    cases e
    have hrl := hr'.out i hlt
    have a0 := hcn (w.drewN m) ((Sep.nil w).drewN m).below
    obtain ⟨Au, cu, rfl, _⟩ := hun.shape
    clear hun hcn
    generalize xss[i].length = n at k1 k3 k4 hrl a0
    unfold maxLen at k2
    have c1 : (0 : Int) ≤ (i : Int) := by omega
    have c2 : (i : Int) < (xss.length : Int) := by omega
    have c3 : (n : Int) + 1 ≤ (ci : Int) := by omega
    have c4 : (n : Int) ≤ 1048576 := by omega
    have c5 : (ci : Int) ≤ 9223372036854775807 := by omega
    have k3' := k3 m
    have k4' := k4 m
    clear k3 k4
    go_wp2_with fail
    go_round
    case rel => exact ⟨i + 1, by omega, by go_num⟩
    case measure => simp [intOf]; omega

set_option maxHeartbeats 1000000 in
theorem wipe_any {xss : List (List Int)} {w0 w : World} {v : Value} {R : List Asn} (h : Sep w0 w (rowsR v xss :: R)) :
    Calls Tryz.prog 9 #[v] w fun e w' => e = .returned (.tuple #[]) ∧ ∃ yss, Sep w0 w' (rowsR v yss :: R) := by
  obtain ⟨vs, hvl, h1⟩ := Sep.list_open h
  obtain ⟨A, c, rfl, hc1, hc2, _⟩ := h1.sl_any 0 rfl
  have h1' := Lib.hid h1
  have hvl' := Lib.hid hvl
  clear h h1 hvl
  obtain ⟨n, hn⟩ : ∃ n, n = xss.length := ⟨_, rfl⟩
  have hn' := Lib.hid hn
  rw [← hn] at hc1 ⊢
  unfold maxLen at hc2
  have bn : (n : Int) ≤ 9223372036854775807 := by omega
  clear hn hc1 hc2
  go_enter Tryz.func9, Tryz.ntmps9
  go_wp2_with fail
  go_loopg [2, 3] n (fun g ii kk wr => ∃ (i : Nat) (yss : List (List Int)), i ≤ n ∧ Hid (g = n - i) ∧ ii = .int .i64 i ∧ Hid (yss.length = n) ∧ Sep w0 wr (.sl 33 1 (.slice A n c) n vs :: (List.zipWith intsR vs yss ++ R)))
  case atStart => exact ⟨0, xss, Nat.zero_le _, rfl, rfl, hn'.out.symm, by rw [hn'.out]; exact h1'.out⟩
  case round =>
    obtain ⟨i, yss, hi, hm, rfl, hyl, hS⟩ := hrel
    have hS' := Lib.hid hS
    clear hS
    by_cases hlt : i < n
    case neg =>
      obtain rfl : i = n := by omega
      go_wp2_with fail
      go_end0
      refine ⟨rfl, yss, Sep.list_shut (vs := vs) (by rw [hvl'.out, hyl.out, hn'.out]) ?_⟩
      rw [hyl.out]
      exact hS'.out
    have c1 : (0 : Int) ≤ (i : Int) := by omega
    have c2 : (i : Int) < (n : Int) := by omega
    go_wp2_with fail
    go_loopg [3] (yss.getD i []).length (fun g kk wr2 => ∃ (k : Nat) (zss : List (List Int)), Hid (g = (zss.getD i []).length - k) ∧ Hid (k ≤ (zss.getD i []).length) ∧ kk = .int .i64 k ∧ Hid (zss.length = n) ∧ Sep w0 wr2 (.sl 33 1 (.slice A n c) n vs :: (List.zipWith intsR vs zss ++ R)))
    case atStart => exact ⟨0, yss, rfl, Nat.zero_le _, rfl, hyl, hS'.out⟩
    case round =>
      obtain ⟨k, zss, hm2, hk, rfl, hzl, hS2⟩ := hrel
      have hzl2 := hzl.out
      have hvl2 := hvl'.out
      have hn2 := hn'.out
      have hv : vs[i]? = some (vs[i]'(by omega)) := List.getElem?_eq_getElem _
      have hx : zss[i]? = some (zss[i]'(by omega)) := List.getElem?_eq_getElem _
      have hgx : zss.getD i [] = zss[i]'(by omega) := by rw [List.getD, hx]; rfl
      generalize vs[i]'(by omega) = u at hv
      generalize zss[i]'(by omega) = x at hx hgx
      have hpk : (.sl 33 1 (.slice A n c) n vs :: (List.zipWith intsR vs zss ++ R))[i + 1]? = some (intsR u x) := by
        have hz := zip_some (f := intsR) hv hx
        show (List.zipWith intsR vs zss ++ R)[i]? = _
        rw [List.getElem?_append_left (by rcases List.getElem?_eq_some_iff.1 hz with ⟨h, _⟩; exact h)]
        exact hz
      obtain ⟨gA, cA, eA, _⟩ := hS2.sl_form 0 rfl (by omega)
      obtain ⟨rfl, rfl⟩ : A = some ⟨gA, 0, none⟩ ∧ c = cA := by simpa using eA
      have a0 : wr.cell? ⟨gA, i, none⟩ = some u := by rw [hS2.cellAt 0 rfl i (by omega)]; exact hv
      by_cases hlk : k < x.length
      case neg =>
        obtain ⟨Ax, cx, rfl, hx1, hx2, _⟩ := hS2.sl_any (i + 1) hpk
        have hk2 := hk.out
        rw [hgx] at hk2
        obtain rfl : k = x.length := by omega
        have hS3 := Lib.hid hS2
        unfold maxLen at hx2
        have d1 : (x.length : Int) ≤ 9223372036854775807 := by omega
        clear hS2 hS' hzl2 hvl2 hn2 hv hx hgx hpk eA hk2 hk hx1 hx2
        go_wp2_with fail
        go_roundg (n - (i + 1))
        case measure => rw [hm.out]; omega
        case rel => exact ⟨i + 1, zss, by omega, rfl, by go_num, hzl, hS3.out⟩
      obtain ⟨gx, cx, rfl, _, _, hx1, hx2⟩ := hS2.sl_form (i + 1) hpk (by omega)
      have a1 := hS2.frozenAt (i + 1) hpk k
      have a2 : ∃ z, wr.cell? ⟨gx, k, none⟩ = some z := by
        rw [hS2.cellAt (i + 1) hpk k (by omega)]
        exact ⟨.int .i64 x[k], by simp [hlk]⟩
      obtain ⟨z, a2⟩ := a2
      have hS3 : Sep w0 (wr.setCell ⟨gx, k, none⟩ (.int .i64 (-9))) (.sl 33 1 (.slice (some ⟨gA, 0, none⟩) n c) n vs :: (List.zipWith intsR vs (zss.set i (x.set k (-9))) ++ R)) := by
        have h := hS2.stored (i + 1) hpk k (.int .i64 (-9))
        have e1 : List.zipWith intsR vs (zss.set i (x.set k (-9))) = (List.zipWith intsR vs zss).set i (.sl 3 1 (.slice (some ⟨gx, 0, none⟩) x.length cx) x.length ((x.map (.int .i64)).set k (.int .i64 (-9)))) := by
          have e2 : vs = vs.set i (.slice (some ⟨gx, 0, none⟩) x.length cx) := by
            obtain ⟨hlt', e3⟩ := List.getElem?_eq_some_iff.1 hv
            rw [← e3, List.set_getElem_self]
          have e4 := zip_set (f := intsR) vs zss i (.slice (some ⟨gx, 0, none⟩) x.length cx) (x.set k (-9))
          rw [← e2] at e4
          rw [e4]
          unfold intsR
          rw [List.length_set, List.map_set]
        rw [e1]
        rw [List.set_cons_succ, List.set_append_left _ _ (by simp; omega)] at h
        exact h
      have hgx2 : (zss.set i (x.set k (-9))).getD i [] = x.set k (-9) := by
        rw [List.getD, List.getElem?_set_self (by omega)]
        rfl
      have hzl3 : (zss.set i (x.set k (-9))).length = n := by rw [List.length_set]; exact hzl2
      have hgx' := Lib.hid hgx
      have hgx2' := Lib.hid hgx2
      have hzl3' := Lib.hid hzl3
      have hS3' := Lib.hid hS3
      have d1 : (0 : Int) ≤ (k : Int) := by omega
      have d2 : (k : Int) < (x.length : Int) := by omega
      unfold maxLen at hx2
      have d3 : (x.length : Int) ≤ 9223372036854775807 := by omega
      clear hS2 hS3 hS' hzl2 hvl2 hn2 hv hx hgx hpk eA hx1 hx2 hgx2 hzl3
      go_wp2_with fail
      go_roundg (x.length - (k + 1))
      case measure => rw [hm2.out, hgx'.out]; omega
      case rel => exact ⟨k + 1, _, Lib.hid (by rw [hgx2'.out, List.length_set]), Lib.hid (by rw [hgx2'.out, List.length_set]; omega), by go_num, hzl3', hS3'.out⟩
end Go.Proofs.YtioonfceamgpmaaGreatDoor

namespace Go.Proofs.YtioonfceamgpmaaGreatDoor
set_option linter.unusedVariables false

section
variable {xss : List (List Int)} {k : Nat} {ring first : Nat → Nat}
theorem Chain.comp (h : Chain xss k ring first) : compRows xss = (List.range k).map fun t => ((List.range xss.length).filter fun v => ring v == k - 1 - t).map fun (v : Nat) => (v : Int) := by
  rw [← compRows_of h.ok h.isRep h.told]
  unfold chainT
  rw [List.map_map]
  apply List.map_congr_left
  intro t ht
  have ht' := List.mem_range.1 ht
  simp only [Function.comp_apply]
  unfold mem
  rw [h.ring_mem (by omega)]
theorem Chain.comp_at (h : Chain xss k ring first) {t : Nat} (ht : t < (compRows xss).length) : t < k ∧ (compRows xss)[t] = ((List.range xss.length).filter fun v => ring v == k - 1 - t).map fun (v : Nat) => (v : Int) := by
  have e := h.comp
  have ht' : t < k := by rw [e] at ht; simpa using ht
  refine ⟨ht', ?_⟩
  simp [e]
theorem Chain.comp_len (h : Chain xss k ring first) : (compRows xss).length = k := by rw [h.comp]; simp
theorem chainT_rev (k : Nat) (first : Nat → Nat) : chainT k first k = ((List.range k).map first).reverse := by
  apply List.ext_getElem
  · simp [chainT]
  · intro i h1 h2
    simp [chainT]
theorem Chain.round_len (h : Chain xss k ring first) : (roundRows xss).length = ((List.range k).filter fun r => goes xss (fun v => first (ring v)) (first r)).length := by
  rw [roundRows_ok h.ok, round_rows, List.length_map, ← (rounds_perm h.ok h.isRep h.told).length_eq, chainT_rev, List.filter_reverse, List.length_reverse, List.filter_map, List.length_map]
  rfl
end

/-- n lists, each needing the next; with 'round' the last needs the first. -/
def longX (n : Nat) (round : Bool) : List (List Int) := (List.range n).map fun i => if i + 1 < n then [(i : Int) + 1] else if round then [0] else []
theorem longX_len (n : Nat) (round : Bool) : (longX n round).length = n := by simp [longX]
theorem longX_at {n : Nat} {round : Bool} {i : Nat} (hi : i < (longX n round).length) : (longX n round)[i] = if i + 1 < n then [(i : Int) + 1] else if round then [0] else [] := by simp [longX]
theorem longX_adj {n : Nat} {round : Bool} {i : Nat} (hi : i < n) (u : Nat) : u ∈ adjOf (longX n round) i ↔ (i + 1 < n ∧ u = i + 1) ∨ (i + 1 = n ∧ round = true ∧ u = 0) := by
  rw [adjOf_at (by rw [longX_len]; exact hi), longX_at]
  by_cases h : i + 1 < n
  · have h2 : i + 1 ≠ n := by omega
    simp [h, h2]
  · have h2 : i + 1 = n := by omega
    cases round
    · simp [h2]
    · simp [h2]
theorem longX_ok {n : Nat} (round : Bool) (h2 : 2 ≤ n) (hn : n ≤ 1024) : refused (longX n round) = 0 := by
  refine refused_none (by rw [longX_len]; exact hn) (fun j hj => ?_) (fun j hj i hi => ?_)
  · rw [longX_at]
    split
    · simp
    · split <;> simp
  · rw [longX_len] at hj ⊢
    have hm := List.getElem_mem hi
    generalize (longX n round)[j][i] = x at hm
    rw [longX_at] at hm
    split at hm
    · simp at hm
      omega
    · split at hm <;> simp at hm
      omega
theorem longX_long {n : Nat} (round : Bool) (hn : 1024 < n) : refused (longX n round) = 2 := refused_long (by rw [longX_len]; exact hn)
theorem zeros_ok {n : Nat} (hn : n ≤ 1024) : refused [List.replicate n 0] = 0 := by
  refine refused_none (by simp) (fun j hj => ?_) (fun j hj i hi => ?_)
  · obtain rfl : j = 0 := by simpa using hj
    simpa using hn
  · obtain rfl : j = 0 := by simpa using hj
    simp
theorem zeros_long {n : Nat} (hn : 1024 < n) : refused [List.replicate n 0] = 2 := refused_row (k := 0) (by simp) (by simpa using hn)

theorem longX_reach {n : Nat} {round : Bool} {v : Nat} : ∀ {u : Nat}, u ≤ v → v < n → Tarjan.Reach (adjOf (longX n round)) u v := by
  intro u
  induction h : v - u generalizing u with
  | zero =>
    intro h1 _
    obtain rfl : u = v := by omega
    exact .refl _
  | succ d ih =>
    intro h1 h2
    exact .step ((longX_adj (by omega) (u + 1)).2 (.inl ⟨by omega, rfl⟩)) (ih (by omega) (by omega) h2)
theorem long_row {n : Nat} (h2 : 2 ≤ n) (hn : n ≤ 1024) : Chain (longX n false) n id id where
  ok := longX_ok false h2 hn
  ring_lt v hv := by rw [longX_len] at hv; exact hv
  first_lt i hi := by rw [longX_len]; exact hi
  ring_first i _ := rfl
  first_le v _ := Nat.le_refl _
  mono i j h _ := h
  down v _ := ⟨.refl _, .refl _⟩
  edge v hv u hu := by
    rw [longX_len] at hv
    rcases (longX_adj hv u).1 hu with ⟨_, e⟩ | ⟨_, e, _⟩
    · exact .inr e
    · cases e
  next i hi := ⟨i, by rw [longX_len]; omega, rfl, i + 1, (longX_adj (by omega) _).2 (.inl ⟨hi, rfl⟩), rfl⟩
theorem long_ring {n : Nat} (h2 : 2 ≤ n) (hn : n ≤ 1024) : Chain (longX n true) 1 (fun _ => 0) (fun _ => 0) where
  ok := longX_ok true h2 hn
  ring_lt v _ := Nat.zero_lt_one
  first_lt i hi := by rw [longX_len]; omega
  ring_first i hi := by omega
  first_le v _ := Nat.zero_le _
  mono i j h1 h2 := by omega
  down v hv := by
    rw [longX_len] at hv
    refine ⟨longX_reach (Nat.zero_le _) hv, (longX_reach (v := n - 1) (by omega) (by omega)).trans (Tarjan.Reach.edge ?_)⟩
    exact (longX_adj (by omega) 0).2 (.inr ⟨by omega, rfl, rfl⟩)
  edge v _ u _ := .inl rfl
  next i hi := by omega

theorem range_one (n i : Nat) (hi : i < n) : ((List.range n).filter fun v => v == i) = [i] := by
  induction n with
  | zero => omega
  | succ n ih =>
    rw [List.range_succ, List.filter_append]
    by_cases e : i = n
    · subst e
      have : (List.range i).filter (fun v => v == i) = [] := List.filter_eq_nil_iff.2 fun a ha => by have := List.mem_range.1 ha; simp; omega
      simp [this]
    · rw [ih (by omega)]
      have : (n == i) = false := by simp; omega
      simp [this]
/-- A row: each number alone, the last first; nothing goes round. -/
theorem long_row_says {n : Nat} (h2 : 2 ≤ n) (hn : n ≤ 1024) : (compRows (longX n false)).length = n ∧ (∀ t (ht : t < (compRows (longX n false)).length), (compRows (longX n false))[t] = [((n - 1 - t : Nat) : Int)]) ∧ roundRows (longX n false) = [] := by
  have h := long_row h2 hn
  refine ⟨h.comp_len, fun t ht => ?_, ?_⟩
  · obtain ⟨ht', e⟩ := h.comp_at ht
    rw [e, longX_len]
    show ((List.range n).filter fun v => v == n - 1 - t).map _ = _
    rw [range_one n _ (by omega)]
    rfl
  · apply List.eq_nil_of_length_eq_zero
    rw [h.round_len, List.length_eq_zero_iff, List.filter_eq_nil_iff]
    intro r hr
    have hr' := List.mem_range.1 hr
    show ¬ goes (longX n false) (fun v => v) r = true
    unfold goes
    have e1 : mem (longX n false).length (fun v => v) r = [r] := by rw [longX_len]; exact range_one n r hr'
    rw [e1, Bool.or_eq_true, decide_eq_true_eq, contains_adj (longX_ok false h2 hn) (by rw [longX_len]; exact hr'), longX_adj hr']
    simp
/-- A ring: one component, and it goes round. -/
theorem long_ring_says {n : Nat} (h2 : 2 ≤ n) (hn : n ≤ 1024) : (compRows (longX n true)).length = 1 ∧ (∀ t (ht : t < (compRows (longX n true)).length), (compRows (longX n true))[t].length = n) ∧
    (roundRows (longX n true)).length = 1 ∧ ∀ t (ht : t < (roundRows (longX n true)).length), (roundRows (longX n true))[t].length = n := by
  have h := long_ring h2 hn
  have hall : ((List.range n).filter fun _ => (0 : Nat) == 0) = List.range n := List.filter_eq_self.2 fun _ _ => rfl
  have hmem : ∀ r, mem (longX n true).length (fun v => (fun _ => 0) ((fun _ => 0) v)) ((fun _ => 0 : Nat → Nat) r) = List.range n := fun r => by
    rw [longX_len]
    exact hall
  refine ⟨h.comp_len, fun t ht => ?_, ?_, fun t ht => ?_⟩
  · obtain ⟨ht', e⟩ := h.comp_at ht
    obtain rfl : t = 0 := by omega
    rw [e, longX_len, List.length_map]
    show ((List.range n).filter fun _ => (0 : Nat) == 0).length = n
    rw [hall, List.length_range]
  · rw [h.round_len]
    have : ((List.range 1).filter fun r => goes (longX n true) (fun v => (fun _ => 0) ((fun _ => 0) v)) ((fun _ => 0 : Nat → Nat) r)) = List.range 1 := List.filter_eq_self.2 fun r _ => by
      unfold goes
      rw [hmem r, List.length_range]
      simp
      omega
    rw [this]
    rfl
  · have e1 := roundRows_ok h.ok
    rw [round_rows] at e1
    have ht' : t < (roundL (longX n true)).length := by rw [e1] at ht; simpa using ht
    have hx : (roundL (longX n true))[t] ∈ roundL (longX n true) := List.getElem_mem ht'
    obtain ⟨a1, a2, _⟩ := roundL_iff.1 hx
    have e2 : (roundRows (longX n true))[t] = (mem (longX n true).length (partsRep (longX n true)) (roundL (longX n true))[t]).map fun (v : Nat) => (v : Int) := by simp [e1]
    rw [e2, List.length_map]
    have e3 := mem_congr (partsRep_isRep (longX n true)) h.isRep (roundL (longX n true))[t]
    have e4 := h.isRep.uniq (partsRep_isRep (longX n true)) a1
    rw [a2] at e4
    rw [e3, ← e4]
    show (mem (longX n true).length (fun v => (fun _ => 0) ((fun _ => 0) v)) ((fun _ => 0 : Nat → Nat) 0)).length = n
    rw [hmem 0, List.length_range]
end Go.Proofs.YtioonfceamgpmaaGreatDoor

namespace Go.Proofs.YtioonfceamgpmaaGreatDoor
set_option linter.unusedVariables false

theorem ring_ok {n : Nat} (h1 : 1 ≤ n) (hn : n ≤ 1024) : refused (longX n true) = 0 := by
  refine refused_none (by rw [longX_len]; exact hn) (fun j hj => ?_) (fun j hj i hi => ?_)
  · rw [longX_at hj]
    split
    · simp
    · simp
  · rw [longX_len] at hj ⊢
    have e := longX_at (n := n) (round := true) (i := j) (by rw [longX_len]; exact hj)
    have hm := List.getElem_mem hi
    generalize (longX n true)[j][i] = y at hm ⊢
    rw [e] at hm
    split at hm
    · rw [List.mem_singleton] at hm
      omega
    · simp at hm
      omega
theorem ring_goes {n : Nat} (h1 : 1 ≤ n) : RP (longX n true) 0 0 := by
  by_cases h : n = 1
  · subst h
    exact ⟨0, (longX_adj (n := 1) (by omega) 0).2 (.inr ⟨rfl, rfl, rfl⟩), .refl _⟩
  · refine ⟨1, (longX_adj (by omega) 1).2 (.inl ⟨by omega, rfl⟩), ?_⟩
    have h2 := longX_reach (n := n) (round := true) (u := 1) (v := n - 1) (by omega) (by omega)
    exact h2.trans (Tarjan.Reach.edge ((longX_adj (by omega) 0).2 (.inr ⟨by omega, rfl, rfl⟩)))
theorem ring_head {n : Nat} (h1 : 1 ≤ n) (hn : n ≤ 1024) : ∃ l rest, roundRows (longX n true) = (0 :: l) :: rest := by
  have h0 : 0 ∈ roundL (longX n true) := roundL_iff.2 ⟨by rw [longX_len]; omega, rfl, ring_goes h1⟩
  have hs := roundL_sorted (xss := longX n true)
  rw [roundRows_ok (ring_ok h1 hn), round_rows]
  cases hl : roundL (longX n true) with
  | nil => rw [hl] at h0; cases h0
  | cons a t =>
    rw [hl] at h0 hs
    obtain rfl : a = 0 := by
      rcases List.mem_cons.1 h0 with e | h
      · exact e.symm
      · have := (List.pairwise_cons.1 hs).1 0 h; omega
    obtain ⟨l, e⟩ := mem_head (partsRep_isRep (longX n true)) (i := 0) (by rw [longX_len]; omega) rfl
    exact ⟨l.map fun (v : Nat) => (v : Int), _, by rw [List.map_cons, e]; rfl⟩
/-- Where each number needs lesser ones alone, by some count, nothing goes round. -/
theorem none_round {xss : List (List Int)} (f : Nat → Nat) (h : ∀ v, v < xss.length → ∀ u, u ∈ adjOf xss v → f u < f v) (hx : refused xss = 0) : roundRows xss = [] := by
  have hr : ∀ {u v : Nat}, Tarjan.Reach (adjOf xss) u v → u < xss.length → f v ≤ f u := by
    intro u v hr
    induction hr with
    | refl => intro _; omega
    | step h1 _ ih =>
      intro hu
      have := h _ hu _ h1
      have := ih (adj_lt hx hu h1)
      omega
  rw [roundRows_ok hx, round_rows]
  have : roundL xss = [] := by
    rw [List.eq_nil_iff_forall_not_mem]
    intro i hi
    obtain ⟨i1, _, u, hu, hui⟩ := roundL_iff.1 hi
    have := h i i1 u hu
    have := hr hui (adj_lt hx i1 hu)
    omega
  rw [this]
  rfl
theorem norm_one (x : Int) : normL [x] = [x] := normL_self (by simp)
theorem ring_norm (n : Nat) : (longX n true).map normL = longX n true := by
  apply List.ext_getElem (by simp)
  intro i h1 h2
  rw [List.getElem_map, longX_at h2]
  split
  · exact norm_one _
  · simp [norm_one]
end Go.Proofs.YtioonfceamgpmaaGreatDoor
