/- CompWhole: whatever is handed in, it answers true. -/
import Derived.Test.YtdidkpgdjehodaaWhole
namespace Go.Proofs.Ytdidkpgdjehodaa
open Go.RowKit
set_option linter.unusedVariables false

theorem row_len {R : List (List Nat)} {n : Nat} (hnd : R.flatten.Nodup) (hlt : ∀ x, x ∈ R.flatten → x < n) {i : Nat} {r : List Nat} (h : R[i]? = some r) : r.length ≤ n := by
  have h1 : r.Sublist R.flatten := List.sublist_flatten_of_mem (List.mem_of_getElem? h)
  have h2 : r.length ≤ (List.range n).length := List.Nodup.length_le_of_subset (h1.nodup hnd) fun x hx => List.mem_range.2 (hlt x (h1.subset hx))
  simpa using h2

set_option maxRecDepth 100000 in
set_option maxHeartbeats 2000000 in
theorem whole_any {xss : List (List Int)} {w : World} {nv : Value} (hn : RowsAt w nv xss) :
    Calls Try.prog 3 #[nv] w fun e w' => e = .returned (.bool true) ∧ Below w.heap.size w w' := by
  obtain ⟨A, cA, rfl, _⟩ := hn.shape
  have hn' := Lib.hid hn
  clear hn
  have hal := Lib.hid (alive_any w)
  cases hmb : muchB xss
  case true =>
    go_enter Try.func3, Try.ntmps3
    go_wp2_with (first
      | (go_at_call 8; refine hal.out.mono ?_; rintro e w1 ⟨rfl, hb1⟩; (have hmu := much_any (hn'.out.below hb1)); rw [hmb] at hmu)
      | (go_at_call 9; refine hmu.mono ?_; rintro e w2 ⟨rfl, rfl⟩))
    go_ret
    exact ⟨rfl, hb1⟩
  by_cases hx : refused xss = 0
  case neg =>
    have hnum : ∀ W, Calls Try.prog 11 #[.int .i64 (refused xss)] W fun e w' => e = .returned (.int .i64 (refused xss)) ∧ W = w' := fun W => num_any _ W
    have b1 : (refused xss != 0) = true := by simpa using hx
    go_enter Try.func3, Try.ntmps3
    go_wp2_with (first
      | (go_at_call 8; refine hal.out.mono ?_; rintro e w1 ⟨rfl, hb1⟩; (have hmu := much_any (hn'.out.below hb1)); rw [hmb] at hmu; (have hco := Lib.hid (comps_refused hx (hn'.out.below hb1))))
      | (go_at_call 9; refine hmu.mono ?_; rintro e w2 ⟨rfl, rfl⟩)
      | (go_at_call 10; refine hco.out.mono ?_; rintro e w2 ⟨rfl, rfl⟩)
      | (go_at_call 11; refine (hnum _).mono ?_; rintro e w2 ⟨rfl, rfl⟩))
    go_ret
    exact ⟨rfl, hb1⟩
  have hnum : ∀ W, Calls Try.prog 11 #[.int .i64 0] W fun e w' => e = .returned (.int .i64 0) ∧ W = w' := fun W => num_any 0 W
  obtain ⟨hl, hrow, _⟩ := refused_zero hx
  obtain ⟨i0, hinf, hz0, hz1, hz2⟩ := info_parts info_int
  have hmk0 := fun W : World => run_make_n (P := Try.prog) 29 3 i0 (.int .i64 0) 8 Try.underlying29 hinf hz0 hz1 hz2 rfl .i64 .i64 xss.length (by omega) (by unfold maxLen; omega) W
  have hx' := Lib.hid hx
  clear hx hrow
  go_enter Try.func3, Try.ntmps3
  go_wp2_with (first
    | (go_at_call 8; refine hal.out.mono ?_; rintro e w1 ⟨rfl, hb1⟩; (have hmu := much_any (hn'.out.below hb1)); rw [hmb] at hmu; (have hco := Lib.hid (comps_told hx'.out (hn'.out.below hb1))))
    | (go_at_call 9; refine hmu.mono ?_; rintro e w2 ⟨rfl, rfl⟩)
    | (go_at_call 10; refine hco.out.mono ?_; rintro e w2 ⟨lv, rep, T, rfl, hr, hT, hS⟩; (have hS' := Lib.hid hS); (have hr' := Lib.hid hr); (have hT' := Lib.hid hT); clear hS hr hT)
    | (go_at_call 11; refine (hnum _).mono ?_; rintro e w2 ⟨rfl, rfl⟩))
  rename_i K hK
  obtain ⟨R, hRdef⟩ : ∃ R, R = compsN xss.length rep T := ⟨_, rfl⟩
  have hnd : R.flatten.Nodup := by rw [hRdef]; exact compsN_nodup _ _ hT'.out.1.nodup
  have hmem : ∀ x, x ∈ R.flatten ↔ x < xss.length := fun x => by rw [hRdef]; exact compsN_mem hr'.out hT'.out x
  have hlen : R.flatten.length = xss.length := by rw [hRdef]; exact compsN_len hr'.out hT'.out
  have hRl : R.length ≤ 1024 := by
    have h1 : R.length = T.length := by rw [hRdef, compsN, List.length_map]
    have h2 : T.length ≤ (List.range xss.length).length := List.Nodup.length_le_of_subset hT'.out.1.nodup fun x hx => List.mem_range.2 (hT'.out.1.lt x hx).1
    rw [List.length_range] at h2
    omega
  have hrl : ∀ (i : Nat) (r : List Nat), R[i]? = some r → r.length ≤ 1024 := fun i r h => by
    have := row_len hnd (fun x hx => (hmem x).1 hx) h
    omega
  have hrows : ∀ (i : Nat) (r : List Nat), R[i]? = some r → (∀ x, x ∈ r → x < xss.length) ∧ ∀ (k x y : Nat), r[k]? = some x → r[k + 1]? = some y → x < y := by
    intro i r h
    rw [hRdef] at h
    refine ⟨fun x hx => comps_row_lt h hx, fun k x y hx hy => ?_⟩
    obtain ⟨h1, e1⟩ := List.getElem?_eq_some_iff.1 hx
    obtain ⟨h2, e2⟩ := List.getElem?_eq_some_iff.1 hy
    have := comps_row_up h h2
    rw [e1, e2] at this
    exact this
  have hmut : ∀ (i : Nat) (r : List Nat), R[i]? = some r → (∀ x, x ∈ r → x < xss.length) ∧ ∀ (k j x y : Nat), r[k]? = some x → r[j]? = some y → j < k → rpB xss x y = true ∧ rpB xss y x = true := by
    intro i r h
    have hs : r.Nodup := (List.sublist_flatten_of_mem (List.mem_of_getElem? h)).nodup hnd
    refine ⟨(hrows i r h).1, fun k j x y hx hy hjk => ?_⟩
    rw [hRdef] at h
    have hne : x ≠ y := by
      intro e
      obtain ⟨h1, e1⟩ := List.getElem?_eq_some_iff.1 hx
      obtain ⟨h2, e2⟩ := List.getElem?_eq_some_iff.1 hy
      have := (List.getElem_inj hs).1 (e1.trans (e.trans e2.symm))
      omega
    have := Told.mutual hr'.out h (List.mem_of_getElem? hx) (List.mem_of_getElem? hy) hne
    simpa [both] using this
  have hS1 : Sep w1 w2 [rowsR lv (natRows R)] := by
    have h := hS'.out
    rw [comps_rows_eq, ← hRdef] at h
    exact h
  have hS2 : SW w1 (w2.alloc (.cells (madeCells #[.int .i64 0] xss.length) 3)) R lv w2.heap.size xss.length [] := by
    unfold SW
    rw [atF_nil, ← zeros_arr]
    exact (hS1.made 3 (.int .i64 0) xss.length (by unfold maxLen; omega)).sel [1, 0] (by decide) (by simp)
  have hord : ∀ v u, v < xss.length → u ∈ adjOf xss v → rowOf R u + 1 ≤ rowOf R v + 1 := by
    intro v u hv hu
    have := hT'.out.order hx'.out hr'.out hv hu
    rw [← hRdef] at this
    omega
  have hmem' := Lib.hid hmem
  have hS2' := Lib.hid hS2
  have hmut' := Lib.hid hmut
  have hrl' := Lib.hid hrl
  have hord' := Lib.hid hord
  have hn1 := Lib.hid (hn'.out.below hb1)
  clear hS2 hS1 hS' hmk0 hmem hmut hord hco hmu hal
  refine whole_at hl hRl hnd hlen hrows ⟨rfl, rfl, rfl, rfl, rfl, rfl, rfl, trivial⟩ hS2'.out ?_
  clear hnd hlen hrows hRdef
  intro ac3 w3 hF hS3
  obtain ⟨f3, rfl, h0, h5, h7, h8, -⟩ := hF.lit
  simp only at h0 h5 h7 h8
  show K _ w3
  apply hK
  clear hK hF hS2'
  simp only [lits, Nat.reduceAdd, h0, h5, h7, h8]
  have hS4 : Sep w1 w3 [arr w2.heap.size xss.length (fun v => ((rowOf R v + 1 : Nat) : Int)), rowsR lv (natRows R)] := by
    have h := Sep.sel [1, 0] hS3 (by decide) (by simp)
    have e : arr w2.heap.size xss.length (atF R R.flatten) = arr w2.heap.size xss.length (fun v => ((rowOf R v + 1 : Nat) : Int)) := arr_congr fun v hv => by
      simp only [atF]
      rw [if_pos ((hmem'.out v).2 hv)]
      omega
    rw [← e]
    exact h
  have hS4' := Lib.hid hS4
  clear hS3 hS4
  generalize w2.heap.size = ga at hS4' ⊢
  go_wp2_with fail
  rename_i K hK
  refine whole_order (p := fun v => rowOf R v + 1) (lv := lv) hx'.out hn1.out hord'.out ⟨rfl, rfl, rfl, rfl, rfl, rfl, trivial⟩ hS4'.out ?_
  intro ac4 w4 hF hS5
  obtain ⟨f4, rfl, k0, k5, -⟩ := hF.lit
  simp only at k0 k5
  show K _ w4
  apply hK
  clear hK hF hS4' h0 h5 h7 h8
  simp only [lits, Nat.reduceAdd, k0, k5]
  have hpa := Lib.hid (parts_any hx'.out (hn1.out.below hS5.below))
  have hS5' := Lib.hid hS5
  clear hS5
  go_wp2_with (go_at_call 12; refine hpa.out.mono ?_; rintro e w5 ⟨tv, av, rfl, hS6⟩; (have hS6' := Lib.hid hS6); clear hS6)
  rename_i K hK
  have hS7 := Sep.drop 2 (Sep.sel [0, 2, 3, 1] (hS5'.out.join hS6'.out) (by decide) (by simp))
  refine whole_mutual hl hRl hrl'.out hmut'.out ⟨rfl, rfl, rfl, rfl, rfl, trivial⟩ hS7 ?_
  intro ac6 w6 hF hS8
  obtain ⟨f6, rfl, -⟩ := hF.lit
  show K _ w6
  apply hK
  clear hK hF k0 k5 hS7
  simp only [lits, Nat.reduceAdd]
  have hb := hb1.trans (hS8.below.mono hb1.size)
  have hb' := Lib.hid hb
  clear hb hS8
  go_wp2_with fail
  go_ret
  exact ⟨rfl, hb'.out⟩
end Go.Proofs.Ytdidkpgdjehodaa
