/- Break, laid together. -/
import Derived.Test.YtioonfceamgpmaaGreatDoorJ30
import Derived.Test.YtioonfceamgpmaaGreatDoorJ26
namespace Go.Proofs.YtioonfceamgpmaaGreatDoor
open Go.RowKit Go.Shelf
set_option linter.unusedVariables false

def scopeOfB : Option Code → Code
  | some (.seq _ (.scope c)) => c
  | _ => .skip
noncomputable def breakScope : Code := scopeOfB Tryz.f8.body
/-- The code behind label 0. -/
noncomputable def againCode : Code := stripSkip ((findLabel breakScope 0).getD .skip)

/-- The cutter in the memory. -/
def BSt (w0 w : World) (acts : List Ins) (xss : List (List Int)) (k b : Nat) : Prop :=
  ∃ va vn vs, vs.length = acts.length ∧ Sep w0 w (.box b 48 #[va, vn, .int .i64 k] :: insR va acts :: .sl 33 1 vn acts.length vs :: (List.zipWith intsR vs xss ++ []))

theorem rows_of {w0 w : World} {A B : Asn} {v : Value} {vs : List Value} {xss : List (List Int)} {R : List Asn} {n : Nat} (hl : vs.length = n) (hx : xss.length = n) (h : Sep w0 w (A :: B :: .sl 33 1 v n vs :: (List.zipWith intsR vs xss ++ R))) : RowsAt w v xss := by
  have h1 := h.rd 2 rfl
  rw [← hx] at h1
  refine ⟨vs, h1, fun k u xs hu hxs => ?_⟩
  have := h.ints (k + 3) (by
    show (List.zipWith intsR vs xss ++ R)[k]? = some (intsR u xs)
    have a1 := (List.getElem?_eq_some_iff.1 hu).1
    have a2 := (List.getElem?_eq_some_iff.1 hxs).1
    rw [List.getElem?_append_left (by rw [List.length_zipWith]; omega)]
    exact zip_some hu hxs)
  exact this

theorem push_perm {α : Type} (X B S : α) (Z R : List α) : (X :: B :: S :: (Z ++ R)).Perm (S :: (Z ++ (X :: B :: R))) := by
  have h1 : (Z ++ (X :: B :: R)).Perm (X :: (Z ++ (B :: R))) := List.perm_middle
  have h2 : (Z ++ (B :: R)).Perm (B :: (Z ++ R)) := List.perm_middle
  have h3 : (X :: B :: S :: (Z ++ R)).Perm (S :: X :: B :: (Z ++ R)) := List.perm_middle (l₁ := [X, B]) (l₂ := Z ++ R) (a := S)
  exact h3.trans ((h1.trans (h2.cons X)).symm.cons S)
theorem bst_perm {α : Type} (S B I : α) (Z : List α) : (S :: (Z ++ [B, I])).Perm (B :: I :: S :: (Z ++ [])) := by
  rw [List.append_nil]
  have h1 : (Z ++ [B, I]).Perm ([B, I] ++ Z) := List.perm_append_comm
  exact (h1.cons S).trans (List.perm_middle (l₁ := [B, I]) (l₂ := Z) (a := S)).symm
theorem Sep.bare {w0 w : World} {As : List Asn} (h : Sep w0 w As) : Sep w0 w [] := by
  have h1 := Sep.drop As.length h
  rwa [List.drop_length] at h1
theorem bst_shut {w0 w : World} {b : Nat} {va vn : Value} {vs : List Value} {acts : List Ins} {xss : List (List Int)} {C : Array Value} (hl : vs.length = xss.length) (h : Sep w0 w (.box b 48 C :: insR va acts :: .sl 33 1 vn xss.length vs :: List.zipWith intsR vs xss)) : Sep w0 w [insR va acts, rowsR vn xss] := by
  have h1 : Sep w0 w (.sl 33 1 vn xss.length vs :: (List.zipWith intsR vs xss ++ [insR va acts])) := by
    refine (Sep.drop 1 h).perm ?_
    exact (List.Perm.swap _ _ _).trans ((List.perm_append_singleton _ _).symm.cons _)
  exact (Sep.list_shut hl h1).perm (List.Perm.swap _ _ _)

section
variable {w0 w : World} {acts : List Ins} {xss : List (List Int)} {k b : Nat} {Q : Exit → Act → World → Prop} {a : Act} {v0 v1 v2 v3 v4 v5 v6 v7 v8 v9 : Value}

set_option maxRecDepth 100000 in
set_option maxHeartbeats 1000000 in
theorem again_done (hf : Fm 105 a [v0, v1, v2, v3, v4, v5, v6, v7, v8, v9, .pointer (some ⟨b, 0, none⟩)]) (hS : BSt w0 w acts xss k b) (hI : BInv acts xss k) (hr : roundRows xss = [])
    (hQ : ∀ a' w' va vn u0 u1 u2 u3, Fm 105 a' [u0, u1, u2, u3, va, vn, .int .i64 k, .int .i64 0] → Sep w0 w' [insR va acts, rowsR vn xss] → Q .ret a' w') :
    againCode.wp Tryz.prog Q a w := by
  obtain ⟨f, rfl⟩ := Fm.lit (m := 94) hf rfl
  simp only [lits, List.cons_append, List.nil_append]
  obtain ⟨va, vn, vs, hvl, hS⟩ := hS
  have hro := round_any (rows_of hvl hI.len hS)
  have hx : refused xss = 0 := okay_refused hI.ok (by have := hI.len; have := hI.small; have := hI.pot; omega)
  rw [hr, hx] at hro
  have d1 : w.cell? ⟨b, 1, none⟩ = some vn := by rw [hS.box_cell 0 rfl 1]; rfl
  have hro' := Lib.hid hro
  have hS' := Lib.hid hS
  have hQ' := Lib.hid hQ
  have hI' := Lib.hid hI
  clear hro hS hQ hx hr hI
  conv => arg 2; whnf
  go_wp2_with (go_at_call 20; refine hro'.out.mono ?_; rintro e w1 ⟨v, rfl, hR⟩; obtain ⟨A1, c1, rfl, _⟩ := (hR.rows 0 rfl).shape; have hR' := Lib.hid hR; clear hR)
  refine wp_label ?_
  have hS1 := hS'.out.pure hR'.out.below
  have e0 : ∀ W, World.cell? (w1.drewN W) ⟨b, 0, none⟩ = some va := fun W => by rw [(hS1.drewN W).box_cell 0 rfl 0]; rfl
  have d0 : w1.cell? ⟨b, 0, none⟩ = some va := by rw [hS1.box_cell 0 rfl 0]; rfl
  have d2 : w1.cell? ⟨b, 1, none⟩ = some vn := by rw [hS1.box_cell 0 rfl 1]; rfl
  have d3 : w1.cell? ⟨b, 2, none⟩ = some (.int .i64 k) := by rw [hS1.box_cell 0 rfl 2]; rfl
  have hS1' := Lib.hid hS1
  clear hS1 d1 e0
  go_wp2_with fail
  refine wp_loop_rounds 1 ?_
  rw [rounds_succ]
  go_wp2_with fail
  go_quiet (fail)
  go_wp2_with fail
  refine hQ'.out _ _ va vn _ _ _ _ ⟨rfl, rfl, rfl⟩ ?_
  have hlen : acts.length = xss.length := hI'.out.len.symm
  have h1 := hS1'.out.drewN nq
  rw [List.append_nil, hlen] at h1
  exact bst_shut (by rw [hvl, hlen]) h1

set_option maxRecDepth 100000 in
set_option maxHeartbeats 1000000 in
theorem again_stuck (hf : Fm 105 a [v0, v1, v2, v3, v4, v5, v6, v7, v8, v9, .pointer (some ⟨b, 0, none⟩)]) (hS : BSt w0 w acts xss k b) (hI : BInv acts xss k) {ns : List Int} {rest : List (List Int)} (hr : roundRows xss = ns :: rest) (hs : firstL acts ns < 0)
    (hQ : ∀ a' w' u0 u1 u2 u3, Fm 105 a' [u0, u1, u2, u3, .slice none 0 0, .slice none 0 0, .int .i64 0, .int .i64 33] → Sep w0 w' [] → Q .ret a' w') :
    againCode.wp Tryz.prog Q a w := by
  obtain ⟨f, rfl⟩ := Fm.lit (m := 94) hf rfl
  simp only [lits, List.cons_append, List.nil_append]
  obtain ⟨va, vn, vs, hvl, hS⟩ := hS
  have hro := round_any (rows_of hvl hI.len hS)
  have hx : refused xss = 0 := okay_refused hI.ok (by have := hI.len; have := hI.small; have := hI.pot; omega)
  have hmem : ∀ y ∈ ns, 0 ≤ y ∧ y.toNat < acts.length := by
    intro y hy
    obtain ⟨r, rfl, h1, _⟩ := round_mem hx (ns := ns) (by rw [hr]; simp) hy
    have := hI.len
    omega
  rw [hr, hx] at hro
  have d1 : w.cell? ⟨b, 1, none⟩ = some vn := by rw [hS.box_cell 0 rfl 1]; rfl
  have hro' := Lib.hid hro
  have hS' := Lib.hid hS
  have hQ' := Lib.hid hQ
  have hI' := Lib.hid hI
  have hmem' := Lib.hid hmem
  clear hro hS hQ hx hr hI hmem
  conv => arg 2; whnf
  go_wp2_with (go_at_call 20; refine hro'.out.mono ?_; rintro e w1 ⟨v, rfl, hR⟩; obtain ⟨g1, c1, u1, rfl, hc1, ⟨A2, c2, rfl⟩, _⟩ := rows_cells (k := 0) hR (by simp); have hR' := Lib.hid hR; clear hR)
  refine wp_label ?_
  simp only [List.getElem_cons_zero] at hc1
  have hl1 : (0 : Int) < (rest.length : Int) + 1 := by omega
  have hI2 : IntsAt w1 (.slice A2 ns.length c2) ns := by
    obtain ⟨vs2, hl2, h2⟩ := Sep.list_open hR'.out
    have hv : vs2[0]? = some (.slice A2 ns.length c2) := by
      rw [← h2.cellAt 0 rfl 0 (by simp)]
      exact hc1
    have h3 : (List.zipWith intsR vs2 (ns :: rest) ++ [])[0]? = some (intsR (.slice A2 ns.length c2) ns) := by
      rw [List.append_nil]
      exact zip_some hv rfl
    exact h2.ints 1 h3
  have hfi := first_any (hS'.out.pure hR'.out.below) hI2 hmem'.out hI'.out.path (by have := hI'.out.small; have := hI'.out.pot; omega)
  have hfi' := Lib.hid hfi
  have hS1' := Lib.hid (hS'.out.pure hR'.out.below)
  clear hfi d1
  go_wp2_with fail
  refine wp_loop_rounds 1 ?_
  rw [rounds_succ]
  go_wp2_with (go_at_call 21; refine hfi'.out.mono ?_; rintro e w2 ⟨rfl, hb2⟩)
  refine hQ'.out _ _ _ _ _ _ ⟨rfl, rfl, rfl⟩ ?_
  exact (hS1'.out.pure hb2).bare

/-- What holds at label 0 while m is to be done. -/
def JB (w0 : World) (T : Broken) (m l : Nat) (a : Act) (w : World) : Prop :=
  l = 0 ∧ ∃ acts xss k b v0 v1 v2 v3 v4 v5 v6 v7 v8 v9, Fm 105 a [v0, v1, v2, v3, v4, v5, v6, v7, v8, v9, .pointer (some ⟨b, 0, none⟩)] ∧ BSt w0 w acts xss k b ∧ BInv acts xss k ∧ potB acts xss < m ∧ breakP m acts xss k = T

set_option maxRecDepth 100000 in
set_option maxHeartbeats 1000000 in
theorem again_cut (hf : Fm 105 a [v0, v1, v2, v3, v4, v5, v6, v7, v8, v9, .pointer (some ⟨b, 0, none⟩)]) (hS : BSt w0 w acts xss k b) (hI : BInv acts xss k) {ns : List Int} {rest : List (List Int)} (hr : roundRows xss = ns :: rest) (hs : 0 ≤ firstL acts ns)
    (hQ : ∀ a' w' r v0 v1 v2 v3 v4 v5 v6 v7 v8 v9, placeR ns (firstL acts ns) = r → r < acts.length → cutable acts xss r = true → Fm 105 a' [v0, v1, v2, v3, v4, v5, v6, v7, v8, v9, .pointer (some ⟨b, 0, none⟩)] → BSt w0 w' (cutActs acts (acts.getD r insZ) k r) (cutNext acts xss k r) (k + 1) b → Q (.goto 0) a' w') :
    againCode.wp Tryz.prog Q a w := by
  obtain ⟨f, rfl⟩ := Fm.lit (m := 94) hf rfl
  simp only [lits, List.cons_append, List.nil_append]
  obtain ⟨va, vn, vs, hvl, hS⟩ := hS
  have hro := round_any (rows_of hvl hI.len hS)
  have hx : refused xss = 0 := okay_refused hI.ok (by have := hI.len; have := hI.small; have := hI.pot; omega)
  have hmem : ∀ y ∈ ns, 0 ≤ y ∧ y.toNat < acts.length := by
    intro y hy
    obtain ⟨r, rfl, h1, _⟩ := round_mem hx (ns := ns) (by rw [hr]; simp) hy
    have := hI.len
    omega
  obtain ⟨j, r, hj, hjr, hpl, hra, hcu⟩ := place_good hI (ns := ns) (by rw [hr]; simp) hs
  rw [hr, hx] at hro
  have d1 : w.cell? ⟨b, 1, none⟩ = some vn := by rw [hS.box_cell 0 rfl 1]; rfl
  have hro' := Lib.hid hro
  have hS' := Lib.hid hS
  have hQ' := Lib.hid hQ
  have hI' := Lib.hid hI
  have hmem' := Lib.hid hmem
  have hj' := Lib.hid hj
  have hjr' := Lib.hid hjr
  have hpl' := Lib.hid hpl
  have hcu' := Lib.hid hcu
  clear hro hS hQ hx hr hI hmem hj hjr hpl hcu
  conv => arg 2; whnf
  go_wp2_with (go_at_call 20; refine hro'.out.mono ?_; rintro e w1 ⟨v, rfl, hR⟩; obtain ⟨g1, c1, u1, rfl, hc1, ⟨A2, c2, rfl⟩, hc2⟩ := rows_cells (k := 0) hR (by simp); have hR' := Lib.hid hR; clear hR)
  refine wp_label ?_
  simp only [List.getElem_cons_zero] at hc1 hc2
  have hl1 : (0 : Int) < (rest.length : Int) + 1 := by omega
  have hI2 : IntsAt w1 (.slice A2 ns.length c2) ns := by
    obtain ⟨vs2, hl2, h2⟩ := Sep.list_open hR'.out
    have hv : vs2[0]? = some (.slice A2 ns.length c2) := by
      rw [← h2.cellAt 0 rfl 0 (by simp)]
      exact hc1
    have h3 : (List.zipWith intsR vs2 (ns :: rest) ++ [])[0]? = some (intsR (.slice A2 ns.length c2) ns) := by
      rw [List.append_nil]
      exact zip_some hv rfl
    exact h2.ints 1 h3
  have hjl : j < ns.length := (List.getElem?_eq_some_iff.1 hjr'.out).1
  obtain ⟨g2, c3, e2, hc3⟩ := hc2 (by omega)
  simp only [Value.slice.injEq] at e2
  obtain ⟨rfl, _, rfl⟩ := e2
  have hc4 : ∀ w2, Below w1.heap.size w1 w2 → w2.cell? ⟨g2, j, none⟩ = some (.int .i64 (r : Int)) := by
    intro w2 hb
    obtain ⟨hlt, e⟩ := List.getElem?_eq_some_iff.1 hjr'.out
    have h3 := (hI2.below hb).at_ hlt
    obtain ⟨ad, c', e1, h4⟩ := h3
    simp only [Value.slice.injEq, Option.some.injEq] at e1
    obtain ⟨rfl, _, rfl⟩ := e1
    rw [e] at h4
    by_cases h0 : j = 0
    · subst h0; exact h4
    · simpa [Addr.add, h0] using h4
  have hfi := first_any (hS'.out.pure hR'.out.below) hI2 hmem'.out hI'.out.path (by have := hI'.out.small; have := hI'.out.pot; omega)
  rw [hj'.out] at hfi
  have hfi' := Lib.hid hfi
  have hc4' := Lib.hid hc4
  have hS1' := Lib.hid (hS'.out.pure hR'.out.below)
  have b1 : (0 : Int) ≤ (j : Int) := by omega
  have b2 : (j : Int) < (ns.length : Int) := by omega
  clear hfi d1 hc4 hc3 hI2
  go_wp2_with fail
  refine wp_loop_rounds 1 ?_
  rw [rounds_succ]
  go_wp2_with (go_at_call 21; refine hfi'.out.mono ?_; rintro e w2 ⟨rfl, hb2⟩; have hb2' := Lib.hid hb2; have d5 := hc4'.out _ hb2; clear hb2)
  have hk := (hI'.out.next hra hcu'.out).1
  have hlen := hI'.out.len
  have hcut := cut_any k r acts.length hvl rfl hlen hk (x := acts.getD r insZ) (xs0 := xss.getD r []) (by rw [List.getD_eq_getElem?_getD, List.getElem?_eq_getElem hra]; rfl) (by rw [List.getD_eq_getElem?_getD, List.getElem?_eq_getElem (by omega)]; rfl) (by have := hI'.out.small; omega) (hS1'.out.pure hb2'.out) (fun xs hxs => by have := hI'.out.ok.len hxs; have := hI'.out.small; omega)
  have hcut' := Lib.hid hcut
  clear hcut
  refine hcut'.out.mono ?_
  rintro e w3 ⟨rfl, hP⟩
  have hP' := Lib.hid hP
  clear hP d5
  go_wp2_with fail
  refine wp_goto ?_
  refine hQ'.out _ _ r v0 v1 v2 v3 v4 v5 v6 v7 v8 v9 hpl'.out hra hcu'.out ⟨rfl, rfl, rfl⟩ ?_
  obtain ⟨va', vn', vs', hv', hS3⟩ := hP'.out
  refine ⟨va', vn', vs', by rw [hv', cutActs_len], ?_⟩
  rw [cutActs_len, cutNext, hlen]
  exact hS3

theorem again_pass {T : Broken} {m : Nat} (hJ : JB w0 T m 0 a w)
    (hQ : ∀ a' w' va vn u0 u1 u2 u3, Fm 105 a' [u0, u1, u2, u3, va, vn, .int .i64 T.cuts, .int .i64 T.err] → Sep w0 w' [insR va T.acts, rowsR vn T.needs] → Q .ret a' w') :
    againCode.wp Tryz.prog (Jumps (fun l' a' w' => ∃ m', m' < m ∧ JB w0 T m' l' a' w') Q) a w := by
  obtain ⟨_, acts, xss, k, b, v0, v1, v2, v3, v4, v5, v6, v7, v8, v9, hf, hS, hI, hp, hT⟩ := hJ
  obtain ⟨m, rfl⟩ : ∃ m', m = m' + 1 := ⟨m - 1, by omega⟩
  unfold breakP at hT
  rcases hr : roundRows xss with _ | ⟨ns, rest⟩
  · rw [hr] at hT
    simp only at hT
    subst hT
    exact again_done hf hS hI hr fun a' w' va vn u0 u1 u2 u3 h1 h2 => hQ a' w' va vn u0 u1 u2 u3 h1 h2
  · rw [hr] at hT
    simp only at hT
    by_cases hs : firstL acts ns < 0
    · rw [if_pos hs] at hT
      subst hT
      refine again_stuck hf hS hI hr hs fun a' w' u0 u1 u2 u3 h1 h2 => hQ a' w' _ _ u0 u1 u2 u3 h1 ?_
      exact (h2.list_nil _ _).sl_nil _ _
    · rw [if_neg hs] at hT
      refine again_cut hf hS hI hr (by omega) fun a' w' r v0 v1 v2 v3 v4 v5 v6 v7 v8 v9 hpl hra hcu h1 h2 => ?_
      rw [hpl] at hT
      obtain ⟨hk, hI2⟩ := hI.next hra hcu
      have hp2 := pot_next hI.len hra hk hcu
      exact ⟨m, by omega, rfl, _, _, _, b, v0, v1, v2, v3, v4, v5, v6, v7, v8, v9, h1, h2, hI2, by omega, hT⟩
end

/-- What Break leaves. -/
def BreakPost (w : World) (T : Broken) (e : Ending) (w' : World) : Prop := ∃ va vn, e = .returned (.tuple #[va, vn, .int .i64 T.cuts, .int .i64 T.err]) ∧ Sep w w' [insR va T.acts, rowsR vn T.needs]

set_option maxRecDepth 100000 in
set_option maxHeartbeats 1000000 in
theorem break_any {acts : List Ins} {xss : List (List Int)} {w : World} {va vn : Value} (ha : InsAt w va acts) (hn : RowsAt w vn xss) (hl : xss.length ≤ 50) (hal : acts.length ≤ 1048576) (hp : ∀ x ∈ acts, x.path.size ≤ 4611686018427387904) :
    Calls Tryz.prog 8 #[va, vn] w (BreakPost w (breakT acts xss)) := by
  have hco := comps_any hn
  obtain ⟨An, cn, rfl, _⟩ := hn.shape
  obtain ⟨Aa, ca, rfl, _⟩ := ha.shape
  have hco' := Lib.hid hco
  have hn' := Lib.hid hn
  have ha' := Lib.hid ha
  have hp' := Lib.hid hp
  clear hco hn ha hp
  obtain ⟨T, hT⟩ : ∃ T, T = breakT acts xss := ⟨_, rfl⟩
  rw [← hT]
  have hT' := Lib.hid hT
  clear hT
  go_enter Tryz.func8, Tryz.ntmps8
  go_wp2_with fail
  have hQ : ∀ a' w' va vn u0 u1 u2 u3, Fm 105 a' [u0, u1, u2, u3, va, vn, .int .i64 T.cuts, .int .i64 T.err] → Sep w w' [insR va T.acts, rowsR vn T.needs] → bodyPost Tryz.prog Tryz.f8 (BreakPost w T) .ret a' w' := by
    intro a' w' va vn u0 u1 u2 u3 hf hS
    obtain ⟨f, rfl⟩ := hf.lit (m := 97) rfl
    simp only [lits, Nat.reduceAdd, List.cons_append, List.nil_append]
    exact bodyPost_ret (v := .tuple #[va, vn, .int .i64 T.cuts, .int .i64 T.err]) (by simp [results, go_sem]) rfl ⟨va, vn, rfl, hS⟩
  have hQ' := Lib.hid hQ
  clear hQ
  refine wp_scope_labels (fun l => .seq .skip againCode) (fun m l a w' => JB w T m l a w') ?_ ?_ ?_
  · rintro m l a w' ⟨rfl, _⟩
    rfl
  · by_cases hx : refused xss = 0
    case neg =>
      have b1 : (refused xss != 0) = true := by simpa using hx
      have hTe := hT'.out
      unfold breakT at hTe
      rw [if_pos hx] at hTe
      subst hTe
      generalize refused xss = rx at hco' b1 hQ'
      clear hT' hx
      go_wp2_with (go_at_call 15; refine hco'.out.mono ?_; rintro e w1 ⟨v, rfl, hR⟩; have hR' := Lib.hid hR; clear hR)
      refine hQ'.out _ _ _ _ _ _ _ _ ⟨rfl, rfl, rfl⟩ ?_
      exact (hR'.out.bare.list_nil _ _).sl_nil _ _
    have hco := hco'.out
    rw [hx] at hco
    have hco2 := Lib.hid hco
    clear hco hco'
    by_cases hlen : xss.length = acts.length
    case neg =>
      have b1 : ((xss.length : Int) != (acts.length : Int)) = true := by simp; omega
      have hTe := hT'.out
      unfold breakT at hTe
      rw [if_neg (by simpa using hx), if_pos hlen] at hTe
      subst hTe
      clear hT' hx hlen
      go_wp2_with (go_at_call 15; refine hco2.out.mono ?_; rintro e w1 ⟨v, rfl, hR⟩; have hR' := Lib.hid hR; clear hR)
      refine hQ'.out _ _ _ _ _ _ _ _ ⟨rfl, rfl, rfl⟩ ?_
      exact (hR'.out.bare.list_nil _ _).sl_nil _ _
    have b1 : ((xss.length : Int) != (acts.length : Int)) = false := by simp; omega
    have hlen' := Lib.hid hlen
    have hx' := Lib.hid hx
    clear hx hlen
    go_wp2_with (first | (go_at_call 15; refine hco2.out.mono ?_; rintro e w1 ⟨v, rfl, hR⟩; have hb1 := Lib.hid hR.below; clear hR; have hcl := Lib.hid (clone_ins_any (ha'.out.below hb1.out) hal)) | (go_at_call 16; refine hcl.out.mono ?_; rintro e w2 ⟨v2, rfl, hC⟩; obtain ⟨A2, c2, rfl, _⟩ := (hC.ins 0 rfl).shape; have hC' := Lib.hid hC; clear hC))
    have hrow : ∀ W, Below w.heap.size w W → RowsAt W (.slice An xss.length cn) xss := fun W hW => hn'.out.below hW
    have hrow' := Lib.hid hrow
    have hbs : Sep w (w2.alloc (.cells #[.slice A2 acts.length c2, .slice none 0 0, .int .i64 0] 48)) (.box w2.heap.size 48 #[.slice A2 acts.length c2, .slice none 0 0, .int .i64 0] :: rowsR (.slice none 0 0) [] :: [insR (.slice A2 acts.length c2) acts]) := by
      have h1 : Sep w w2 [insR (.slice A2 acts.length c2) acts] := by
        have h0 := hC'.out
        exact ⟨hb1.out.trans (h0.1.mono hb1.out.size), by obtain ⟨_, Fs, f1, f2, f3⟩ := h0; exact ⟨Fs, f1, f2, fun b hb => Nat.le_trans hb1.out.size (f3 b hb)⟩⟩
      exact (h1.list_nil 33 intsR).box_new 48 #[.slice A2 acts.length c2, .slice none 0 0, .int .i64 0]
    generalize hBb : w2.heap.size = B at hbs ⊢
    generalize w2.alloc (.cells #[.slice A2 acts.length c2, .slice none 0 0, .int .i64 0] 48) = w3 at hbs ⊢
    have hbs' := Lib.hid hbs
    clear hbs hBb hcl hC' hb1 hn' ha' hrow
    go_loopw [38] (fun iv wr => ∃ (i : Nat) (u : Value), i ≤ xss.length ∧ iv = .int .i64 i ∧ Sep w wr (.box B 48 #[.slice A2 acts.length c2, u, .int .i64 0] :: rowsR u ((xss.take i).map normL) :: [insR (.slice A2 acts.length c2) acts])) (fun iv _ => xss.length - (intOf iv).toNat)
    case atStart => exact ⟨0, _, Nat.zero_le _, rfl, by simpa using hbs'.out⟩
    case round =>
      obtain ⟨i, u, hi, rfl, hS⟩ := hrel
      by_cases hlt : i < xss.length
      · obtain ⟨ad, c', ur, e, h3, h4⟩ := (hrow'.out wr hS.below).at_ hlt
        cases e
        obtain ⟨Ar, cr, rfl, hmr⟩ := h4.shape
        have hrl : (xss[i]).length ≤ 1024 := (refused_zero hx'.out).2.1 i hlt
        have q1 : (0 : Int) ≤ (i : Int) := by omega
        have q2 : (i : Int) < (xss.length : Int) := by omega
        obtain ⟨k0, hknf, hk0, hk1, hk2⟩ := info_parts info_rows
        obtain ⟨vs, hvl, hO⟩ := Sep.list_open (hS.perm (List.Perm.swap _ _ _))
        have hlen2 : ((xss.take i).map normL).length = i := by rw [List.length_map, List.length_take]; omega
        rw [hlen2] at hO hvl
        obtain ⟨yss, hys⟩ : ∃ y, y = (xss.take i).map normL := ⟨_, rfl⟩
        rw [← hys] at hO
        have hO1 : Sep w wr (.box B 48 #[.slice A2 acts.length c2, u, .int .i64 0] :: .sl 33 1 u i vs :: (List.zipWith intsR vs yss ++ [insR (.slice A2 acts.length c2) acts])) := hO.perm (by
          refine (List.perm_middle (l₁ := .sl 33 1 u i vs :: List.zipWith intsR vs yss) (l₂ := [insR (.slice A2 acts.length c2) acts]) (a := .box B 48 #[.slice A2 acts.length c2, u, .int .i64 0])))
        have m1 : ∀ (d : Nat) (As : List Asn) (w' : World), Sep w w' As → As[d]? = some (.box B 48 #[.slice A2 acts.length c2, u, .int .i64 0]) → w'.cell? ⟨B, 1, none⟩ = some u := by
          intro d As w' h h2
          rw [h.box_cell _ h2 1]; rfl
        have hE := m1 0 _ _ hO1.drew rfl
        have hm1 := Lib.hid m1
        have hO1' := Lib.hid hO1
        have hys' := Lib.hid hys
        have hvl' := Lib.hid hvl
        have hrow4 := Lib.hid h4
        obtain ⟨xs, hxs9⟩ : ∃ xs, xss[i] = xs := ⟨_, rfl⟩
        rw [hxs9] at hrl h3 hmr
        have hrow4 := Lib.hid (hxs9 ▸ hrow4.out)
        have hxs9' := Lib.hid hxs9
        clear hxs9
        clear hS hO hO1 m1 hys hvl h4 hlen2
        go_wp2_with fail
        have hE' : wr.drew.cell? ⟨B, 1, none⟩ = some u := hE
        refine wp_region_E (S := fun w' => w'.cell? ⟨B, 1, none⟩ = some u) 15 (by kernel_rfl) ?_
        simp only [List.size_toArray, List.length_cons, List.length_nil, Nat.reduceAdd]
        refine wpE_take (i := 0) (v := ?_) rfl (by kernel_rfl) (by kernel_rfl) (by kernel_rfl) (by kernel_rfl) (fun _ _ _ h => h) (Or.inl ⟨by rfl, ?_⟩) hE' ?_
        rotate_left
        · intro w hw; obtain e1 := hw; go_simp
          try with_reducible rfl
        simp only [Act.put]
        try simp only [List.setIfInBounds_toArray]
        refine wpE_take (i := 1) (v := ?_) rfl (by kernel_rfl) (by kernel_rfl) (by kernel_rfl) (by kernel_rfl) (fun _ _ _ h => h) (Or.inl ⟨by rfl, ?_⟩) hE' ?_
        rotate_left
        · intro w hw; obtain e1 := hw; go_simp
          try with_reducible rfl
        simp only [Act.put]
        try simp only [List.setIfInBounds_toArray]
        refine wpE_take (i := 2) (v := ?_) rfl (by kernel_rfl) (by kernel_rfl) (by kernel_rfl) (by kernel_rfl) (fun _ _ _ h => h) (Or.inl ⟨by rfl, ?_⟩) hE' ?_
        rotate_left
        · intro w hw; obtain e1 := hw; go_simp
          try with_reducible rfl
        simp only [Act.put]
        try simp only [List.setIfInBounds_toArray]
        refine wpE_take (i := 3) (v := ?_) rfl (by kernel_rfl) (by kernel_rfl) (by kernel_rfl) (by kernel_rfl) (fun _ _ _ h => h) (Or.inl ⟨by rfl, ?_⟩) hE' ?_
        rotate_left
        · intro w hw; obtain e1 := hw; go_simp
          try with_reducible rfl
        simp only [Act.put]
        try simp only [List.setIfInBounds_toArray]
        refine wpE_take (i := 4) (v := ?_) rfl (by kernel_rfl) (by kernel_rfl) (by kernel_rfl) (by kernel_rfl) (fun _ _ _ h => h) (Or.inl ⟨by rfl, ?_⟩) hE' ?_
        rotate_left
        · intro w hw; obtain e1 := hw; go_simp
          try with_reducible rfl
        simp only [Act.put]
        try simp only [List.setIfInBounds_toArray]
        refine wpE_take (i := 5) (v := ?_) rfl (by kernel_rfl) (by kernel_rfl) (by kernel_rfl) (by kernel_rfl) (fun _ _ _ h => h) (Or.inl ⟨by rfl, ?_⟩) hE' ?_
        rotate_left
        · intro w hw; obtain e1 := hw; go_simp
          try with_reducible rfl
        simp only [Act.put]
        try simp only [List.setIfInBounds_toArray]
        refine wpE_take (i := 6) (v := ?_) rfl (by kernel_rfl) (by kernel_rfl) (by kernel_rfl) (by kernel_rfl) (fun _ _ _ h => h) (Or.inl ⟨by rfl, ?_⟩) hE' ?_
        rotate_left
        · intro w hw; obtain e1 := hw; go_simp
          try with_reducible rfl
        simp only [Act.put]
        try simp only [List.setIfInBounds_toArray]
        refine wpE_one (i := 7) (by kernel_rfl) rfl (fun K hK => ?_)
        go_simp
        go_at_call 19
        refine (values_any Ar xs.length cr _).mono ?_
        rintro e w4 ⟨rfl, rfl⟩
        have hOa := hO1'.out.drew.alloc (.cells #[.slice Ar xs.length cr] 33)
        have r0 := hm1.out 0 _ _ hOa rfl
        have hso := sorted_any (w := wr.drew.alloc (.cells #[.slice Ar xs.length cr] 33)) (Bs := wr.drew.heap.size) (cap := cr) (A := Ar) (xs := xs) (by omega) (by simp) (Boxed.new wr.drew 33 (.slice Ar xs.length cr)).cell (hrow4.out.below (((Below.refl _ wr).drew).alloc (Nat.le_refl _) _))
        dsimp only
        refine hK _ _ (fun _ => r0) ?_
        clear hK K
        try simp only [Act.put]
        try simp only [List.setIfInBounds_toArray]
        refine wpE_one (i := 8) (by kernel_rfl) rfl (fun K hK => ?_)
        go_simp
        go_at_call 18
        refine hso.mono ?_
        rintro e w5 ⟨v5, rfl, hS5⟩
        have hO5 := hOa.join hS5
        have r1 := hm1.out 1 _ _ hO5 rfl
        have hco5 := compact_any 0 hO5 rfl (by rw [(sortL_perm xs).length_eq]; omega)
        dsimp only
        refine hK _ _ (fun _ => r1) ?_
        clear hso hOa
        clear hK K
        try simp only [Act.put]
        try simp only [List.setIfInBounds_toArray]
        refine wpE_one (i := 9) (by kernel_rfl) rfl (fun K hK => ?_)
        go_simp
        go_at_call 17
        refine hco5.mono ?_
        rintro e w6 ⟨v6, rfl, hO6⟩
        simp only [List.set_cons_zero, List.singleton_append] at hO6
        obtain ⟨A6, c6, rfl, _⟩ := (hO6.ints 0 rfl).shape
        have r2 := hm1.out 1 _ _ hO6 rfl
        have hO7 := hO6.alloc (.cells #[.slice A6 (Lib.compact (sortL xs)).length c6] 33)
        have r3 := hm1.out 1 _ _ hO7 rfl
        have hO7' := Lib.hid hO7
        have hO6' := Lib.hid hO6
        dsimp only
        refine hK _ _ (fun _ => r2) ?_
        clear hco5 hO5 hO6 hO7
        clear hK K
        try simp only [Act.put]
        try simp only [List.setIfInBounds_toArray]
        refine wpE_one (i := 10) (by kernel_rfl) rfl (fun K hK => ?_)
        go_simp
        refine hK _ _ (fun _ => r3) ?_
        clear hK K
        try simp only [Act.put]
        try simp only [List.setIfInBounds_toArray]
        refine wpE_one (i := 11) (by kernel_rfl) rfl (fun K hK => ?_)
        refine step_append_sep 2 (by rfl) _ _ 23 (by rfl) 33 k0 _ 1 24 Tryz.underlying23 hknf hk0 hk1 hk2 rfl (by decide) hO7'.out u i vs (by rfl) (by rfl) ⟨w6.heap.size, 0, none⟩ 1 1 [.slice A6 (Lib.compact (sortL xs)).length c6] (by rfl) (by rfl) (cells_new _ _ _ _ (by simp)) (by simp [Value.oneCell']) (by decide) (by unfold maxLen; omega) (by omega) ?_
        intro g7 c7 w7 hSc hzc
        simp only [List.set_cons_zero, List.set_cons_succ] at hSc
        have r4 := hm1.out 1 _ _ hSc rfl
        have r5 := hSc.box_frozen 1 rfl 1
        replace hSc := Lib.hid hSc
        clear hzc
        refine hK _ _ (fun _ => r4) ?_
        clear hK K
        try simp only [Act.put]
        try simp only [List.setIfInBounds_toArray]
        refine wpE_one (i := 12) (by kernel_rfl) rfl (fun K hK => ?_)
        go_simp
        refine hK _ _ (fun _ => r4) ?_
        clear hK K
        try simp only [Act.put]
        try simp only [List.setIfInBounds_toArray]
        refine wpE_one (i := 13) (by kernel_rfl) rfl (fun K hK => ?_)
        go_simp
        refine hK _ _ (fun _ => r4) ?_
        clear hK K
        try simp only [Act.put]
        try simp only [List.setIfInBounds_toArray]
        refine wpE_one (i := 14) (by kernel_rfl) rfl (fun K hK => ?_)
        go_simp
        refine hK _ _ (fun _ => r4) ?_
        clear hK K
        try simp only [Act.put]
        try simp only [List.setIfInBounds_toArray]
        refine wpE_one (i := 15) (by kernel_rfl) rfl (fun K hK => ?_)
        go_simp
        refine hK _ _ (fun h => absurd rfl h) ?_
        clear hK K
        try simp only [Act.put]
        try simp only [List.setIfInBounds_toArray]
        refine wpE_done (by kernel_rfl) ?_ _
        go_wp2_with fail
        go_roundw
        case measure => simp [intOf]; omega
        case rel =>
          refine ⟨i + 1, .slice (some ⟨g7, 0, none⟩) (i + 1) c7, by omega, by go_num, ?_⟩
          have hT := hSc.out.box_stored 1 rfl 1 (.slice (some ⟨g7, 0, none⟩) (i + 1) c7)
          have hyl : yss.length = i := by rw [hys'.out, List.length_map, List.length_take]; omega
          have h1 := hT.perm (push_perm _ _ _ _ _)
          have h2 := Sep.list_push (e := 33) (One := intsR) (xs := yss) (x := Lib.compact (sortL xs)) (by rw [hvl'.out, hyl]) (by rw [hyl]; exact h1)
          have e9 : (xss.take (i + 1)).map normL = yss ++ [Lib.compact (sortL xs)] := by
            rw [hys'.out, List.take_add_one, List.getElem?_eq_getElem hlt, Option.toList, List.map_append, hxs9'.out]
            rfl
          rw [e9]
          exact h2.perm (List.Perm.swap _ _ _)
      · obtain rfl : i = xss.length := by omega
        rw [List.take_length] at hS
        have hS' := Lib.hid hS
        clear hS
        go_wp2_with fail
        rename_i K hK
        refine wp_label ?_
        apply hK
        clear hK
        have hlen := hlen'.out
        have hgood := (refused_zero hx'.out).2.2
        have hB : BSt w wr acts (xss.map normL) 0 B := by
          obtain ⟨vs, hvl, hO⟩ := Sep.list_open (hS'.out.perm (List.Perm.swap _ _ _))
          rw [List.length_map] at hvl hO
          refine ⟨.slice A2 acts.length c2, u, vs, by omega, ?_⟩
          rw [hlen] at hO
          exact hO.perm (bst_perm _ _ _ _)
        have hI : BInv acts (xss.map normL) 0 := by
          refine ⟨by rw [List.length_map]; exact hlen, norm_okay ?_, by omega, ?_, hp'.out⟩
          · intro l hl y hy
            obtain ⟨a1, h1, rfl⟩ := List.mem_iff_getElem.1 hl
            obtain ⟨a2, h2, rfl⟩ := List.mem_iff_getElem.1 hy
            exact hgood a1 h1 a2 h2
          · have := potB_le acts (xss.map normL)
            omega
        have hTe : breakP (acts.length + 1) acts (xss.map normL) 0 = T := by
          rw [hT'.out]
          unfold breakT
          rw [if_neg (by simpa using hx'.out), if_neg (by simpa using hlen)]
        refine wp_mono (again_pass (m := acts.length + 1) ⟨rfl, acts, xss.map normL, 0, B, _, _, _, _, _, _, _, _, _, _, ⟨rfl, rfl, rfl⟩, hB, hI, by have := potB_le acts (xss.map normL); omega, hTe⟩ hQ'.out) (Jumps.mono fun l a w ⟨m', e1, e2⟩ => ⟨m', e2⟩)
  · rintro m l a w' hJ
    have hl0 := hJ.1
    subst hl0
    exact wp_seq (wp_skip (again_pass hJ hQ'.out))
end Go.Proofs.YtioonfceamgpmaaGreatDoor
