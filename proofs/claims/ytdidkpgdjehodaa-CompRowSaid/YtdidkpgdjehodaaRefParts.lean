/- The document's Parts, plain and walked. -/
import Derived.Test.YtdidkpgdjehodaaReach
namespace Go.Proofs.Ytdidkpgdjehodaa
open Go.RowKit
set_option linter.unusedVariables false

noncomputable def rpB (xss : List (List Int)) (i j : Nat) : Bool := @decide (RP xss i j) (Classical.propDecidable _)
theorem rpB_iff {xss : List (List Int)} {i j : Nat} : rpB xss i j = true ↔ RP xss i j := by unfold rpB; exact @decide_eq_true_iff _ (Classical.propDecidable _)
theorem rpB_eq {xss : List (List Int)} {i : Nat} {f : Nat → Bool} (h : ∀ j, f j = true ↔ RP xss i j) : f = rpB xss i := by
  funext j
  rw [Bool.eq_iff_iff, h j, rpB_iff]
noncomputable def both (xss : List (List Int)) (i k : Nat) : Bool := rpB xss i k && rpB xss k i
/-- The least number of i's component, as the document seeks it. -/
noncomputable def partsRep (xss : List (List Int)) (i : Nat) : Nat := ((List.range i).find? (both xss i)).getD i
theorem both_mut {xss : List (List Int)} {i k : Nat} (h : k ≠ i) : both xss i k = true ↔ Mut xss k i := by
  have key : ∀ {a b : Nat}, a ≠ b → (RP xss a b ↔ Tarjan.Reach (adjOf xss) a b) := by
    intro a b hab
    constructor
    · rintro ⟨u, hu, hr⟩; exact .step hu hr
    · intro hr
      cases hr with
      | refl => exact absurd rfl hab
      | step e h => exact ⟨_, e, h⟩
  simp only [both, Bool.and_eq_true, rpB_iff]
  rw [key h.symm, key h]
  exact ⟨fun ⟨a, b⟩ => ⟨b, a⟩, fun ⟨a, b⟩ => ⟨b, a⟩⟩
theorem Mut.rfl' {xss : List (List Int)} (i : Nat) : Mut xss i i := ⟨.refl _, .refl _⟩
theorem partsRep_some {xss : List (List Int)} {i k : Nat} (hk : k < i) (h1 : both xss i k = true) (h0 : ∀ j, j < k → both xss i j = false) : partsRep xss i = k := by
  unfold partsRep
  have : (List.range i).find? (both xss i) = some k := by
    rw [List.find?_range_eq_some]
    exact ⟨h1, List.mem_range.2 hk, fun j hj => by simp [h0 j hj]⟩
  rw [this]
  rfl
theorem partsRep_none {xss : List (List Int)} {i : Nat} (h0 : ∀ j, j < i → both xss i j = false) : partsRep xss i = i := by
  unfold partsRep
  have : (List.range i).find? (both xss i) = none := by
    rw [List.find?_eq_none]
    intro j hj
    simp [h0 j (List.mem_range.1 hj)]
  rw [this]
  rfl
theorem partsRep_isRep (xss : List (List Int)) : IsRep xss (partsRep xss) := by
  intro i hi
  by_cases hex : ∃ k, k < i ∧ both xss i k = true
  · obtain ⟨k, hk, hb, hmin⟩ : ∃ k, k < i ∧ both xss i k = true ∧ ∀ j, j < k → both xss i j = false := by
      obtain ⟨k, hk, hb⟩ := hex
      induction k using Nat.strongRecOn with
      | ind k ih =>
        by_cases h : ∃ j, j < k ∧ both xss i j = true
        · obtain ⟨j, hj, hbj⟩ := h
          exact ih j hj (by omega) hbj
        · exact ⟨k, hk, hb, fun j hj => by
            cases e : both xss i j with
            | false => rfl
            | true => exact absurd ⟨j, hj, e⟩ h⟩
    rw [partsRep_some hk hb hmin]
    have hm := (both_mut (by omega)).1 hb
    refine ⟨by omega, hm, fun u hu hmu => ?_⟩
    apply Classical.byContradiction
    intro hlt
    have h1 : both xss i u = true := (both_mut (by omega)).2 hmu
    rw [hmin u (by omega)] at h1
    cases h1
  · have h0 : ∀ j, j < i → both xss i j = false := fun j hj => by
      cases e : both xss i j with
      | false => rfl
      | true => exact absurd ⟨j, hj, e⟩ hex
    rw [partsRep_none h0]
    refine ⟨hi, Mut.rfl' i, fun u hu hmu => ?_⟩
    apply Classical.byContradiction
    intro hlt
    exact hex ⟨u, by omega, (both_mut (by omega)).2 hmu⟩

noncomputable def rowB (xss : List (List Int)) (i : Nat) : List Bool := (List.range xss.length).map (rpB xss i)
/-- What each of the first k reaches. -/
noncomputable def allR (av : Value) (xss : List (List Int)) (k : Nat) : Asn := Asn.list 33 boolsR av ((List.range k).map (rowB xss))
theorem Sep.boolRows {w0 w : World} {As : List Asn} (i : Nat) {v : Value} {xss : List (List Bool)} (h : Sep w0 w As) (hi : As[i]? = some (Asn.list 33 boolsR v xss)) : BoolRowsAt w v xss := by
  obtain ⟨F, h1, _⟩ := h.get i hi
  exact list_at (fun _ _ _ => boolsR_at) h1

theorem info_bools : (Try.prog.info? 33).map (fun i => (i.zero, i.size, i.bytes)) = some (some (.slice none 0 0), 1, 24) := by kernel_rfl

theorem all_at {xss : List (List Int)} {w : World} {av : Value} (h : BoolRowsAt w av ((List.range xss.length).map (rowB xss))) {i : Nat} (hi : i < xss.length) :
    ∃ ad c adr cr, av = .slice (some ad) xss.length c ∧ w.cell? (ad.add i) = some (.slice (some adr) xss.length cr) ∧ ∀ j, j < xss.length → w.cell? (adr.add j) = some (.bool (rpB xss i j)) := by
  obtain ⟨ad, c, u, e, h1, h2⟩ := h.at_ (k := i) (by simpa using hi)
  rw [List.length_map, List.length_range] at e
  have e2 : ((List.range xss.length).map (rowB xss))[i]'(by simpa using hi) = rowB xss i := by simp
  rw [e2] at h2
  have key : ∀ j, j < xss.length → ∃ adr cr, u = .slice (some adr) xss.length cr ∧ w.cell? (adr.add j) = some (.bool (rpB xss i j)) := by
    intro j hj
    obtain ⟨adr, cr, e3, h3⟩ := h2.at_ (k := j) (by simpa [rowB] using hj)
    refine ⟨adr, cr, by simpa [rowB] using e3, ?_⟩
    simpa [rowB] using h3
  obtain ⟨adr, cr, e3, _⟩ := key i hi
  subst e3
  refine ⟨ad, c, adr, cr, e, h1, fun j hj => ?_⟩
  obtain ⟨adr', cr', e4, h4⟩ := key j hj
  injection e4 with e5 e6 e7
  injection e5 with e5
  rw [e5]
  exact h4

set_option maxHeartbeats 1000000 in
theorem parts_any {xss : List (List Int)} {w : World} {nv : Value} (hx : refused xss = 0) (hn : RowsAt w nv xss) :
    Calls Try.prog 12 #[nv] w fun e w' => ∃ tv av, e = .returned (.tuple #[tv, av]) ∧ Sep w w' [intsR tv ((List.range xss.length).map fun i => (partsRep xss i : Int)), allR av xss xss.length] := by
  obtain ⟨hl, hrow, _⟩ := refused_zero hx
  obtain ⟨i0, hinf, hz0, hz1, hz2⟩ := info_parts info_int
  obtain ⟨i2, hi2, hz20, hz21, hz22⟩ := info_parts info_bools
  obtain ⟨A, c, rfl, _⟩ := hn.shape
  have hmk0 := fun W : World => run_make_n (P := Try.prog) 29 3 i0 (.int .i64 0) 8 Try.underlying29 hinf hz0 hz1 hz2 rfl .i64 .i64 xss.length (by omega) (by unfold maxLen; omega) W
  have hx' := Lib.hid hx
  have hn' := Lib.hid hn
  clear hx hn hrow
  go_enter Try.func12, Try.ntmps12
  go_wp2_with fail
  go_loopg [4, 5] xss.length (fun g av iv wr => ∃ k : Nat, k ≤ xss.length ∧ Hid (g = xss.length - k) ∧ iv = .int .i64 k ∧ Sep w wr [allR av xss k])
  case atStart => exact ⟨0, Nat.zero_le _, rfl, rfl, (Sep.nil w).list_nil _ _⟩
  case round =>
    obtain ⟨k, hk, hm, rfl, hT⟩ := hrel
    by_cases hlt : k < xss.length
    · obtain ⟨vs, hvl, hT1⟩ := hT.list_open
      simp only [List.length_map, List.length_range] at hvl
      have hcall := reach_any hx'.out (hn'.out.below hT.below) hlt
      have hT1' := Lib.hid hT1
      have b1 : (k : Int) < (xss.length : Int) := by omega
      have b2 : (0 : Int) ≤ (k : Int) := by omega
      have hcall' := Lib.hid hcall
      clear hT hT1 hcall
      go_wp2_with (first
        | (go_at_call 23; refine hcall'.out.mono ?_; rintro e w2 ⟨u, f, rfl, hS2, hf⟩; obtain rfl := rpB_eq hf; obtain ⟨Au, cu, eu, _⟩ := (hS2.bools 0 rfl).shape; rw [List.length_map, List.length_range] at eu; subst eu; have hS3 := Lib.hid (Sep.alloc (hT1'.out.join hS2) (.cells #[.slice Au xss.length cu] 33)); clear hS2 hf)
        | (at_builtin; refine wpList_append_sep 1 rfl _ _ 30 rfl 33 i2 (.slice none 0 0) 1 24 Try.underlying30 hi2 hz20 hz21 hz22 rfl (by decide) hS3.out _ _ _ rfl rfl ⟨w2.heap.size, 0, none⟩ 1 1 [.slice Au xss.length cu] rfl rfl (cell_one_new _ _ _) (by simp [Value.oneCell']) (by decide) (by simp only [List.length_map, List.length_range]; unfold maxLen; omega) (by simp only [List.length_map, List.length_range]; omega) ?_)
        | fail)
      intro g cap w4 hS4 hsz
      have hS5 : Sep w w4 [allR (.slice (some ⟨g, 0, none⟩) (k + 1) cap) xss (k + 1)] := by
        unfold allR
        rw [List.range_succ, List.map_append, List.map_cons, List.map_nil]
        refine Sep.list_push (vs := vs) (u := .slice Au xss.length cu) (by simp [hvl]) ?_
        rw [List.length_map, List.length_range]
        exact hS4.perm ((List.Perm.swap _ _ _).trans (.cons _ (List.perm_append_singleton _ _).symm))
      have hS5' := Lib.hid hS5
      clear hS4 hS5 hS3 hsz
      go_wp2_with fail
      go_roundg (xss.length - (k + 1))
      case measure => rw [hm.out]; omega
      case rel => exact ⟨k + 1, by omega, rfl, by go_num, hS5'.out⟩
    · obtain rfl : k = xss.length := by omega
      have hS1 := hT.made 3 (.int .i64 0) xss.length (by unfold maxLen; omega)
      have hS2 : Sep w (wr.alloc (.cells (madeCells #[.int .i64 0] xss.length) 3)) [arr wr.heap.size xss.length (fun x => if x < 0 then (partsRep xss x : Int) else 0), allR u4 xss xss.length] := by
        have e : (fun x => if x < 0 then (partsRep xss x : Int) else 0) = fun _ => 0 := by
          funext x
          rw [if_neg (by omega)]
        rw [e, ← zeros_arr]
        exact hS1
      have hS2' := Lib.hid hS2
      clear hT hS1 hS2
      go_wp2_with fail
      generalize wr.heap.size = gt at hS2' ⊢
      go_loopg [7] xss.length (fun g iv wr => ∃ i : Nat, i ≤ xss.length ∧ Hid (g = xss.length - i) ∧ iv = .int .i64 i ∧ Sep w wr [arr gt xss.length (fun x => if x < i then (partsRep xss x : Int) else 0), allR u4 xss xss.length])
      case atStart => exact ⟨0, Nat.zero_le _, rfl, rfl, hS2'.out⟩
      case round =>
        obtain ⟨i, hi, hm2, rfl, hT⟩ := hrel
        by_cases hlt : i < xss.length
        case neg =>
          obtain rfl : i = xss.length := by omega
          have hT' := Lib.hid hT
          clear hT
          go_wp2_with fail
          go_ret2
          refine ⟨.slice (some ⟨gt, 0, none⟩) xss.length xss.length, u4, rfl, ?_⟩
          have e : ∀ g, intsR (.slice (some ⟨g, 0, none⟩) xss.length xss.length) ((List.range xss.length).map fun i => (partsRep xss i : Int)) = arr g xss.length (fun x => if x < xss.length then (partsRep xss x : Int) else 0) := by
            intro g
            unfold intsR arr
            rw [List.length_map, List.length_range, List.map_map]
            congr 1
            apply List.map_congr_left
            intro v hv
            simp [List.mem_range.1 hv]
          rw [e]
          exact hT'.out
        have a0 := arr_at 0 hT rfl i hlt
        have a1 := hT.frozenAt 0 rfl i
        have hS3 := hT.stored 0 rfl i (.int .i64 i)
        simp only [List.set_cons_zero] at hS3
        rw [arr_set] at hS3
        have hS3' := Lib.hid hS3
        have b1 : (0 : Int) ≤ (i : Int) := by omega
        have b2 : (i : Int) < (xss.length : Int) := by omega
        have b3 : (xss.length : Int) ≤ 1024 := by omega
        clear hT hS3
        go_wp2_with fail
        go_loopg [8] i (fun g kv wr => ∃ k : Nat, k ≤ i ∧ Hid (g = i - k) ∧ kv = .int .i64 k ∧ (∀ j, j < k → both xss i j = false) ∧ Sep w wr [arr gt xss.length (Tarjan.upd (fun x => if x < i then (partsRep xss x : Int) else 0) i i), allR u4 xss xss.length])
        case atStart => exact ⟨0, Nat.zero_le _, rfl, rfl, fun j hj => by omega, hS3'.out⟩
        case round =>
          obtain ⟨k, hk, hm3, rfl, hno, hT⟩ := hrel
          have hfin : ∀ (r : Nat) (wq : World), partsRep xss i = r → Sep w wq [arr gt xss.length (Tarjan.upd (fun x => if x < i then (partsRep xss x : Int) else 0) i (r : Int)), allR u4 xss xss.length] → Sep w wq [arr gt xss.length (fun x => if x < i + 1 then (partsRep xss x : Int) else 0), allR u4 xss xss.length] := by
            intro r wq hr h
            have e : Tarjan.upd (fun x => if x < i then (partsRep xss x : Int) else 0) i (r : Int) = fun x => if x < i + 1 then (partsRep xss x : Int) else 0 := by
              funext x
              simp only [Tarjan.upd]
              by_cases e : x = i
              · subst e; simp [hr]
              · rw [if_neg e]
                by_cases h : x < i
                · rw [if_pos h, if_pos (by omega)]
                · rw [if_neg h, if_neg (by omega)]
            rw [← e]
            exact h
          have hfin' := Lib.hid hfin
          have hno' := Lib.hid hno
          clear hfin hno
          by_cases hlk : k < i
          case neg =>
            obtain rfl : k = i := by omega
            have hT' := Lib.hid hT
            clear hT
            go_wp2_with fail
            go_roundg (xss.length - (k + 1))
            case measure => rw [hm2.out]; omega
            case rel => exact ⟨k + 1, by omega, rfl, by go_num, hfin'.out k _ (partsRep_none hno'.out) hT'.out⟩
          have hkn : k < xss.length := by omega
          obtain ⟨ad, ca, adr, cr, e, a2, hrowi⟩ := all_at (hT.boolRows 1 rfl) hlt
          cases e
          obtain ⟨ad', ca', adr2, cr2, e, a3, hrowk⟩ := all_at (hT.boolRows 1 rfl) hkn
          cases e
          have a4 := hrowi k hkn
          have a5 := hrowk i hlt
          have c1 : (0 : Int) ≤ (k : Int) := by omega
          have c2 : (k : Int) < (xss.length : Int) := by omega
          have c3 : (k : Int) < (i : Int) := by omega
          have a6 := arr_at 0 hT rfl i hlt
          have a7 := hT.frozenAt 0 rfl i
          have hS4 := hT.stored 0 rfl i (.int .i64 k)
          simp only [List.set_cons_zero] at hS4
          rw [arr_set] at hS4
          have e : Tarjan.upd (Tarjan.upd (fun x => if x < i then (partsRep xss x : Int) else 0) i (i : Int)) i (k : Int) = Tarjan.upd (fun x => if x < i then (partsRep xss x : Int) else 0) i (k : Int) := by
            funext x
            simp only [Tarjan.upd]
            split <;> rfl
          rw [e] at hS4
          have hS4' := Lib.hid hS4
          have hT' := Lib.hid hT
          clear hT hS4 e hrowi hrowk
          cases e1 : rpB xss i k
          case false =>
            rw [e1] at a4
            go_wp2_with fail
            go_roundg (i - (k + 1))
            case measure => rw [hm3.out]; omega
            case rel =>
              refine ⟨k + 1, by omega, rfl, by go_num, fun j hj => ?_, hT'.out⟩
              by_cases e : j = k
              · subst e; simp [both, e1]
              · exact hno'.out j (by omega)
          rw [e1] at a4
          cases e2 : rpB xss k i
          case false =>
            rw [e2] at a5
            go_wp2_with fail
            go_roundg (i - (k + 1))
            case measure => rw [hm3.out]; omega
            case rel =>
              refine ⟨k + 1, by omega, rfl, by go_num, fun j hj => ?_, hT'.out⟩
              by_cases e : j = k
              · subst e; simp [both, e2]
              · exact hno'.out j (by omega)
          rw [e2] at a5
          go_wp2_with fail
          go_roundg (xss.length - (i + 1))
          case measure => rw [hm2.out]; omega
          case rel => exact ⟨i + 1, by omega, rfl, by go_num, hfin'.out k _ (partsRep_some hlk (by simp [both, e1, e2]) hno'.out) hS4'.out⟩
end Go.Proofs.Ytdidkpgdjehodaa
