/- RefParts, Members, RefRound, RefTemp, laid together. -/
import Derived.Test.YtioonfceamgpmaaGreatDoorJ27
import Derived.Test.YtioonfceamgpmaaGreatDoorJ25
import Derived.Test.YtioonfceamgpmaaGreatDoorJ19
import Derived.IntWalk
namespace Go.Proofs.YtioonfceamgpmaaGreatDoor
open Go.RowKit
set_option linter.unusedVariables false
noncomputable def rowB (xss : List (List Int)) (i : Nat) : List Bool := (List.range xss.length).map (rpB xss i)
/-- What each of the first k reaches. -/
noncomputable def allR (av : Value) (xss : List (List Int)) (k : Nat) : Asn := Asn.list 65 boolsR av ((List.range k).map (rowB xss))
theorem Sep.boolRows {w0 w : World} {As : List Asn} (i : Nat) {v : Value} {xss : List (List Bool)} (h : Sep w0 w As) (hi : As[i]? = some (Asn.list 65 boolsR v xss)) : BoolRowsAt w v xss := by
  obtain ⟨F, h1, _⟩ := h.get i hi
  exact list_at (fun _ _ _ => boolsR_at) h1

theorem info_bools : (Tryz.prog.info? 65).map (fun i => (i.zero, i.size, i.bytes)) = some (some (.slice none 0 0), 1, 24) := by kernel_rfl

theorem all_at {xss : List (List Int)} {w : World} {av : Value} (h : BoolRowsAt w av ((List.range xss.length).map (rowB xss))) {i : Nat} (hi : i < xss.length) :
    ∃ ad c adr cr, av = .slice (some ad) xss.length c ∧ w.cell? (ad.add i) = some (.slice (some adr) xss.length cr) ∧ ∀ j, j < xss.length → w.cell? (adr.add j) = some (.bool (rpB xss i j)) := by
  obtain ⟨ad, c, u, e, h1, h2⟩ := h.at_ (k := i) (by simpa using hi)
  rw [List.length_map, List.length_range] at e
  have e2 : ((List.range xss.length).map (rowB xss))[i]'(by simpa using hi) = rowB xss i := by simp
  rw [e2] at h2
  have key : ∀ j, j < xss.length → ∃ adr cr, u = .slice (some adr) xss.length cr ∧ w.cell? (adr.add j) = some (.bool (rpB xss i j)) := by
    intro j hj
    obtain ⟨adr, cr, e3, h3⟩ := h2.at_ (k := j) (by simpa [rowB] using hj)
    refine ⟨adr, cr, by simpa [rowB] using e3, ?_⟩
    simpa [rowB] using h3
  obtain ⟨adr, cr, e3, _⟩ := key i hi
  subst e3
  refine ⟨ad, c, adr, cr, e, h1, fun j hj => ?_⟩
  obtain ⟨adr', cr', e4, h4⟩ := key j hj
  injection e4 with e5 e6 e7
  injection e5 with e5
  rw [e5]
  exact h4

set_option maxHeartbeats 1000000 in
set_option maxRecDepth 100000 in
theorem parts_any {xss : List (List Int)} {w : World} {nv : Value} (hx : refused xss = 0) (hn : RowsAt w nv xss) :
    Calls Tryz.prog 44 #[nv] w fun e w' => ∃ tv av, e = .returned (.tuple #[tv, av]) ∧ Sep w w' [intsR tv ((List.range xss.length).map fun i => (partsRep xss i : Int)), allR av xss xss.length] := by
  obtain ⟨hl, hrow, _⟩ := refused_zero hx
  obtain ⟨i0, hinf, hz0, hz1, hz2⟩ := info_parts info_int
  obtain ⟨i2, hi2, hz20, hz21, hz22⟩ := info_parts info_bools
  obtain ⟨A, c, rfl, _⟩ := hn.shape
  have hmk0 := fun W : World => run_make_n (P := Tryz.prog) 33 3 i0 (.int .i64 0) 8 Tryz.underlying33 hinf hz0 hz1 hz2 rfl .i64 .i64 xss.length (by omega) (by unfold maxLen; omega) W
  have hx' := Lib.hid hx
  have hn' := Lib.hid hn
  clear hx hn hrow
  go_enter Tryz.func44, Tryz.ntmps44
  go_wp2_with fail
  go_loopg [4, 5] xss.length (fun g av iv wr => ∃ k : Nat, k ≤ xss.length ∧ Hid (g = xss.length - k) ∧ iv = .int .i64 k ∧ Sep w wr [allR av xss k])
  case atStart => exact ⟨0, Nat.zero_le _, rfl, rfl, (Sep.nil w).list_nil _ _⟩
  case round =>
    obtain ⟨k, hk, hm, rfl, hT⟩ := hrel
    by_cases hlt : k < xss.length
    · obtain ⟨vs, hvl, hT1⟩ := hT.list_open
      simp only [List.length_map, List.length_range] at hvl
      have hcall := reach_any hx'.out (hn'.out.below hT.below) hlt
      have hT1' := Lib.hid hT1
      have b1 : (k : Int) < (xss.length : Int) := by omega
      have b2 : (0 : Int) ≤ (k : Int) := by omega
      have hcall' := Lib.hid hcall
      clear hT hT1 hcall
      go_wp2_with (first
        | (go_at_call 62; refine hcall'.out.mono ?_; rintro e w2 ⟨u, f, rfl, hS2, hf⟩; obtain rfl := rpB_eq hf; obtain ⟨Au, cu, eu, _⟩ := (hS2.bools 0 rfl).shape; rw [List.length_map, List.length_range] at eu; subst eu; have hS3 := Lib.hid (Sep.alloc (hT1'.out.join hS2) (.cells #[.slice Au xss.length cu] 65)); clear hS2 hf)
        | (at_builtin; refine wpList_append_sep 1 rfl _ _ 71 rfl 65 i2 (.slice none 0 0) 1 24 Tryz.underlying71 hi2 hz20 hz21 hz22 rfl (by decide) hS3.out _ _ _ rfl rfl ⟨w2.heap.size, 0, none⟩ 1 1 [.slice Au xss.length cu] rfl rfl (cell_one_new _ _ _) (by simp [Value.oneCell']) (by decide) (by simp only [List.length_map, List.length_range]; unfold maxLen; omega) (by simp only [List.length_map, List.length_range]; omega) ?_)
        | fail)
      intro g cap w4 hS4 hsz
      have hS5 : Sep w w4 [allR (.slice (some ⟨g, 0, none⟩) (k + 1) cap) xss (k + 1)] := by
        unfold allR
        rw [List.range_succ, List.map_append, List.map_cons, List.map_nil]
        refine Sep.list_push (vs := vs) (u := .slice Au xss.length cu) (by simp [hvl]) ?_
        rw [List.length_map, List.length_range]
        exact hS4.perm ((List.Perm.swap _ _ _).trans (.cons _ (List.perm_append_singleton _ _).symm))
      have hS5' := Lib.hid hS5
      clear hS4 hS5 hS3 hsz
      go_wp2_with fail
      go_roundg (xss.length - (k + 1))
      case measure => rw [hm.out]; omega
      case rel => exact ⟨k + 1, by omega, rfl, by go_num, hS5'.out⟩
    · obtain rfl : k = xss.length := by omega
      have hS1 := hT.made 3 (.int .i64 0) xss.length (by unfold maxLen; omega)
      have hS2 : Sep w (wr.alloc (.cells (madeCells #[.int .i64 0] xss.length) 3)) [arr wr.heap.size xss.length (fun x => if x < 0 then (partsRep xss x : Int) else 0), allR u4 xss xss.length] := by
        have e : (fun x => if x < 0 then (partsRep xss x : Int) else 0) = fun _ => 0 := by
          funext x
          rw [if_neg (by omega)]
        rw [e, ← zeros_arr]
        exact hS1
      have hS2' := Lib.hid hS2
      clear hT hS1 hS2
      go_wp2_with fail
      generalize wr.heap.size = gt at hS2' ⊢
      go_loopg [7] xss.length (fun g iv wr => ∃ i : Nat, i ≤ xss.length ∧ Hid (g = xss.length - i) ∧ iv = .int .i64 i ∧ Sep w wr [arr gt xss.length (fun x => if x < i then (partsRep xss x : Int) else 0), allR u4 xss xss.length])
      case atStart => exact ⟨0, Nat.zero_le _, rfl, rfl, hS2'.out⟩
      case round =>
        obtain ⟨i, hi, hm2, rfl, hT⟩ := hrel
        by_cases hlt : i < xss.length
        case neg =>
          obtain rfl : i = xss.length := by omega
          have hT' := Lib.hid hT
          clear hT
          go_wp2_with fail
          go_ret2
          refine ⟨.slice (some ⟨gt, 0, none⟩) xss.length xss.length, u4, rfl, ?_⟩
          have e : ∀ g, intsR (.slice (some ⟨g, 0, none⟩) xss.length xss.length) ((List.range xss.length).map fun i => (partsRep xss i : Int)) = arr g xss.length (fun x => if x < xss.length then (partsRep xss x : Int) else 0) := by
            intro g
            unfold intsR arr
            rw [List.length_map, List.length_range, List.map_map]
            congr 1
            apply List.map_congr_left
            intro v hv
            simp [List.mem_range.1 hv]
          rw [e]
          exact hT'.out
        have a0 := arr_at 0 hT rfl i hlt
        have a1 := hT.frozenAt 0 rfl i
        have hS3 := hT.stored 0 rfl i (.int .i64 i)
        simp only [List.set_cons_zero] at hS3
        rw [arr_set] at hS3
        have hS3' := Lib.hid hS3
        have b1 : (0 : Int) ≤ (i : Int) := by omega
        have b2 : (i : Int) < (xss.length : Int) := by omega
        have b3 : (xss.length : Int) ≤ 1024 := by omega
        clear hT hS3
        go_wp2_with fail
        go_loopg [8] i (fun g kv wr => ∃ k : Nat, k ≤ i ∧ Hid (g = i - k) ∧ kv = .int .i64 k ∧ (∀ j, j < k → both xss i j = false) ∧ Sep w wr [arr gt xss.length (Tarjan.upd (fun x => if x < i then (partsRep xss x : Int) else 0) i i), allR u4 xss xss.length])
        case atStart => exact ⟨0, Nat.zero_le _, rfl, rfl, fun j hj => by omega, hS3'.out⟩
        case round =>
          obtain ⟨k, hk, hm3, rfl, hno, hT⟩ := hrel
          have hfin : ∀ (r : Nat) (wq : World), partsRep xss i = r → Sep w wq [arr gt xss.length (Tarjan.upd (fun x => if x < i then (partsRep xss x : Int) else 0) i (r : Int)), allR u4 xss xss.length] → Sep w wq [arr gt xss.length (fun x => if x < i + 1 then (partsRep xss x : Int) else 0), allR u4 xss xss.length] := by
            intro r wq hr h
            have e : Tarjan.upd (fun x => if x < i then (partsRep xss x : Int) else 0) i (r : Int) = fun x => if x < i + 1 then (partsRep xss x : Int) else 0 := by
              funext x
              simp only [Tarjan.upd]
              by_cases e : x = i
              · subst e; simp [hr]
              · rw [if_neg e]
                by_cases h : x < i
                · rw [if_pos h, if_pos (by omega)]
                · rw [if_neg h, if_neg (by omega)]
            rw [← e]
            exact h
          have hfin' := Lib.hid hfin
          have hno' := Lib.hid hno
          clear hfin hno
          by_cases hlk : k < i
          case neg =>
            obtain rfl : k = i := by omega
            have hT' := Lib.hid hT
            clear hT
            go_wp2_with fail
            go_roundg (xss.length - (k + 1))
            case measure => rw [hm2.out]; omega
            case rel => exact ⟨k + 1, by omega, rfl, by go_num, hfin'.out k _ (partsRep_none hno'.out) hT'.out⟩
          have hkn : k < xss.length := by omega
          obtain ⟨ad, ca, adr, cr, e, a2, hrowi⟩ := all_at (hT.boolRows 1 rfl) hlt
          cases e
          obtain ⟨ad', ca', adr2, cr2, e, a3, hrowk⟩ := all_at (hT.boolRows 1 rfl) hkn
          cases e
          have a4 := hrowi k hkn
          have a5 := hrowk i hlt
          have c1 : (0 : Int) ≤ (k : Int) := by omega
          have c2 : (k : Int) < (xss.length : Int) := by omega
          have c3 : (k : Int) < (i : Int) := by omega
          have a6 := arr_at 0 hT rfl i hlt
          have a7 := hT.frozenAt 0 rfl i
          have hS4 := hT.stored 0 rfl i (.int .i64 k)
          simp only [List.set_cons_zero] at hS4
          rw [arr_set] at hS4
          have e : Tarjan.upd (Tarjan.upd (fun x => if x < i then (partsRep xss x : Int) else 0) i (i : Int)) i (k : Int) = Tarjan.upd (fun x => if x < i then (partsRep xss x : Int) else 0) i (k : Int) := by
            funext x
            simp only [Tarjan.upd]
            split <;> rfl
          rw [e] at hS4
          have hS4' := Lib.hid hS4
          have hT' := Lib.hid hT
          clear hT hS4 e hrowi hrowk
          cases e1 : rpB xss i k
          case false =>
            rw [e1] at a4
            go_wp2_with fail
            go_roundg (i - (k + 1))
            case measure => rw [hm3.out]; omega
            case rel =>
              refine ⟨k + 1, by omega, rfl, by go_num, fun j hj => ?_, hT'.out⟩
              by_cases e : j = k
              · subst e; simp [both, e1]
              · exact hno'.out j (by omega)
          rw [e1] at a4
          cases e2 : rpB xss k i
          case false =>
            rw [e2] at a5
            go_wp2_with fail
            go_roundg (i - (k + 1))
            case measure => rw [hm3.out]; omega
            case rel =>
              refine ⟨k + 1, by omega, rfl, by go_num, fun j hj => ?_, hT'.out⟩
              by_cases e : j = k
              · subst e; simp [both, e2]
              · exact hno'.out j (by omega)
          rw [e2] at a5
          go_wp2_with fail
          go_roundg (xss.length - (i + 1))
          case measure => rw [hm2.out]; omega
          case rel => exact ⟨i + 1, by omega, rfl, by go_num, hfin'.out k _ (partsRep_some hlk (by simp [both, e1, e2]) hno'.out) hS4'.out⟩
end Go.Proofs.YtioonfceamgpmaaGreatDoor

namespace Go.Proofs.YtioonfceamgpmaaGreatDoor
open Go.RowKit
set_option linter.unusedVariables false
theorem members_any {n : Nat} {rep : Nat → Nat} {w : World} {tv : Value} (x : Nat) (hn : n ≤ 1024) (h : IntsAt w tv (repL n rep)) :
    Calls Tryz.prog 45 #[tv, .int .i64 x] w fun e w' => ∃ v, e = .returned v ∧ Sep w w' [intsR v ((mem n rep x).map fun (v : Nat) => (v : Int))] := by
  obtain ⟨i0, hinf, hz0, hz1, hz2⟩ := info_parts info_int
  obtain ⟨A, c, rfl, _⟩ := h.shape
  have hlen : (repL n rep).length = n := by simp [repL]
  rw [hlen] at h ⊢
  have bn : (n : Int) ≤ 1024 := by omega
  have h' := Lib.hid h
  clear h
  go_enter Tryz.func45, Tryz.ntmps45
  go_wp2_with fail
  go_loopg [5, 6] n (fun g ov ii wr => ∃ i : Nat, i ≤ n ∧ Hid (g = n - i) ∧ ii = .int .i64 i ∧ Sep w wr [intsR ov ((mem i rep x).map fun (v : Nat) => (v : Int))])
  case atStart => exact ⟨0, Nat.zero_le _, rfl, rfl, intsR_nil (Sep.nil w)⟩
  case round =>
    obtain ⟨i, hi, hm, rfl, hT⟩ := hrel
    by_cases hlt : i < n
    case neg =>
      obtain rfl : i = n := by omega
      have hT' := Lib.hid hT
      clear hT
      go_wp2_with fail
      go_ret
      exact ⟨u5, rfl, hT'.out⟩
    obtain ⟨ad, c', e, hc⟩ := h'.out.all (k := i) (by rw [hlen]; exact hlt)
    rw [hlen] at e
    cases e
    have a0 := hc wr hT.below
    have e1 : (repL n rep)[i]'(by rw [hlen]; exact hlt) = (rep i : Int) := by simp [repL]
    rw [e1] at a0
    have b1 : (0 : Int) ≤ (i : Int) := by omega
    have b2 : (i : Int) < (n : Int) := by omega
    have hml := mem_len i rep x
    by_cases e : rep i = x
    · have b3 : ((rep i : Int) == (x : Int)) = true := by simp [e]
      have hS1 := hT.alloc (.cells #[.int .i64 i] 3)
      have hS1' := Lib.hid hS1
      clear hT hS1 hc e1
      go_wp2_with (first
        | (at_builtin; refine wpList_append_sep 0 rfl _ _ 33 rfl 3 i0 (.int .i64 0) 1 8 Tryz.underlying33 hinf hz0 hz1 hz2 rfl (by decide) hS1'.out _ _ _ rfl rfl ⟨wr.heap.size, 0, none⟩ 1 1 [.int .i64 i] rfl rfl (cell_one_new _ _ _) (by simp [Value.oneCell']) (by decide) (by simp only [List.length_map]; unfold maxLen; omega) (by simp only [List.length_map]; omega) ?_)
        | fail)
      intro g cap w2 hS2 hsz
      have hS3 : Sep w w2 [intsR (.slice (some ⟨g, 0, none⟩) ((mem i rep x).length + 1) cap) ((mem (i + 1) rep x).map fun (v : Nat) => (v : Int))] := by
        rw [mem_succ, if_pos e]
        simpa [intsR] using hS2
      have hS3' := Lib.hid hS3
      clear hS2 hS3 hS1' hsz
      go_wp2_with fail
      go_roundg (n - (i + 1))
      case measure => rw [hm.out]; omega
      case rel => exact ⟨i + 1, by omega, rfl, by go_num, by simpa using hS3'.out⟩
    · have b3 : ((rep i : Int) == (x : Int)) = false := by simp; omega
      have hS3 : Sep w wr [intsR u5 ((mem (i + 1) rep x).map fun (v : Nat) => (v : Int))] := by
        rw [mem_succ, if_neg e, List.append_nil]
        exact hT
      have hS3' := Lib.hid hS3
      clear hT hS3 hc e1
      go_wp2_with fail
      go_roundg (n - (i + 1))
      case measure => rw [hm.out]; omega
      case rel => exact ⟨i + 1, by omega, rfl, by go_num, hS3'.out⟩

set_option maxHeartbeats 1000000 in
theorem refround_any {xss : List (List Int)} {w : World} {nv : Value} (hx : refused xss = 0) (hn : RowsAt w nv xss) :
    Calls Tryz.prog 25 #[nv] w fun e w' => ∃ v, e = .returned v ∧ Sep w w' [rowsR v (roundTo xss xss.length)] := by
  obtain ⟨hl, hrow, _⟩ := refused_zero hx
  obtain ⟨i1, hi1, hz10, hz11, hz12⟩ := info_parts info_ints
  obtain ⟨A, c, rfl, _⟩ := hn.shape
  have hpa := Lib.hid (parts_any hx hn)
  clear hx hn hrow
  have bn : (xss.length : Int) ≤ 1024 := by omega
  go_enter Tryz.func25, Tryz.ntmps25
  go_wp2_with (go_at_call 44; refine hpa.out.mono ?_; rintro e w1 ⟨tv, av, rfl, hS1⟩; (have hS1' := Lib.hid hS1); clear hS1)
  go_loopg [5, 6] xss.length (fun g ov ii wr => ∃ i : Nat, i ≤ xss.length ∧ Hid (g = xss.length - i) ∧ ii = .int .i64 i ∧ Sep w wr [rowsR ov (roundTo xss i), intsR tv (repL xss.length (partsRep xss)), allR av xss xss.length])
  case atStart => exact ⟨0, Nat.zero_le _, rfl, rfl, hS1'.out.list_nil _ _⟩
  case round =>
    obtain ⟨i, hi, hm, rfl, hT⟩ := hrel
    by_cases hlt : i < xss.length
    case neg =>
      obtain rfl : i = xss.length := by omega
      have hT' := Lib.hid hT
      clear hT
      go_wp2_with fail
      go_ret
      refine ⟨u5, rfl, Sep.drop 2 (Sep.sel [1, 2, 0] hT'.out (by decide) (by simp))⟩
    have hlen : (repL xss.length (partsRep xss)).length = xss.length := by simp [repL]
    have hts := hT.ints 1 rfl
    obtain ⟨ad, c', e, a0⟩ := hts.at_ (k := i) (by rw [hlen]; exact hlt)
    have e1 : (repL xss.length (partsRep xss))[i]'(by rw [hlen]; exact hlt) = (partsRep xss i : Int) := by simp [repL]
    rw [e1] at a0
    rw [hlen] at e
    obtain ⟨ad2, ca, adr, cr, e2, a1, hrowi⟩ := all_at (hT.boolRows 2 rfl) hlt
    have a2 := hrowi i hlt
    cases e
    cases e2
    have b1 : (0 : Int) ≤ (i : Int) := by omega
    have b2 : (i : Int) < (xss.length : Int) := by omega
    have hrl := roundTo_len xss i
    by_cases e : partsRep xss i = i
    case neg =>
      have b3 : ((partsRep xss i : Int) == (i : Int)) = false := by simp; omega
      have hS3 : roundTo xss (i + 1) = roundTo xss i := by
        rw [roundTo_succ]
        have : (partsRep xss i == i) = false := by simpa using e
        simp [this]
      have hS3' := Lib.hid hS3
      have hT' := Lib.hid hT
      clear hT hS3 hrowi hts e1
      go_wp2_with fail
      go_roundg (xss.length - (i + 1))
      case measure => rw [hm.out]; omega
      case rel => exact ⟨i + 1, by omega, rfl, by go_num, by rw [hS3'.out]; exact hT'.out⟩
    have b3 : ((partsRep xss i : Int) == (i : Int)) = true := by simp [e]
    cases hrp : rpB xss i i
    case false =>
      rw [hrp] at a2
      have hS3 : roundTo xss (i + 1) = roundTo xss i := by
        rw [roundTo_succ, hrp]
        simp
      have hS3' := Lib.hid hS3
      have hT' := Lib.hid hT
      clear hT hS3 hrowi hts e1
      go_wp2_with fail
      go_roundg (xss.length - (i + 1))
      case measure => rw [hm.out]; omega
      case rel => exact ⟨i + 1, by omega, rfl, by go_num, by rw [hS3'.out]; exact hT'.out⟩
    rw [hrp] at a2
    have hS3 : roundTo xss (i + 1) = roundTo xss i ++ [(mem xss.length (partsRep xss) i).map fun (v : Nat) => (v : Int)] := by
      rw [roundTo_succ, hrp, e]
      simp
    have hcall := Lib.hid (members_any i hl hts)
    obtain ⟨vs, hvl, hT1⟩ := Sep.list_open hT
    have hT1' := Lib.hid hT1
    have hS3' := Lib.hid hS3
    clear hT hT1 hS3 hrowi hts e1
    go_wp2_with (first
      | (go_at_call 45; refine hcall.out.mono ?_; rintro e w2 ⟨u, rfl, hS2⟩; obtain ⟨Au, cu, eu, _⟩ := (hS2.ints 0 rfl).shape; rw [List.length_map] at eu; subst eu; have hS4 := Lib.hid (Sep.alloc (hT1'.out.join hS2) (.cells #[.slice Au (mem xss.length (partsRep xss) i).length cu] 33)); clear hS2)
      | (at_builtin; refine wpList_append_sep 1 rfl _ _ 23 rfl 33 i1 (.slice none 0 0) 1 24 Tryz.underlying23 hi1 hz10 hz11 hz12 rfl (by decide) hS4.out _ _ _ rfl rfl ⟨w2.heap.size, 0, none⟩ 1 1 [.slice Au (mem xss.length (partsRep xss) i).length cu] rfl rfl (cell_one_new _ _ _) (by simp [Value.oneCell']) (by decide) (by unfold maxLen; omega) (by omega) ?_)
      | fail)
    intro g cap w4 hS5 hsz
    have hS6 : Sep w w4 [rowsR (.slice (some ⟨g, 0, none⟩) ((roundTo xss i).length + 1) cap) (roundTo xss (i + 1)), intsR (.slice (some ad) xss.length c') (repL xss.length (partsRep xss)), allR (.slice (some ad2) xss.length ca) xss xss.length] := by
      rw [hS3'.out]
      refine Sep.list_push (vs := vs) (u := .slice Au (mem xss.length (partsRep xss) i).length cu) hvl ?_
      exact hS5.perm ((List.Perm.swap _ _ _).trans (.cons _ List.perm_middle.symm))
    have hS6' := Lib.hid hS6
    clear hS5 hS6 hS4 hsz
    go_wp2_with fail
    go_roundg (xss.length - (i + 1))
    case measure => rw [hm.out]; omega
    case rel => exact ⟨i + 1, by omega, rfl, by go_num, hS6'.out⟩
end Go.Proofs.YtioonfceamgpmaaGreatDoor

namespace Go.Proofs.YtioonfceamgpmaaGreatDoor
open Go.RowKit
set_option linter.unusedVariables false
theorem refround_rows {xss : List (List Int)} {w : World} {nv : Value} (hx : refused xss = 0) (hn : RowsAt w nv xss) :
    Calls Tryz.prog 25 #[nv] w fun e w' => ∃ v, e = .returned v ∧ Sep w w' [rowsR v (roundRows xss)] := by
  rw [roundRows_ok hx]
  exact refround_any hx hn
end Go.Proofs.YtioonfceamgpmaaGreatDoor

namespace Go.Proofs.YtioonfceamgpmaaGreatDoor
open Go.RowKit
set_option linter.unusedVariables false

def digit (d : Nat) : ByteArray := ByteArray.extract ⟨#[48, 49, 50, 51, 52, 53, 54, 55, 56, 57]⟩ d (d + 1)

theorem decimal_one {k : Nat} (hk : k < 10) (w : World) : Calls Tryz.prog 47 #[.int .i64 k] w fun e w' => e = .returned (.string (digit k)) ∧ w' = w := by
  have b0 : (k : Int) % 10 = (k : Int) := by omega
  have b1 : (0 : Int) ≤ (k : Int) := by omega
  have b2 : (k : Int) < 10 := by omega
  have b3 : ¬ (9 : Int) < (k : Int) := by omega
  go_enter Tryz.func47, Tryz.ntmps47
  go_wp2_with fail
  go_ret
  exact ⟨rfl, rfl⟩
theorem digit_size (q : Nat) : (digit q).size ≤ 1 := by
  unfold digit
  rw [ByteArray.size_extract]
  omega
theorem decimal_two {k : Nat} (h10 : 10 ≤ k) (hk : k < 100) (w : World) : Calls Tryz.prog 47 #[.int .i64 k] w fun e w' => e = .returned (.string (digit (k / 10) ++ digit (k % 10))) ∧ w' = w := by
  have h1 := Lib.hid (decimal_one (k := k / 10) (by omega) w)
  obtain ⟨d, hd⟩ : ∃ d, d = k % 10 := ⟨_, rfl⟩
  obtain ⟨q, hq⟩ : ∃ q, q = k / 10 := ⟨_, rfl⟩
  rw [← hd, ← hq]
  rw [← hq] at h1
  have b0 : (k : Int) % 10 = (d : Int) := by omega
  have b4 : (k : Int) / 10 = (q : Int) := by omega
  have b5 : Int.tdiv (k : Int) 10 = (q : Int) := by rw [Int.tdiv_eq_ediv_of_nonneg (by omega)]; exact b4
  have b1 : (0 : Int) ≤ (d : Int) := by omega
  have b2 : (d : Int) < 10 := by omega
  have b3 : (9 : Int) < (k : Int) := by omega
  clear hd hq
  have b9 := digit_size q
  go_enter Tryz.func47, Tryz.ntmps47
  go_wp2_with (go_at_call 47; refine h1.out.mono ?_; rintro e w1 ⟨rfl, rfl⟩)
  all_goals first
    | (go_ret
       exact ⟨rfl, rfl⟩)
    | (exfalso
       omega)
def decS (k : Nat) : ByteArray := if k < 10 then digit k else digit (k / 10) ++ digit (k % 10)
theorem decimal_any {k : Nat} (hk : k < 100) (w : World) : Calls Tryz.prog 47 #[.int .i64 k] w fun e w' => e = .returned (.string (decS k)) ∧ w' = w := by
  by_cases h : k < 10
  · have e : decS k = digit k := by unfold decS; rw [if_pos h]
    rw [e]
    exact decimal_one h w
  · have e : decS k = digit (k / 10) ++ digit (k % 10) := by unfold decS; rw [if_neg h]
    rw [e]
    exact decimal_two (by omega) hk w
theorem decS_temp {k : Nat} (hk : k < 100) : (⟨#[46, 116, 115, 45]⟩ : ByteArray) ++ decS k = tempS k := by
  have h : ∀ k, k < 100 → ((⟨#[46, 116, 115, 45]⟩ : ByteArray) ++ decS k).data = (tempS k).data := by decide +kernel
  exact ByteArray.ext (h k hk)
theorem decS_size (k : Nat) : (decS k).size ≤ 2 := by
  unfold decS
  split
  · have := digit_size k; omega
  · rw [ByteArray.size_append]
    have := digit_size (k / 10)
    have := digit_size (k % 10)
    omega
theorem reftemp_any {k : Nat} (hk : k < 100) (w : World) : Calls Tryz.prog 27 #[.int .i64 k] w fun e w' => e = .returned (.string (tempS k)) ∧ w' = w := by
  have h1 := Lib.hid (decimal_any hk w)
  rw [← decS_temp hk]
  have b9 := decS_size k
  have b1 : (0 : Int) ≤ (k : Int) := by omega
  have b3 : (k : Int) ≤ 9999 := by omega
  go_enter Tryz.func27, Tryz.ntmps27
  go_wp2_with (go_at_call 47; refine h1.out.mono ?_; rintro e w1 ⟨rfl, rfl⟩)
  all_goals first
    | (go_ret
       exact ⟨rfl, rfl⟩)
    | (exfalso
       omega)
end Go.Proofs.YtioonfceamgpmaaGreatDoor
