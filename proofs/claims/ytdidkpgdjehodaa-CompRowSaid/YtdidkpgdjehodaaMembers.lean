/- The document's members, and Wipe, walked. -/
import Derived.Test.YtdidkpgdjehodaaRefs
namespace Go.Proofs.Ytdidkpgdjehodaa
open Go.RowKit
set_option linter.unusedVariables false

theorem mem_zero (rep : Nat → Nat) (x : Nat) : mem 0 rep x = [] := rfl
theorem mem_succ (n : Nat) (rep : Nat → Nat) (x : Nat) : mem (n + 1) rep x = mem n rep x ++ if rep n = x then [n] else [] := by
  unfold mem
  rw [List.range_succ, List.filter_append]
  congr 1
  by_cases h : rep n = x <;> simp [h]
theorem mem_len (n : Nat) (rep : Nat → Nat) (x : Nat) : (mem n rep x).length ≤ n := by
  have := List.length_filter_le (fun v => rep v == x) (List.range n)
  simpa [mem] using this
def repL (n : Nat) (rep : Nat → Nat) : List Int := (List.range n).map fun i => (rep i : Int)

theorem members_any {n : Nat} {rep : Nat → Nat} {w : World} {tv : Value} (x : Nat) (hn : n ≤ 1024) (h : IntsAt w tv (repL n rep)) :
    Calls Try.prog 27 #[tv, .int .i64 x] w fun e w' => ∃ v, e = .returned v ∧ Sep w w' [intsR v ((mem n rep x).map fun (v : Nat) => (v : Int))] := by
  obtain ⟨i0, hinf, hz0, hz1, hz2⟩ := info_parts info_int
  obtain ⟨A, c, rfl, _⟩ := h.shape
  have hlen : (repL n rep).length = n := by simp [repL]
  rw [hlen] at h ⊢
  have bn : (n : Int) ≤ 1024 := by omega
  have h' := Lib.hid h
  clear h
  go_enter Try.func27, Try.ntmps27
  go_wp2_with fail
  go_loopg [5, 6] n (fun g ov ii wr => ∃ i : Nat, i ≤ n ∧ Hid (g = n - i) ∧ ii = .int .i64 i ∧ Sep w wr [intsR ov ((mem i rep x).map fun (v : Nat) => (v : Int))])
  case atStart => exact ⟨0, Nat.zero_le _, rfl, rfl, intsR_nil (Sep.nil w)⟩
  case round =>
    obtain ⟨i, hi, hm, rfl, hT⟩ := hrel
    by_cases hlt : i < n
    case neg =>
      obtain rfl : i = n := by omega
      have hT' := Lib.hid hT
      clear hT
      go_wp2_with fail
      go_ret
      exact ⟨u5, rfl, hT'.out⟩
    obtain ⟨ad, c', e, hc⟩ := h'.out.all (k := i) (by rw [hlen]; exact hlt)
    rw [hlen] at e
    cases e
    have a0 := hc wr hT.below
    have e1 : (repL n rep)[i]'(by rw [hlen]; exact hlt) = (rep i : Int) := by simp [repL]
    rw [e1] at a0
    have b1 : (0 : Int) ≤ (i : Int) := by omega
    have b2 : (i : Int) < (n : Int) := by omega
    have hml := mem_len i rep x
    by_cases e : rep i = x
    · have b3 : ((rep i : Int) == (x : Int)) = true := by simp [e]
      have hS1 := hT.alloc (.cells #[.int .i64 i] 3)
      have hS1' := Lib.hid hS1
      clear hT hS1 hc e1
      go_wp2_with (first
        | (at_builtin; refine wpList_append_sep 0 rfl _ _ 29 rfl 3 i0 (.int .i64 0) 1 8 Try.underlying29 hinf hz0 hz1 hz2 rfl (by decide) hS1'.out _ _ _ rfl rfl ⟨wr.heap.size, 0, none⟩ 1 1 [.int .i64 i] rfl rfl (cell_one_new _ _ _) (by simp [Value.oneCell']) (by decide) (by simp only [List.length_map]; unfold maxLen; omega) (by simp only [List.length_map]; omega) ?_)
        | fail)
      intro g cap w2 hS2 hsz
      have hS3 : Sep w w2 [intsR (.slice (some ⟨g, 0, none⟩) ((mem i rep x).length + 1) cap) ((mem (i + 1) rep x).map fun (v : Nat) => (v : Int))] := by
        rw [mem_succ, if_pos e]
        simpa [intsR] using hS2
      have hS3' := Lib.hid hS3
      clear hS2 hS3 hS1' hsz
      go_wp2_with fail
      go_roundg (n - (i + 1))
      case measure => rw [hm.out]; omega
      case rel => exact ⟨i + 1, by omega, rfl, by go_num, by simpa using hS3'.out⟩
    · have b3 : ((rep i : Int) == (x : Int)) = false := by simp; omega
      have hS3 : Sep w wr [intsR u5 ((mem (i + 1) rep x).map fun (v : Nat) => (v : Int))] := by
        rw [mem_succ, if_neg e, List.append_nil]
        exact hT
      have hS3' := Lib.hid hS3
      clear hT hS3 hc e1
      go_wp2_with fail
      go_roundg (n - (i + 1))
      case measure => rw [hm.out]; omega
      case rel => exact ⟨i + 1, by omega, rfl, by go_num, hS3'.out⟩

/-- The rows of the document's Round, as far as the first k numbers. -/
noncomputable def roundTo (xss : List (List Int)) (k : Nat) : List (List Int) := ((List.range k).filter fun i => (partsRep xss i == i) && rpB xss i i).map fun i => (mem xss.length (partsRep xss) i).map fun (v : Nat) => (v : Int)
theorem roundTo_succ (xss : List (List Int)) (k : Nat) : roundTo xss (k + 1) = roundTo xss k ++ if (partsRep xss k == k) && rpB xss k k then [(mem xss.length (partsRep xss) k).map fun (v : Nat) => (v : Int)] else [] := by
  unfold roundTo
  rw [List.range_succ, List.filter_append, List.map_append]
  congr 1
  cases h : ((partsRep xss k == k) && rpB xss k k) <;> simp [h]
theorem roundTo_len (xss : List (List Int)) (k : Nat) : (roundTo xss k).length ≤ k := by
  have := List.length_filter_le (fun i => (partsRep xss i == i) && rpB xss i i) (List.range k)
  simpa [roundTo] using this

set_option maxHeartbeats 1000000 in
theorem refround_any {xss : List (List Int)} {w : World} {nv : Value} (hx : refused xss = 0) (hn : RowsAt w nv xss) :
    Calls Try.prog 20 #[nv] w fun e w' => ∃ v, e = .returned v ∧ Sep w w' [rowsR v (roundTo xss xss.length)] := by
  obtain ⟨hl, hrow, _⟩ := refused_zero hx
  obtain ⟨i1, hi1, hz10, hz11, hz12⟩ := info_parts info_ints
  obtain ⟨A, c, rfl, _⟩ := hn.shape
  have hpa := Lib.hid (parts_any hx hn)
  clear hx hn hrow
  have bn : (xss.length : Int) ≤ 1024 := by omega
  go_enter Try.func20, Try.ntmps20
  go_wp2_with (go_at_call 12; refine hpa.out.mono ?_; rintro e w1 ⟨tv, av, rfl, hS1⟩; (have hS1' := Lib.hid hS1); clear hS1)
  go_loopg [5, 6] xss.length (fun g ov ii wr => ∃ i : Nat, i ≤ xss.length ∧ Hid (g = xss.length - i) ∧ ii = .int .i64 i ∧ Sep w wr [rowsR ov (roundTo xss i), intsR tv (repL xss.length (partsRep xss)), allR av xss xss.length])
  case atStart => exact ⟨0, Nat.zero_le _, rfl, rfl, hS1'.out.list_nil _ _⟩
  case round =>
    obtain ⟨i, hi, hm, rfl, hT⟩ := hrel
    by_cases hlt : i < xss.length
    case neg =>
      obtain rfl : i = xss.length := by omega
      have hT' := Lib.hid hT
      clear hT
      go_wp2_with fail
      go_ret
      refine ⟨u5, rfl, Sep.drop 2 (Sep.sel [1, 2, 0] hT'.out (by decide) (by simp))⟩
    have hlen : (repL xss.length (partsRep xss)).length = xss.length := by simp [repL]
    have hts := hT.ints 1 rfl
    obtain ⟨ad, c', e, a0⟩ := hts.at_ (k := i) (by rw [hlen]; exact hlt)
    have e1 : (repL xss.length (partsRep xss))[i]'(by rw [hlen]; exact hlt) = (partsRep xss i : Int) := by simp [repL]
    rw [e1] at a0
    rw [hlen] at e
    obtain ⟨ad2, ca, adr, cr, e2, a1, hrowi⟩ := all_at (hT.boolRows 2 rfl) hlt
    have a2 := hrowi i hlt
    cases e
    cases e2
    have b1 : (0 : Int) ≤ (i : Int) := by omega
    have b2 : (i : Int) < (xss.length : Int) := by omega
    have hrl := roundTo_len xss i
    by_cases e : partsRep xss i = i
    case neg =>
      have b3 : ((partsRep xss i : Int) == (i : Int)) = false := by simp; omega
      have hS3 : roundTo xss (i + 1) = roundTo xss i := by
        rw [roundTo_succ]
        have : (partsRep xss i == i) = false := by simpa using e
        simp [this]
      have hS3' := Lib.hid hS3
      have hT' := Lib.hid hT
      clear hT hS3 hrowi hts e1
      go_wp2_with fail
      go_roundg (xss.length - (i + 1))
      case measure => rw [hm.out]; omega
      case rel => exact ⟨i + 1, by omega, rfl, by go_num, by rw [hS3'.out]; exact hT'.out⟩
    have b3 : ((partsRep xss i : Int) == (i : Int)) = true := by simp [e]
    cases hrp : rpB xss i i
    case false =>
      rw [hrp] at a2
      have hS3 : roundTo xss (i + 1) = roundTo xss i := by
        rw [roundTo_succ, hrp]
        simp
      have hS3' := Lib.hid hS3
      have hT' := Lib.hid hT
      clear hT hS3 hrowi hts e1
      go_wp2_with fail
      go_roundg (xss.length - (i + 1))
      case measure => rw [hm.out]; omega
      case rel => exact ⟨i + 1, by omega, rfl, by go_num, by rw [hS3'.out]; exact hT'.out⟩
    rw [hrp] at a2
    have hS3 : roundTo xss (i + 1) = roundTo xss i ++ [(mem xss.length (partsRep xss) i).map fun (v : Nat) => (v : Int)] := by
      rw [roundTo_succ, hrp, e]
      simp
    have hcall := Lib.hid (members_any i hl hts)
    obtain ⟨vs, hvl, hT1⟩ := Sep.list_open hT
    have hT1' := Lib.hid hT1
    have hS3' := Lib.hid hS3
    clear hT hT1 hS3 hrowi hts e1
    go_wp2_with (first
      | (go_at_call 27; refine hcall.out.mono ?_; rintro e w2 ⟨u, rfl, hS2⟩; obtain ⟨Au, cu, eu, _⟩ := (hS2.ints 0 rfl).shape; rw [List.length_map] at eu; subst eu; have hS4 := Lib.hid (Sep.alloc (hT1'.out.join hS2) (.cells #[.slice Au (mem xss.length (partsRep xss) i).length cu] 29)); clear hS2)
      | (at_builtin; refine wpList_append_sep 1 rfl _ _ 22 rfl 29 i1 (.slice none 0 0) 1 24 Try.underlying22 hi1 hz10 hz11 hz12 rfl (by decide) hS4.out _ _ _ rfl rfl ⟨w2.heap.size, 0, none⟩ 1 1 [.slice Au (mem xss.length (partsRep xss) i).length cu] rfl rfl (cell_one_new _ _ _) (by simp [Value.oneCell']) (by decide) (by unfold maxLen; omega) (by omega) ?_)
      | fail)
    intro g cap w4 hS5 hsz
    have hS6 : Sep w w4 [rowsR (.slice (some ⟨g, 0, none⟩) ((roundTo xss i).length + 1) cap) (roundTo xss (i + 1)), intsR (.slice (some ad) xss.length c') (repL xss.length (partsRep xss)), allR (.slice (some ad2) xss.length ca) xss xss.length] := by
      rw [hS3'.out]
      refine Sep.list_push (vs := vs) (u := .slice Au (mem xss.length (partsRep xss) i).length cu) hvl ?_
      exact hS5.perm ((List.Perm.swap _ _ _).trans (.cons _ List.perm_middle.symm))
    have hS6' := Lib.hid hS6
    clear hS5 hS6 hS4 hsz
    go_wp2_with fail
    go_roundg (xss.length - (i + 1))
    case measure => rw [hm.out]; omega
    case rel => exact ⟨i + 1, by omega, rfl, by go_num, hS6'.out⟩
end Go.Proofs.Ytdidkpgdjehodaa
