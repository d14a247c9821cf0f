/- RefValid, RefKept, RefKept2, Shelf, Sorted, laid together. -/
import Derived.Test.YtioonfceamgpmaaGreatDoorJ22
import Derived.Test.YtioonfceamgpmaaGreatDoorJ19
import Derived.Shelf.SlLaysF
import Derived.Ground.SlsfProg
import Derived.Test.YtioonfceamgpmaaGreatDoorProg
import Derived.Test.YtioonfceamgpmaaGreatDoorJ15
import Derived.Shelf.SlSortCmp.NoneTotal
namespace Go.Proofs.YtioonfceamgpmaaGreatDoor
open Go.RowKit
set_option linter.unusedVariables false

theorem strs_read {w0 w : World} {v : Value} {L : List ByteArray} (h : 0 < L.length) (hS : Sep w0 w [strR v L]) : ∃ g c, v = .slice (some ⟨g, 0, none⟩) L.length c ∧ ∀ k (hk : k < L.length), w.cell? ⟨g, k, none⟩ = some (.string L[k]) := by
  unfold strR at hS
  obtain ⟨g, c, rfl, _⟩ := hS.sl_form 0 rfl h
  refine ⟨g, c, rfl, fun k hk => ?_⟩
  have := hS.cellAt 0 rfl k (by omega)
  rw [List.getElem?_map, List.getElem?_eq_getElem hk] at this
  exact this
theorem all_names {L : List ByteArray} {i : Nat} (hi : i < L.length) (h : ((L.take i).all fun b => nameB (bytesL b)) = true) (hq : nameB (bytesL L[i]) = true) : ((L.take (i + 1)).all fun b => nameB (bytesL b)) = true := by
  rw [List.take_add_one, List.getElem?_eq_getElem hi, List.all_append, h]
  simp [hq]

theorem mem_sum {l : List (List UInt8)} {x : List UInt8} (h : x ∈ l) : x.length + 1 ≤ (l.map fun s => s.length + 1).sum := by
  induction l with
  | nil => cases h
  | cons a l ih =>
    rw [List.map_cons, List.sum_cons]
    rcases List.mem_cons.1 h with rfl | h
    · omega
    · have := ih h
      omega
theorem part_size {p : ByteArray} {L : List ByteArray} (h : L.map bytesL = splitB p.data.toList) {i : Nat} (hi : i < L.length) : L[i].size ≤ p.size := by
  have h1 : bytesL L[i] ∈ splitB p.data.toList := by rw [← h]; exact List.mem_map_of_mem (List.getElem_mem hi)
  have h2 := mem_sum h1
  rw [← splitB_len] at h2
  have h3 : L[i].size = (bytesL L[i]).length := Lib.size_eq _
  have h4 : p.size = p.data.toList.length := Lib.size_eq p
  omega

set_option maxRecDepth 100000 in
set_option maxHeartbeats 2000000 in
theorem refvalid_any (p : ByteArray) (w : World) (hs : p.size ≤ 4611686018427387904) :
    Calls Tryz.prog 63 #[.string p] w fun e w' => e = .returned (.bool (validL p.data.toList)) ∧ Below w.heap.size w w' := by
  have hsz := Lib.size_eq p
  rw [← refV_valid]
  by_cases h100 : 100 < p.size
  case pos =>
    have b1 : (100 : Int) < (p.size : Int) := by omega
    have hr : refV p.data.toList = false := by
      have : ¬ p.data.toList.length ≤ 100 := by omega
      unfold refV
      simp only [this, decide_false, Bool.false_and]
    rw [hr]
    clear hsz
    go_enter Tryz.func63, Tryz.ntmps63
    go_wp2_with fail
    go_ret
    exact ⟨rfl, Below.refl _ _⟩
  have b1 : ¬ (100 : Int) < (p.size : Int) := by omega
  have hr : refV p.data.toList = (decide ((splitB p.data.toList).length ≤ 6) && (splitB p.data.toList).all nameB) := by
    have : p.data.toList.length ≤ 100 := by omega
    unfold refV
    simp only [this, decide_true, Bool.true_and]
  rw [hr]
  obtain ⟨R, hR⟩ : ∃ R, R = (decide ((splitB p.data.toList).length ≤ 6) && (splitB p.data.toList).all nameB) := ⟨_, rfl⟩
  rw [← hR]
  have hR' := Lib.hid hR
  have hsp := Lib.hid (refsplit_any p w (by omega))
  clear hsz hr hR
  go_enter Tryz.func63, Tryz.ntmps63
  go_wp2_with (go_at_call 64; refine hsp.out.mono ?_; rintro e w1 ⟨v, L, rfl, hL, hS⟩; have hL' := Lib.hid hL; clear hL; obtain ⟨g, c, rfl, hc⟩ := strs_read (by have h := congrArg List.length hL'.out; rw [List.length_map] at h; rw [h]; exact List.length_pos_iff.2 (splitB_ne _)) hS; have hc' := Lib.hid hc; have hb := Lib.hid hS.below; clear hS hc)
  · have h6 : (6 : Int) < (L.length : Int) := by assumption
    have hf : R = false := by
      have h1 := congrArg List.length hL'.out
      rw [List.length_map] at h1
      have h2 : ¬ (splitB p.data.toList).length ≤ 6 := by omega
      rw [hR'.out]
      simp only [h2, decide_false, Bool.false_and]
    subst hf
    go_ret
    exact ⟨rfl, hb.out⟩
  · have h6 : (L.length : Int) ≤ 6 := by assumption
    have hRL : Hid (R = L.all fun b => nameB (bytesL b)) := by
      have h1 := congrArg List.length hL'.out
      rw [List.length_map] at h1
      have h2 : (splitB p.data.toList).length ≤ 6 := by omega
      show _ = _
      rw [hR'.out, ← hL'.out, List.all_map]
      rw [← hL'.out] at h2
      simp only [h2, decide_true, Bool.true_and]
      rfl
    have hps := Lib.hid (fun i (hi : i < L.length) => Nat.le_trans (part_size hL'.out hi) (show p.size ≤ 4611686018427387904 by omega))
    clear hR' hsp
    go_loopg [4] L.length (fun gk ii wr => ∃ i : Nat, i ≤ L.length ∧ Hid (gk = L.length - i) ∧ ii = .int .i64 i ∧ wr = w1 ∧ Hid (((L.take i).all fun b => nameB (bytesL b)) = true))
    case atStart => exact ⟨0, by omega, rfl, rfl, rfl, rfl⟩
    case round =>
      obtain ⟨i, hi, hm, rfl, rfl, hal⟩ := hrel
      by_cases hlt : i < L.length
      case pos =>
        have c1 : (0 : Int) ≤ (i : Int) := by omega
        have c2 : (i : Int) < (L.length : Int) := by omega
        have d0 := hc'.out i hlt
        have hname := Lib.hid (refname_any L[i] wr (hps.out i hlt))
        have hn2 : L[i].data.toList = bytesL L[i] := rfl
        rw [hn2] at hname
        cases hq : nameB (bytesL L[i]) with
        | true =>
          have hal2 := Lib.hid (all_names hlt hal.out hq)
          rw [hq] at hname
          clear hq hn2 hal
          go_wp2_with (go_at_call 89; refine hname.out.mono ?_; rintro e w3 ⟨rfl, rfl⟩)
          go_roundg (L.length - (i + 1))
          case measure => rw [hm.out]; omega
          case rel => exact ⟨i + 1, by omega, rfl, by go_num, rfl, hal2⟩
        | false =>
          have hf : R = false := by
            rw [hRL.out]
            cases h : L.all fun b => nameB (bytesL b) with
            | false => rfl
            | true => rw [List.all_eq_true.1 h _ (List.getElem_mem hlt)] at hq; cases hq
          subst hf
          rw [hq] at hname
          clear hq hn2 hal hRL
          go_wp2_with (go_at_call 89; refine hname.out.mono ?_; rintro e w3 ⟨rfl, rfl⟩)
          go_ret
          exact ⟨rfl, hb.out⟩
      case neg =>
        have hf : R = true := by
          have h := hal.out
          rw [List.take_of_length_le (by omega)] at h
          rw [hRL.out]
          exact h
        subst hf
        have c2 : ¬ (i : Int) < (L.length : Int) := by omega
        clear hal hRL
        go_wp2_with fail
        go_ret
        exact ⟨rfl, hb.out⟩
end Go.Proofs.YtioonfceamgpmaaGreatDoor

namespace Go.Proofs.YtioonfceamgpmaaGreatDoor
open Go.RowKit
set_option linter.unusedVariables false

theorem valid_size {p : ByteArray} (h : validL p.data.toList = true) : p.size ≤ 100 := by
  rw [← refV_valid] at h
  unfold refV at h
  rw [Bool.and_eq_true, decide_eq_true_eq] at h
  have := Lib.size_eq p
  omega
def namesL (l : List UInt8) : List (List UInt8) := if validL l = true then splitB l else []

set_option maxRecDepth 100000 in
theorem refnames_any (p : ByteArray) (w : World) (hs : p.size ≤ 4611686018427387904) :
    Calls Tryz.prog 46 #[.string p] w fun e w' => ∃ v L, e = .returned v ∧ L.map bytesL = namesL p.data.toList ∧ Sep w w' [strR v L] := by
  have hv := Lib.hid (refvalid_any p w hs)
  cases hq : validL p.data.toList with
  | false =>
    have hn : namesL p.data.toList = [] := by unfold namesL; rw [hq]; rfl
    rw [hn]
    rw [hq] at hv
    clear hq hn
    go_enter Tryz.func46, Tryz.ntmps46
    go_wp2_with (go_at_call 63; refine hv.out.mono ?_; rintro e w1 ⟨rfl, hb⟩; have hb' := Lib.hid hb; clear hb)
    go_ret
    exact ⟨_, [], rfl, rfl, ((Sep.nil w).pure hb'.out).sl_nil _ _⟩
  | true =>
    have hn : namesL p.data.toList = splitB p.data.toList := by unfold namesL; rw [if_pos hq]
    have hp := valid_size hq
    have hsp := Lib.hid (fun W => refsplit_any p W hp)
    rw [hn]
    rw [hq] at hv
    clear hq hn
    go_enter Tryz.func46, Tryz.ntmps46
    go_wp2_with (first
      | (go_at_call 63; refine hv.out.mono ?_; rintro e w1 ⟨rfl, hb⟩; have hb' := Lib.hid hb; clear hb)
      | (go_at_call 64; refine (hsp.out _).mono ?_; rintro e w2 ⟨v, L, rfl, hL, hS⟩; have hL' := Lib.hid hL; have hS' := Lib.hid (((Sep.nil w).pure hb'.out).join hS); clear hL hS))
    go_ret
    exact ⟨_, L, rfl, hL'.out, hS'.out⟩
end Go.Proofs.YtioonfceamgpmaaGreatDoor

namespace Go.Proofs.YtioonfceamgpmaaGreatDoor
open Go.RowKit
set_option linter.unusedVariables false

theorem kept_names (l : List UInt8) : keptL l = (namesL l).any tsB := by
  unfold keptL namesL
  cases validL l <;> simp
theorem ts_long {b : ByteArray} (h : tsB (bytesL b) = true) : 3 ≤ b.size ∧ ((b.extract 0 3).toList == [46, 116, 115]) = true := by
  unfold tsB at h
  have h1 := List.isPrefixOf_iff_prefix.1 h
  obtain ⟨t, ht⟩ := h1
  have hs : b.size = (bytesL b).length := Lib.size_eq b
  rw [← ht] at hs
  refine ⟨by rw [hs]; simp, ?_⟩
  have e : (b.extract 0 3).toList = (bytesL b).take 3 := by
    rw [Lib.toList_data, Lib.extract_data]
    rfl
  rw [e, ← ht]
  rfl
theorem ts_short {b : ByteArray} (h : tsB (bytesL b) = false) : ((b.extract 0 3).toList == [46, 116, 115]) = false := by
  cases h2 : (b.extract 0 3).toList == [46, 116, 115] with
  | false => rfl
  | true =>
    have e : (b.extract 0 3).toList = (bytesL b).take 3 := by
      rw [Lib.toList_data, Lib.extract_data]
      rfl
    have h3 := beq_iff_eq.1 h2
    rw [e] at h3
    have : tsB (bytesL b) = true := List.isPrefixOf_iff_prefix.2 (by rw [← h3]; exact List.take_prefix _ _)
    rw [this] at h
    cases h

set_option maxRecDepth 100000 in
set_option maxHeartbeats 2000000 in
theorem refkept_any (p : ByteArray) (w : World) (hs : p.size ≤ 4611686018427387904) :
    Calls Tryz.prog 26 #[.string p] w fun e w' => e = .returned (.bool (keptL p.data.toList)) ∧ Below w.heap.size w w' := by
  have hn := Lib.hid (refnames_any p w hs)
  rw [kept_names]
  obtain ⟨R, hR⟩ : ∃ R, R = (namesL p.data.toList).any tsB := ⟨_, rfl⟩
  rw [← hR]
  have hR' := Lib.hid hR
  clear hR
  go_enter Tryz.func26, Tryz.ntmps26
  go_wp2_with (go_at_call 46; refine hn.out.mono ?_; rintro e w1 ⟨v, L, rfl, hL, hS⟩; have hL' := Lib.hid hL; clear hL; obtain ⟨A, c, rfl, hmx⟩ := (hS.rd 0 rfl).shape; have hb := Lib.hid hS.below; have hS' := Lib.hid hS; clear hS)
  have hRL : Hid (R = L.any fun b => tsB (bytesL b)) := by
    show _ = _
    rw [hR'.out, ← hL'.out, List.any_map]
    rfl
  clear hR' hn hL'
  unfold maxLen at hmx
  have hmi : (L.length : Int) ≤ 9223372036854775807 := by omega
  go_loopg [4] L.length (fun gk ii wr => ∃ i : Nat, i ≤ L.length ∧ Hid (gk = L.length - i) ∧ ii = .int .i64 i ∧ wr = w1 ∧ Hid (((L.take i).any fun b => tsB (bytesL b)) = false))
  case atStart => exact ⟨0, by omega, rfl, rfl, rfl, rfl⟩
  case round =>
    obtain ⟨i, hi, hm, rfl, rfl, hal⟩ := hrel
    by_cases hlt : i < L.length
    case pos =>
      have c1 : (0 : Int) ≤ (i : Int) := by omega
      have c2 : (i : Int) < (L.length : Int) := by omega
      obtain ⟨g, c', e, hc⟩ := strs_read (by omega) hS'.out
      cases e
      have d0 := hc i hlt
      clear hc
      cases hq : tsB (bytesL L[i]) with
      | true =>
        obtain ⟨q1, q2⟩ := ts_long hq
        have hf : R = true := by
          rw [hRL.out]
          exact List.any_eq_true.2 ⟨_, List.getElem_mem hlt, hq⟩
        subst hf
        have q3 : (3 : Int) ≤ (L[i].size : Int) := by omega
        clear hq hal hRL
        go_wp2_with fail
        go_ret
        exact ⟨rfl, hb.out⟩
      | false =>
        have q2 := ts_short hq
        have hal2 : Hid (((L.take (i + 1)).any fun b => tsB (bytesL b)) = false) := by
          show _ = _
          rw [List.take_add_one, List.getElem?_eq_getElem hlt, List.any_append, hal.out]
          simp [hq]
        clear hq hal
        by_cases q1 : 3 ≤ L[i].size
        · have q3 : (3 : Int) ≤ (L[i].size : Int) := Int.ofNat_le.2 q1
          go_wp2_with fail
          go_roundg (L.length - (i + 1))
          case measure => rw [hm.out]; omega
          case rel => exact ⟨i + 1, by omega, rfl, by go_num, rfl, hal2⟩
        · have q3 : ¬ (3 : Int) ≤ (L[i].size : Int) := fun h => q1 (Int.ofNat_le.1 h)
          go_wp2_with fail
          go_roundg (L.length - (i + 1))
          case measure => rw [hm.out]; omega
          case rel => exact ⟨i + 1, by omega, rfl, by go_num, rfl, hal2⟩
    case neg =>
      have hf : R = false := by
        have h := hal.out
        rw [List.take_of_length_le (by omega)] at h
        rw [hRL.out]
        exact h
      subst hf
      have c2 : ¬ (i : Int) < (L.length : Int) := by omega
      clear hal hRL
      go_wp2_with fail
      go_ret
      exact ⟨rfl, hb.out⟩
end Go.Proofs.YtioonfceamgpmaaGreatDoor

namespace Go.Proofs
open Go.Shelf
def Tryz.sortRows_ren : Go.Shelf.Ren := ⟨fun | 6 => 36 | 15 => 55 | 14 => 57 | 28 => 75 | 29 => 76 | 20 => 77 | 21 => 78 | 22 => 79 | 23 => 80 | 24 => 81 | 25 => 82 | 26 => 83 | 27 => 84 | 46 => 96 | 47 => 91 | 48 => 92 | 49 => 97 | 50 => 98 | 57 => 102 | n => n, fun | 22 => 23 | 24 => 33 | 25 => 69 | 3 => 3 | 39 => 91 | 0 => 0 | 53 => 113 | 55 => 115 | 4 => 4 | 46 => 105 | 45 => 104 | 50 => 110 | 5 => 5 | 9 => 9 | 66 => 123 | 70 => 101 | 76 => 131 | 77 => 132 | n => n, fun | n => n⟩
theorem Tryz.sortRows : Go.Proofs.SlLaysF.n6 Tryz.prog Tryz.sortRows_ren := {
  mixed := by kernel_rfl
  f6 := ⟨Tryz.f36.name, by decide, Tryz.func36.trans (congrArg some (by kernel_rfl))⟩
  f14 := ⟨Tryz.f57.name, by decide, Tryz.func57.trans (congrArg some (by kernel_rfl))⟩
  f15 := Tryz.func55.trans (congrArg some (by kernel_rfl))
  f20 := ⟨Tryz.f77.name, by decide, Tryz.func77.trans (congrArg some (by kernel_rfl))⟩
  f21 := ⟨Tryz.f78.name, by decide, Tryz.func78.trans (congrArg some (by kernel_rfl))⟩
  f22 := ⟨Tryz.f79.name, by decide, Tryz.func79.trans (congrArg some (by kernel_rfl))⟩
  f23 := ⟨Tryz.f80.name, by decide, Tryz.func80.trans (congrArg some (by kernel_rfl))⟩
  f24 := ⟨Tryz.f81.name, by decide, Tryz.func81.trans (congrArg some (by kernel_rfl))⟩
  f25 := ⟨Tryz.f82.name, by decide, Tryz.func82.trans (congrArg some (by kernel_rfl))⟩
  f26 := ⟨Tryz.f83.name, by decide, Tryz.func83.trans (congrArg some (by kernel_rfl))⟩
  f27 := ⟨Tryz.f84.name, by decide, Tryz.func84.trans (congrArg some (by kernel_rfl))⟩
  f28 := Tryz.func75.trans (congrArg some (by kernel_rfl))
  f29 := Tryz.func76.trans (congrArg some (by kernel_rfl))
  f46 := ⟨Tryz.f96.name, by decide, Tryz.func96.trans (congrArg some (by kernel_rfl))⟩
  f47 := Tryz.func91.trans (congrArg some (by kernel_rfl))
  f48 := Tryz.func92.trans (congrArg some (by kernel_rfl))
  f49 := ⟨Tryz.f97.name, by decide, Tryz.func97.trans (congrArg some (by kernel_rfl))⟩
  f50 := ⟨Tryz.f98.name, by decide, Tryz.func98.trans (congrArg some (by kernel_rfl))⟩
  f57 := ⟨Tryz.f102.name, by decide, Tryz.func102.trans (congrArg some (by kernel_rfl))⟩
  t0 := Tryz.underlying0
  a0 := Tryz.isAgg0
  z0 := Tryz.sizeOf0
  v0 := Tryz.zeroValue0
  t3 := Tryz.underlying3
  a3 := Tryz.isAgg3
  z3 := Tryz.sizeOf3
  v3 := Tryz.zeroValue3
  t4 := Tryz.underlying4
  a4 := Tryz.isAgg4
  z4 := Tryz.sizeOf4
  v4 := Tryz.zeroValue4
  t5 := Tryz.underlying5
  a5 := Tryz.isAgg5
  z5 := Tryz.sizeOf5
  v5 := Tryz.zeroValue5
  t9 := Tryz.underlying9
  a9 := Tryz.isAgg9
  z9 := Tryz.sizeOf9
  v9 := Tryz.zeroValue9
  t22 := Tryz.underlying23
  a22 := Tryz.isAgg23
  z22 := Tryz.sizeOf23
  v22 := Tryz.zeroValue23
  a24 := Tryz.isAgg33
  z24 := Tryz.sizeOf33
  t25 := Tryz.underlying69
  a25 := Tryz.isAgg69
  z25 := Tryz.sizeOf69
  v25 := Tryz.zeroValue69
  t39 := Tryz.underlying91
  a39 := Tryz.isAgg91
  z39 := Tryz.sizeOf91
  v39 := Tryz.zeroValue91
  t45 := Tryz.underlying104
  a45 := Tryz.isAgg104
  z45 := Tryz.sizeOf104
  v45 := Tryz.zeroValue104
  t46 := Tryz.underlying105
  a46 := Tryz.isAgg105
  z46 := Tryz.sizeOf105
  v46 := Tryz.zeroValue105
  t50 := Tryz.underlying110
  a50 := Tryz.isAgg110
  z50 := Tryz.sizeOf110
  v50 := Tryz.zeroValue110
  t53 := Tryz.underlying113
  a53 := Tryz.isAgg113
  z53 := Tryz.sizeOf113
  v53 := Tryz.zeroValue113
  t55 := Tryz.underlying115
  a55 := Tryz.isAgg115
  z55 := Tryz.sizeOf115
  v55 := Tryz.zeroValue115
  t66 := Tryz.underlying123
  a66 := Tryz.isAgg123
  z66 := Tryz.sizeOf123
  v66 := Tryz.zeroValue123
  t70 := Tryz.underlying101
  a70 := Tryz.isAgg101
  z70 := Tryz.sizeOf101
  v70 := Tryz.zeroValue101
  t76 := Tryz.underlying131
  a76 := Tryz.isAgg131
  z76 := Tryz.sizeOf131
  v76 := Tryz.zeroValue131
  t77 := Tryz.underlying132
  a77 := Tryz.isAgg132
  z77 := Tryz.sizeOf132
  v77 := Tryz.zeroValue132 }
end Go.Proofs

namespace Go.Proofs.YtioonfceamgpmaaGreatDoor
open Go.RowKit
set_option linter.unusedVariables false

theorem heap_sorted {α : Type} [Inhabited α] (enc : α → Value) (w : World) (g n : Nat) (d : Array α) (os : Array Obj) (b : Nat) (hb : b < w.heap.size) :
    (Go.Proofs.sortWorld enc w g 0 n d os).heap[b]? = if g = b then w.heap[b]?.map (Go.Sort.onCells (Go.Sort.putCells enc 0 d)) else w.heap[b]? := by
  unfold Go.Proofs.sortWorld Go.Sort.grow Go.Sort.putRow Go.Sort.mapBlock Go.Sort.ahead
  simp only
  rw [Array.getElem?_append_left (by simpa using hb), Array.getElem?_modify]

/-- A slice of one-cell elements, sorted in place. -/
theorem Sep.sorted {α : Type} [Inhabited α] (enc : α → Value) {w0 w : World} {As : List Asn} {e : TypeId} {g m cap : Nat} {cs : List Value} (k : Nat) (h : Sep w0 w As)
    (hi : As[k]? = some (.sl e 1 (.slice (some ⟨g, 0, none⟩) m cap) m cs)) (n : Nat) (d : Array α) (hd : d.size = m) (os : Array Obj) :
    Sep w0 (Go.Proofs.sortWorld enc w g 0 n d os) (As.set k (.sl e 1 (.slice (some ⟨g, 0, none⟩) m cap) m (d.toList.map enc))) := by
  refine h.step k hi fun F ⟨ho, hF⟩ _ => ⟨F, ⟨⟨by simp [hd], ?_⟩, hF⟩, fun b hb => .inl hb, ?_⟩
  · rcases ho.2 with ⟨h', _⟩ | ⟨g', cap', cur, h', hb, hg, hc, hm, hs, ht⟩
    · simp at h'
    · simp only [Value.slice.injEq, Option.some.injEq, Addr.mk.injEq, and_true, true_and] at h'
      obtain ⟨rfl, rfl⟩ := h'
      refine .inr ⟨g, cap, Go.Sort.putCells enc 0 d cur, rfl, hb, ?_, hc, hm, by simpa [Go.Sort.putCells] using hs, ?_⟩
      · rw [heap_sorted enc w g n d os g (lt_of_heap hg), if_pos rfl, hg]
        rfl
      · apply List.ext_getElem?
        intro i
        by_cases hi : i < m
        · have hc2 : i < cur.size := by omega
          simp [Go.Sort.putCells, hd, hi, hc2]
        · rw [List.getElem?_eq_none (by simp; omega), List.getElem?_eq_none (by simp; omega)]
  · refine ⟨rfl, rfl, rfl, by simp [Go.Proofs.sortWorld, Go.Sort.grow, Go.Sort.putRow, Go.Sort.mapBlock, Go.Sort.ahead], fun b hb hn => ?_⟩
    rw [heap_sorted enc w g n d os b hb, if_neg]
    intro e
    subst e
    exact hn (by rw [hF]; simp [Value.ownBlock])

/-- Parts of the call's own, one for each number of a list. -/
def partsOf (enc : Nat → Value) (row : Nat → List Int) (L : List Nat) : List Asn := L.map fun i => intsR (enc i) (row i)
theorem partsOf_at {enc : Nat → Value} {row : Nat → List Int} {L : List Nat} {x : Nat} (h : x ∈ L) : ∃ k : Nat, (partsOf enc row L)[k]? = some (intsR (enc x) (row x)) := by
  obtain ⟨k, hk⟩ := List.mem_iff_getElem?.1 h
  exact ⟨k, by simp [partsOf, hk]⟩

/-- What Round's sort leaves. -/
theorem sort_any {w0 w : World} {ov : Value} {L : List Nat} {enc : Nat → Value} {row : Nat → List Int} {R : List Asn}
    (hS : Sep w0 w (.sl 33 1 ov L.length (L.map enc) :: (partsOf enc row L ++ R))) (hrow : ∀ i, i ∈ L → ∃ l, row i = (i : Int) :: l) (hb : ∀ i, i ∈ L → i ≤ 1024) (hL : L.length ≤ 1024) :
    Calls Tryz.prog 36 #[ov, .func (.func 37) #[] #[]] w fun e w' => e = .returned (.tuple #[]) ∧
      ∃ L', L.Perm L' ∧ L'.Pairwise (· ≤ ·) ∧ Sep w0 w' (rowsR ov (L'.map row) :: R) := by
  have shut : ∀ {w' : World} {L' : List Nat}, L.Perm L' → Sep w0 w' (.sl 33 1 ov L.length (L'.map enc) :: (partsOf enc row L ++ R)) → Sep w0 w' (rowsR ov (L'.map row) :: R) := by
    intro w' L' hp h
    have h1 : Sep w0 w' (.sl 33 1 ov L.length (L'.map enc) :: (partsOf enc row L' ++ R)) := h.perm (.cons _ ((hp.map _).append_right _))
    refine Sep.list_shut (vs := L'.map enc) (by simp) ?_
    have e : List.zipWith intsR (L'.map enc) (L'.map row) = partsOf enc row L' := by
      unfold partsOf
      rw [List.zipWith_map, List.zipWith_self]
    rw [e, List.length_map, ← hp.length_eq]
    exact h1
  rcases Nat.eq_zero_or_pos L.length with h0 | hpos
  · obtain rfl : L = [] := List.eq_nil_of_length_eq_zero h0
    obtain ⟨A, cap, rfl, _⟩ := hS.sl_any 0 rfl
    have hcon := Go.Proofs.AnyF.slices_SortFunc_none (P := Tryz.prog) (ρ := Go.Proofs.Tryz.sortRows_ren) { Go.Proofs.Tryz.sortRows with } A cap (.func (.func 37) #[] #[]) w
    change Calls Tryz.prog 36 _ _ _ at hcon
    refine hcon.mono ?_
    rintro e w' ⟨rfl, rfl⟩
    exact ⟨rfl, [], .refl _, .nil, shut (.refl _) hS⟩
  obtain ⟨g, cap, rfl, _, hg, _⟩ := hS.sl_form 0 rfl hpos
  have hne : L ≠ [] := by intro e; rw [e] at hpos; exact Nat.lt_irrefl _ hpos
  haveI : Inhabited {x : Nat // x ∈ L} := ⟨⟨L.head hne, List.head_mem hne⟩⟩
  let enc' : {x : Nat // x ∈ L} → Value := fun x => enc x.1
  let cf : {x : Nat // x ∈ L} → {x : Nat // x ∈ L} → Int := fun x y => (x.1 : Int) - (y.1 : Int)
  have hlt : ∀ x y, Go.Proofs.ltOf cf x y = decide (x.1 < y.1) := fun x y => by
    unfold Go.Proofs.ltOf
    rw [Bool.eq_iff_iff, decide_eq_true_eq, decide_eq_true_eq]
    show (x.1 : Int) - (y.1 : Int) < 0 ↔ _
    omega
  have hO : Go.Sort.SWO (Go.Proofs.ltOf cf) := ⟨fun x => by rw [hlt]; simp, fun x y z h1 h2 => by rw [hlt] at *; simp at *; omega, fun x y z h1 h2 => by rw [hlt] at *; simp at *; omega⟩
  have hd : L.attach.toArray.size = L.length := by simp
  have hmap : ∀ d : Array {x : Nat // x ∈ L}, d.toList.map enc' = (d.toList.map (·.1)).map enc := fun d => by rw [List.map_map]; rfl
  have hdl : L.attach.toArray.toList.map enc' = L.map enc := by
    rw [hmap]
    simp
  have hpart : ∀ x : {x : Nat // x ∈ L}, ∃ k : Nat, (partsOf enc row L ++ R)[k]? = some (intsR (enc x.1) (row x.1)) := fun x => by
    obtain ⟨k, hk⟩ := partsOf_at (enc := enc) (row := row) x.2
    exact ⟨k, by rw [List.getElem?_append_left (by rcases List.getElem?_eq_some_iff.1 hk with ⟨h, _⟩; exact h)]; exact hk⟩
  have h1 : Go.Proofs.OneCell enc' := fun x => by
    obtain ⟨k, hk⟩ := hpart x
    obtain ⟨A, c, e, _⟩ := (hS.ints (k + 1) hk).shape
    show (enc x.1).oneCell' = true
    rw [e]
    rfl
  have hsort : ∀ (m : Nat) (os : Array Obj) (dk : Array {x : Nat // x ∈ L}), dk.size = L.length → Sep w0 (Go.Proofs.sortWorld enc' w g 0 m dk os) (.sl 33 1 (.slice (some ⟨g, 0, none⟩) L.length cap) L.length (dk.toList.map enc') :: (partsOf enc row L ++ R)) :=
    fun m os dk hdk => hS.sorted enc' 0 rfl m dk hdk os
  have hcmp : Go.Proofs.CmpReads Tryz.prog 37 #[] enc' cf g 0 L.attach.toArray.size w := by
    intro m os dk hdk x y
    have hT := hsort m os dk (hdk.trans hd)
    obtain ⟨kx, hkx⟩ := hpart x
    obtain ⟨ky, hky⟩ := hpart y
    obtain ⟨lx, ex⟩ := hrow x.1 x.2
    obtain ⟨ly, ey⟩ := hrow y.1 y.2
    have hix := hT.ints (kx + 1) hkx
    have hiy := hT.ints (ky + 1) hky
    rw [ex] at hix
    rw [ey] at hiy
    have bx := hb x.1 x.2
    have by' := hb y.1 y.2
    exact less_any hix hiy (by simp) (by simp) (by simp; omega) (by simp; omega)
  have hH : Go.Sort.Holds enc' w g 0 L.attach.toArray := fun j hj => by
    rw [Nat.zero_add]
    have hj' : j < L.length := by rw [hd] at hj; exact hj
    refine ⟨?_, hS.frozenAt 0 rfl j⟩
    rw [hS.cellAt 0 rfl j (by omega), getElem!_pos _ j hj]
    simp [hj', enc']
  have eg : ∀ args w, (callFunc 37 args).run Tryz.prog w = .ok (.enter 37 args) w := Go.Proofs.enters_of Tryz.func37 (by kernel_rfl) rfl
  have hcon := Go.Proofs.Any.slices_SortFunc Go.Proofs.Tryz.sortRows enc' h1 cf hO 37 #[] g 0 cap L.attach.toArray w eg hcmp.lays hH hg (by rw [hd]; omega)
  change Calls Tryz.prog 36 _ _ _ at hcon
  rw [hd] at hcon
  refine hcon.mono ?_
  rintro e w' ⟨rfl, d', n, os, hp, hs, rfl⟩
  have hds : d'.size = L.length := hp.1.trans hd
  have hperm : d'.toList.Perm L.attach := by
    have h := hp.2.2
    have e1 : d'.extract 0 L.length = d' := by rw [← hds]; exact Array.extract_size
    have e2 : L.attach.toArray.extract 0 L.length = L.attach.toArray := by
      have h3 := Array.extract_size (xs := L.attach.toArray)
      rw [hd] at h3
      exact h3
    rw [e1, e2] at h
    exact h
  have hpL : L.Perm (d'.toList.map (·.1)) := by
    have h := (hperm.map (·.1)).symm
    simpa using h
  refine ⟨rfl, d'.toList.map (·.1), hpL, ?_, shut hpL ?_⟩
  · rw [List.pairwise_map, List.pairwise_iff_getElem]
    intro i j hi hj hij
    have hi' : i < d'.size := by simpa using hi
    have hj' : j < d'.size := by simpa using hj
    have h := hs i j (Nat.zero_le _) hij (by omega)
    rw [getElem!_pos d' j hj', getElem!_pos d' i hi', hlt] at h
    simp at h ⊢
    omega
  · have h := hsort n os d' hds
    rw [hmap] at h
    exact h
end Go.Proofs.YtioonfceamgpmaaGreatDoor
