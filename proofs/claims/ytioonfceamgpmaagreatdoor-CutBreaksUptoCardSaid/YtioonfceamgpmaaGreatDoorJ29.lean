/- SortC, laid together. -/
import Derived.Test.YtioonfceamgpmaaGreatDoorJ17
import Derived.Test.YtioonfceamgpmaaGreatDoorJ15
import Derived.Test.YtioonfceamgpmaaGreatDoorJ23
import Derived.Test.YtioonfceamgpmaaGreatDoorJ14
import Derived.Test.YtioonfceamgpmaaGreatDoorJ18
import Derived.Shelf.SortM.Plain
import Derived.Shelf.SortM.SortNone
import Derived.Shelf.Slices.CompactI
namespace Go.Proofs.YtioonfceamgpmaaGreatDoor
open Go.RowKit
set_option linter.unusedVariables false

theorem ints_holds {w0 w : World} {As : List Asn} {g n c : Nat} {xs : List Int} (k : Nat) (h : Sep w0 w As) (hk : As[k]? = some (.sl 3 1 (.slice (some ⟨g, 0, none⟩) n c) n (xs.map (.int .i64)))) (hn : xs.length = n) : Go.Sort.Holds (Value.int .i64) w g 0 xs.toArray := fun j hj => by
  have hj' : j < xs.length := by simpa using hj
  rw [Nat.zero_add]
  refine ⟨?_, h.frozenAt k hk j⟩
  rw [h.cellAt k hk j (by omega), getElem!_pos _ j hj]
  simp [hj']

theorem sortints_any {w0 w : World} {As : List Asn} {v : Value} {xs : List Int} (k : Nat) (h : Sep w0 w As) (hk : As[k]? = some (intsR v xs)) (hl : xs.length ≤ 1048576) :
    Calls Tryz.prog 33 #[v] w fun e w' => e = .returned (.tuple #[]) ∧ Sep w0 w' (As.set k (intsR v (sortL xs))) := by
  have hlen : (sortL xs).length = xs.length := (sortL_perm xs).length_eq
  rcases Nat.eq_zero_or_pos xs.length with h0 | hpos
  · obtain rfl : xs = [] := List.eq_nil_of_length_eq_zero h0
    obtain ⟨A, c, rfl, _⟩ := (h.ints k hk).shape
    have hcon := Go.Proofs.AnyM.slices_Sort_int_none Go.Proofs.Tryz.sortInts A c w
    change Calls Tryz.prog 33 _ _ _ at hcon
    refine hcon.mono ?_
    rintro e w' ⟨rfl, rfl⟩
    refine ⟨rfl, ?_⟩
    obtain ⟨hlt, e⟩ := List.getElem?_eq_some_iff.1 hk
    have e2 : sortL [] = [] := List.eq_nil_of_length_eq_zero (by rw [hlen]; rfl)
    rw [e2, ← e, List.set_getElem_self]
    exact h
  obtain ⟨g, c, rfl, _, hg, _⟩ := h.sl_form k hk hpos
  have hH := ints_holds k h hk rfl
  have hcon := Go.Proofs.AnyM.slices_Sort_int Go.Proofs.Tryz.sortInts g 0 c xs w hH hg (by omega)
  change Calls Tryz.prog 33 _ _ _ at hcon
  refine hcon.mono ?_
  rintro e w' ⟨rfl, n, os, rfl⟩
  refine ⟨rfl, ?_⟩
  have hS := h.sorted (α := Int) (Value.int .i64) k hk n (sortL xs).toArray (by simpa using hlen) os
  have e1 : intsR (.slice (some ⟨g, 0, none⟩) xs.length c) (sortL xs) = .sl 3 1 (.slice (some ⟨g, 0, none⟩) xs.length c) xs.length ((sortL xs).toArray.toList.map (.int .i64)) := by
    unfold intsR
    rw [hlen]
  rw [e1]
  exact hS
theorem compact_any {w0 w : World} {As : List Asn} {v : Value} {xs : List Int} (k : Nat) (h : Sep w0 w As) (hk : As[k]? = some (intsR v xs)) (hl : xs.length ≤ 1048576) :
    Calls Tryz.prog 17 #[v] w fun e w' => ∃ v', e = .returned v' ∧ Sep w0 w' (As.set k (intsR v' (Lib.compact xs))) := by
  rcases Nat.eq_zero_or_pos xs.length with h0 | hpos
  · obtain rfl : xs = [] := List.eq_nil_of_length_eq_zero h0
    obtain ⟨A, c, rfl, _⟩ := (h.ints k hk).shape
    have hcon := Go.Proofs.Any.slices_Compact_int_empty Go.Proofs.Tryz.compactInts A c w
    change Calls Tryz.prog 17 _ _ _ at hcon
    refine hcon.mono ?_
    rintro e w' ⟨rfl, rfl⟩
    refine ⟨_, rfl, ?_⟩
    obtain ⟨hlt, e⟩ := List.getElem?_eq_some_iff.1 hk
    have e2 : Lib.compact ([] : List Int) = [] := List.eq_nil_of_length_eq_zero (by have := compact_len []; simpa using this)
    have e3 : As[k] = intsR (.slice A 0 c) [] := e
    rw [e2, ← e3, List.set_getElem_self]
    exact h
  obtain ⟨g, c, rfl, _, hg, hc, _⟩ := h.sl_form k hk hpos
  have hH := ints_holds k h hk rfl
  have hcon := Go.Proofs.Any.slices_Compact_int Go.Proofs.Tryz.compactInts g 0 c xs w hH (by omega) hc
  change Calls Tryz.prog 17 _ _ _ at hcon
  refine hcon.mono ?_
  have hcl := compact_len xs
  rintro e w' ⟨rfl, q, rfl⟩
  refine ⟨_, rfl, ?_⟩
  have hd : (Lib.compact xs ++ List.replicate (xs.length - (Lib.compact xs).length) 0).toArray.size = xs.length := by simp; omega
  have hS := h.sorted (α := Int) (Value.int .i64) k hk q (Lib.compact xs ++ List.replicate (xs.length - (Lib.compact xs).length) 0).toArray hd #[]
  have hlt : k < As.length := (List.getElem?_eq_some_iff.1 hk).1
  have hS2 := hS.sl_cut k (List.getElem?_set_self hlt) (Lib.compact xs).length hcl
  rw [List.set_set] at hS2
  have e1 : intsR (.slice (some ⟨g, 0, none⟩) (Lib.compact xs).length c) (Lib.compact xs) = .sl 3 1 (.slice (some ⟨g, 0, none⟩) (Lib.compact xs).length c) (Lib.compact xs).length (((Lib.compact xs ++ List.replicate (xs.length - (Lib.compact xs).length) 0).toArray.toList.map (Value.int .i64)).take ((Lib.compact xs).length * 1)) := by
    unfold intsR
    congr 1
    rw [Nat.mul_one, List.toList_toArray, List.map_append, List.take_left' (by simp)]
  rw [e1]
  have e2 : Go.Proofs.sortWorld (Value.int .i64) w g 0 q (Lib.compact xs ++ List.replicate (xs.length - (Lib.compact xs).length) 0).toArray #[] = Go.Sort.putRow (Value.int .i64) (Go.Sort.ahead w q) g 0 (Lib.compact xs ++ List.replicate (xs.length - (Lib.compact xs).length) 0).toArray := by
    unfold Go.Proofs.sortWorld
    rw [Go.Sort.grow_empty]
  rw [e2] at hS2
  exact hS2

/-- slices.Collect(slices.Values(xs)). -/
theorem collect_any {w : World} {Bs cap : Nat} {A : Option Addr} {xs : List Int} (hl : xs.length ≤ 1048576) (hBs : Bs < w.heap.size) (hc : w.cell? ⟨Bs, 0, none⟩ = some (.slice A xs.length cap)) (hI : IntsAt w (.slice A xs.length cap) xs) :
    Calls Tryz.prog 32 #[.func (.func 34) #[] #[.pointer (some ⟨Bs, 0, none⟩)]] w fun e w' => ∃ v, e = .returned v ∧ Sep w w' [intsR v xs] := by
  have hlow : CellsLow w.heap.size w A xs := fun k hk => by
    obtain ⟨hlen, A', c', e, _, _, h3⟩ := hI
    cases e
    obtain ⟨ad, e, hb, hcell⟩ := h3 (by omega)
    exact ⟨ad, e, hb, hcell k _ (by simp [hk])⟩
  have hap := (callsIn_wide (n := 3)).1 (appendSeq_in Fence.wide 3 trivial trivial rfl (by omega) Bs cap A xs (by unfold maxLen; omega) (by omega) w hBs hc hlow)
  go_enter Tryz.func32, Tryz.ntmps32
  go_wp2_with (go_at_call 53; refine hap.mono ?_; rintro e w' ⟨v, rfl, hown, hb⟩)
  go_ret
  refine ⟨v, rfl, (Sep.nil w).new hb (F := v.ownBlock.toList) ⟨?_, rfl⟩ ?_⟩
  · refine ⟨hown.1, ?_⟩
    rcases hown.2 with h | ⟨g, c, cur, h1, h2, h3⟩
    · exact .inl h
    · exact .inr ⟨g, c, cur, h1, Nat.zero_le _, h3⟩
  · intro b hb'
    rcases hown.2 with ⟨h, _⟩ | ⟨g, c, cur, h1, h2, h3⟩
    · rw [h] at hb'
      simp [Value.ownBlock] at hb'
    · rw [h1] at hb'
      simp [Value.ownBlock] at hb'
      omega
/-- slices.Sorted(slices.Values(xs)). -/
theorem sorted_any {w : World} {Bs cap : Nat} {A : Option Addr} {xs : List Int} (hl : xs.length ≤ 1048576) (hBs : Bs < w.heap.size) (hc : w.cell? ⟨Bs, 0, none⟩ = some (.slice A xs.length cap)) (hI : IntsAt w (.slice A xs.length cap) xs) :
    Calls Tryz.prog 18 #[.func (.func 34) #[] #[.pointer (some ⟨Bs, 0, none⟩)]] w fun e w' => ∃ v, e = .returned v ∧ Sep w w' [intsR v (sortL xs)] := by
  have hco := Lib.hid (collect_any hl hBs hc hI)
  clear hc hI
  go_enter Tryz.func18, Tryz.ntmps18
  go_wp2_with (go_at_call 32; refine hco.out.mono ?_; rintro e w1 ⟨v, rfl, hS⟩; have hS1 := Lib.hid hS; clear hS)
  have hso := Lib.hid (sortints_any 0 hS1.out rfl hl)
  go_wp2_with (go_at_call 33; refine hso.out.mono ?_; rintro e w2 ⟨rfl, hS⟩; have hS2 := Lib.hid hS; clear hS)
  go_ret
  exact ⟨v, rfl, hS2.out⟩
/-- slices.Compact(slices.Sorted(slices.Values(xs))), the last step, where the list is its own. -/
theorem compact_new {w0 w : World} {v : Value} {xs : List Int} (h : Sep w0 w [intsR v xs]) (hl : xs.length ≤ 1048576) :
    Calls Tryz.prog 17 #[v] w fun e w' => ∃ v', e = .returned v' ∧ Sep w0 w' [intsR v' (Lib.compact xs)] := compact_any 0 h rfl hl
end Go.Proofs.YtioonfceamgpmaaGreatDoor
