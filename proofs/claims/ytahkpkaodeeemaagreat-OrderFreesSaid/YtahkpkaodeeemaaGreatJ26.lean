/- Sorted, Shelf15, SortC, laid together. -/
import Derived.Test.YtahkpkaodeeemaaGreatJ25
import Derived.Shelf.SlSortCmp.NoneTotal
import Derived.Shelf.SlLaysM
import Derived.Shelf.Lays2
import Derived.Shelf.Lays
import Derived.Ground.SlgmProg
import Derived.Ground.Names2Prog
import Derived.Ground.NamesProg
import Derived.Test.YtahkpkaodeeemaaGreatProg
import Derived.Test.YtahkpkaodeeemaaGreatJ16
import Derived.Shelf.SortM.Plain
import Derived.Shelf.SortM.SortNone
import Derived.Shelf.Slices.CompactI
namespace Go.Proofs.YtahkpkaodeeemaaGreat
open Go.RowKit
set_option linter.unusedVariables false

theorem heap_sorted {α : Type} [Inhabited α] (enc : α → Value) (w : World) (g n : Nat) (d : Array α) (os : Array Obj) (b : Nat) (hb : b < w.heap.size) :
    (Go.Proofs.sortWorld enc w g 0 n d os).heap[b]? = if g = b then w.heap[b]?.map (Go.Sort.onCells (Go.Sort.putCells enc 0 d)) else w.heap[b]? := by
  unfold Go.Proofs.sortWorld Go.Sort.grow Go.Sort.putRow Go.Sort.mapBlock Go.Sort.ahead
  simp only
  rw [Array.getElem?_append_left (by simpa using hb), Array.getElem?_modify]

/-- A slice of one-cell elements, sorted in place. -/
theorem Sep.sorted {α : Type} [Inhabited α] (enc : α → Value) {w0 w : World} {As : List Asn} {e : TypeId} {g m cap : Nat} {cs : List Value} (k : Nat) (h : Sep w0 w As)
    (hi : As[k]? = some (.sl e 1 (.slice (some ⟨g, 0, none⟩) m cap) m cs)) (n : Nat) (d : Array α) (hd : d.size = m) (os : Array Obj) :
    Sep w0 (Go.Proofs.sortWorld enc w g 0 n d os) (As.set k (.sl e 1 (.slice (some ⟨g, 0, none⟩) m cap) m (d.toList.map enc))) := by
  refine h.step k hi fun F ⟨ho, hF⟩ _ => ⟨F, ⟨⟨by simp [hd], ?_⟩, hF⟩, fun b hb => .inl hb, ?_⟩
  · rcases ho.2 with ⟨h', _⟩ | ⟨g', cap', cur, h', hb, hg, hc, hm, hs, ht⟩
    · simp at h'
    · simp only [Value.slice.injEq, Option.some.injEq, Addr.mk.injEq, and_true, true_and] at h'
      obtain ⟨rfl, rfl⟩ := h'
      refine .inr ⟨g, cap, Go.Sort.putCells enc 0 d cur, rfl, hb, ?_, hc, hm, by simpa [Go.Sort.putCells] using hs, ?_⟩
      · rw [heap_sorted enc w g n d os g (lt_of_heap hg), if_pos rfl, hg]
        rfl
      · apply List.ext_getElem?
        intro i
        by_cases hi : i < m
        · have hc2 : i < cur.size := by omega
          simp [Go.Sort.putCells, hd, hi, hc2]
        · rw [List.getElem?_eq_none (by simp; omega), List.getElem?_eq_none (by simp; omega)]
  · refine ⟨rfl, rfl, rfl, by simp [Go.Proofs.sortWorld, Go.Sort.grow, Go.Sort.putRow, Go.Sort.mapBlock, Go.Sort.ahead], fun b hb hn => ?_⟩
    rw [heap_sorted enc w g n d os b hb, if_neg]
    intro e
    subst e
    exact hn (by rw [hF]; simp [Value.ownBlock])

/-- Parts of the call's own, one for each number of a list. -/
def partsOf (enc : Nat → Value) (row : Nat → List Int) (L : List Nat) : List Asn := L.map fun i => intsR (enc i) (row i)
theorem partsOf_at {enc : Nat → Value} {row : Nat → List Int} {L : List Nat} {x : Nat} (h : x ∈ L) : ∃ k : Nat, (partsOf enc row L)[k]? = some (intsR (enc x) (row x)) := by
  obtain ⟨k, hk⟩ := List.mem_iff_getElem?.1 h
  exact ⟨k, by simp [partsOf, hk]⟩

/-- What Round's sort leaves. -/
theorem sort_any {w0 w : World} {ov : Value} {L : List Nat} {enc : Nat → Value} {row : Nat → List Int} {R : List Asn}
    (hS : Sep w0 w (.sl 27 1 ov L.length (L.map enc) :: (partsOf enc row L ++ R))) (hrow : ∀ i, i ∈ L → ∃ l, row i = (i : Int) :: l) (hb : ∀ i, i ∈ L → i ≤ 1024) (hL : L.length ≤ 1024) :
    Calls Tryz.prog 28 #[ov, .func (.func 29) #[] #[]] w fun e w' => e = .returned (.tuple #[]) ∧
      ∃ L', L.Perm L' ∧ L'.Pairwise (· ≤ ·) ∧ Sep w0 w' (rowsR ov (L'.map row) :: R) := by
  have shut : ∀ {w' : World} {L' : List Nat}, L.Perm L' → Sep w0 w' (.sl 27 1 ov L.length (L'.map enc) :: (partsOf enc row L ++ R)) → Sep w0 w' (rowsR ov (L'.map row) :: R) := by
    intro w' L' hp h
    have h1 : Sep w0 w' (.sl 27 1 ov L.length (L'.map enc) :: (partsOf enc row L' ++ R)) := h.perm (.cons _ ((hp.map _).append_right _))
    refine Sep.list_shut (vs := L'.map enc) (by simp) ?_
    have e : List.zipWith intsR (L'.map enc) (L'.map row) = partsOf enc row L' := by
      unfold partsOf
      rw [List.zipWith_map, List.zipWith_self]
    rw [e, List.length_map, ← hp.length_eq]
    exact h1
  rcases Nat.eq_zero_or_pos L.length with h0 | hpos
  · obtain rfl : L = [] := List.eq_nil_of_length_eq_zero h0
    obtain ⟨A, cap, rfl, _⟩ := hS.sl_any 0 rfl
    have hcon := Go.Proofs.AnyF.slices_SortFunc_none (P := Tryz.prog) (ρ := Go.Proofs.Tryz.sortRows_ren) { Go.Proofs.Tryz.sortRows with } A cap (.func (.func 29) #[] #[]) w
    change Calls Tryz.prog 28 _ _ _ at hcon
    refine hcon.mono ?_
    rintro e w' ⟨rfl, rfl⟩
    exact ⟨rfl, [], .refl _, .nil, shut (.refl _) hS⟩
  obtain ⟨g, cap, rfl, _, hg, _⟩ := hS.sl_form 0 rfl hpos
  have hne : L ≠ [] := by intro e; rw [e] at hpos; exact Nat.lt_irrefl _ hpos
  haveI : Inhabited {x : Nat // x ∈ L} := ⟨⟨L.head hne, List.head_mem hne⟩⟩
  let enc' : {x : Nat // x ∈ L} → Value := fun x => enc x.1
  let cf : {x : Nat // x ∈ L} → {x : Nat // x ∈ L} → Int := fun x y => (x.1 : Int) - (y.1 : Int)
  have hlt : ∀ x y, Go.Proofs.ltOf cf x y = decide (x.1 < y.1) := fun x y => by
    unfold Go.Proofs.ltOf
    rw [Bool.eq_iff_iff, decide_eq_true_eq, decide_eq_true_eq]
    show (x.1 : Int) - (y.1 : Int) < 0 ↔ _
    omega
  have hO : Go.Sort.SWO (Go.Proofs.ltOf cf) := ⟨fun x => by rw [hlt]; simp, fun x y z h1 h2 => by rw [hlt] at *; simp at *; omega, fun x y z h1 h2 => by rw [hlt] at *; simp at *; omega⟩
  have hd : L.attach.toArray.size = L.length := by simp
  have hmap : ∀ d : Array {x : Nat // x ∈ L}, d.toList.map enc' = (d.toList.map (·.1)).map enc := fun d => by rw [List.map_map]; rfl
  have hdl : L.attach.toArray.toList.map enc' = L.map enc := by
    rw [hmap]
    simp
  have hpart : ∀ x : {x : Nat // x ∈ L}, ∃ k : Nat, (partsOf enc row L ++ R)[k]? = some (intsR (enc x.1) (row x.1)) := fun x => by
    obtain ⟨k, hk⟩ := partsOf_at (enc := enc) (row := row) x.2
    exact ⟨k, by rw [List.getElem?_append_left (by rcases List.getElem?_eq_some_iff.1 hk with ⟨h, _⟩; exact h)]; exact hk⟩
  have h1 : Go.Proofs.OneCell enc' := fun x => by
    obtain ⟨k, hk⟩ := hpart x
    obtain ⟨A, c, e, _⟩ := (hS.ints (k + 1) hk).shape
    show (enc x.1).oneCell' = true
    rw [e]
    rfl
  have hsort : ∀ (m : Nat) (os : Array Obj) (dk : Array {x : Nat // x ∈ L}), dk.size = L.length → Sep w0 (Go.Proofs.sortWorld enc' w g 0 m dk os) (.sl 27 1 (.slice (some ⟨g, 0, none⟩) L.length cap) L.length (dk.toList.map enc') :: (partsOf enc row L ++ R)) :=
    fun m os dk hdk => hS.sorted enc' 0 rfl m dk hdk os
  have hcmp : Go.Proofs.CmpReads Tryz.prog 29 #[] enc' cf g 0 L.attach.toArray.size w := by
    intro m os dk hdk x y
    have hT := hsort m os dk (hdk.trans hd)
    obtain ⟨kx, hkx⟩ := hpart x
    obtain ⟨ky, hky⟩ := hpart y
    obtain ⟨lx, ex⟩ := hrow x.1 x.2
    obtain ⟨ly, ey⟩ := hrow y.1 y.2
    have hix := hT.ints (kx + 1) hkx
    have hiy := hT.ints (ky + 1) hky
    rw [ex] at hix
    rw [ey] at hiy
    have bx := hb x.1 x.2
    have by' := hb y.1 y.2
    exact less_any hix hiy (by simp) (by simp) (by simp; omega) (by simp; omega)
  have hH : Go.Sort.Holds enc' w g 0 L.attach.toArray := fun j hj => by
    rw [Nat.zero_add]
    have hj' : j < L.length := by rw [hd] at hj; exact hj
    refine ⟨?_, hS.frozenAt 0 rfl j⟩
    rw [hS.cellAt 0 rfl j (by omega), getElem!_pos _ j hj]
    simp [hj', enc']
  have eg : ∀ args w, (callFunc 29 args).run Tryz.prog w = .ok (.enter 29 args) w := Go.Proofs.enters_of Tryz.func29 (by kernel_rfl) rfl
  have hcon := Go.Proofs.Any.slices_SortFunc Go.Proofs.Tryz.sortRows enc' h1 cf hO 29 #[] g 0 cap L.attach.toArray w eg hcmp.lays hH hg (by rw [hd]; omega)
  change Calls Tryz.prog 28 _ _ _ at hcon
  rw [hd] at hcon
  refine hcon.mono ?_
  rintro e w' ⟨rfl, d', n, os, hp, hs, rfl⟩
  have hds : d'.size = L.length := hp.1.trans hd
  have hperm : d'.toList.Perm L.attach := by
    have h := hp.2.2
    have e1 : d'.extract 0 L.length = d' := by rw [← hds]; exact Array.extract_size
    have e2 : L.attach.toArray.extract 0 L.length = L.attach.toArray := by
      have h3 := Array.extract_size (xs := L.attach.toArray)
      rw [hd] at h3
      exact h3
    rw [e1, e2] at h
    exact h
  have hpL : L.Perm (d'.toList.map (·.1)) := by
    have h := (hperm.map (·.1)).symm
    simpa using h
  refine ⟨rfl, d'.toList.map (·.1), hpL, ?_, shut hpL ?_⟩
  · rw [List.pairwise_map, List.pairwise_iff_getElem]
    intro i j hi hj hij
    have hi' : i < d'.size := by simpa using hi
    have hj' : j < d'.size := by simpa using hj
    have h := hs i j (Nat.zero_le _) hij (by omega)
    rw [getElem!_pos d' j hj', getElem!_pos d' i hi', hlt] at h
    simp at h ⊢
    omega
  · have h := hsort n os d' hds
    rw [hmap] at h
    exact h
end Go.Proofs.YtahkpkaodeeemaaGreat

namespace Go.Proofs
open Go.Shelf
def Tryz.sortInts_ren : Go.Shelf.Ren := ⟨fun | 5 => 31 | 8 => 49 | 7 => 51 | 19 => 76 | 20 => 77 | 10 => 78 | 11 => 79 | 12 => 80 | 13 => 81 | 14 => 82 | 15 => 83 | 16 => 84 | 17 => 85 | 18 => 86 | 30 => 105 | 31 => 101 | 32 => 102 | 33 => 106 | 34 => 107 | 35 => 108 | 40 => 125 | n => n, fun | 23 => 27 | 25 => 3 | 3 => 3 | 32 => 100 | 22 => 27 | 0 => 0 | 44 => 146 | 46 => 148 | 4 => 4 | 36 => 140 | 35 => 139 | 41 => 75 | 5 => 5 | 9 => 9 | 53 => 164 | 57 => 162 | 63 => 182 | 64 => 183 | n => n, fun | n => n⟩
theorem Tryz.sortInts : Go.Proofs.SlLaysM.n5 Tryz.prog Tryz.sortInts_ren := {
  mixed := by kernel_rfl
  f5 := ⟨Tryz.f31.name, by decide, Tryz.func31.trans (congrArg some (by kernel_rfl))⟩
  f7 := ⟨Tryz.f51.name, by decide, Tryz.func51.trans (congrArg some (by kernel_rfl))⟩
  f8 := Tryz.func49.trans (congrArg some (by kernel_rfl))
  f10 := ⟨Tryz.f78.name, by decide, Tryz.func78.trans (congrArg some (by kernel_rfl))⟩
  f11 := ⟨Tryz.f79.name, by decide, Tryz.func79.trans (congrArg some (by kernel_rfl))⟩
  f12 := ⟨Tryz.f80.name, by decide, Tryz.func80.trans (congrArg some (by kernel_rfl))⟩
  f13 := ⟨Tryz.f81.name, by decide, Tryz.func81.trans (congrArg some (by kernel_rfl))⟩
  f14 := ⟨Tryz.f82.name, by decide, Tryz.func82.trans (congrArg some (by kernel_rfl))⟩
  f15 := ⟨Tryz.f83.name, by decide, Tryz.func83.trans (congrArg some (by kernel_rfl))⟩
  f16 := ⟨Tryz.f84.name, by decide, Tryz.func84.trans (congrArg some (by kernel_rfl))⟩
  f17 := ⟨Tryz.f85.name, by decide, Tryz.func85.trans (congrArg some (by kernel_rfl))⟩
  f18 := ⟨Tryz.f86.name, by decide, Tryz.func86.trans (congrArg some (by kernel_rfl))⟩
  f19 := Tryz.func76.trans (congrArg some (by kernel_rfl))
  f20 := Tryz.func77.trans (congrArg some (by kernel_rfl))
  f30 := ⟨Tryz.f105.name, by decide, Tryz.func105.trans (congrArg some (by kernel_rfl))⟩
  f31 := Tryz.func101.trans (congrArg some (by kernel_rfl))
  f32 := Tryz.func102.trans (congrArg some (by kernel_rfl))
  f33 := ⟨Tryz.f106.name, by decide, Tryz.func106.trans (congrArg some (by kernel_rfl))⟩
  f34 := ⟨Tryz.f107.name, by decide, Tryz.func107.trans (congrArg some (by kernel_rfl))⟩
  f35 := ⟨Tryz.f108.name, by decide, Tryz.func108.trans (congrArg some (by kernel_rfl))⟩
  f40 := ⟨Tryz.f125.name, by decide, Tryz.func125.trans (congrArg some (by kernel_rfl))⟩
  t0 := Tryz.underlying0
  a0 := Tryz.isAgg0
  z0 := Tryz.sizeOf0
  v0 := Tryz.zeroValue0
  t3 := Tryz.underlying3
  a3 := Tryz.isAgg3
  z3 := Tryz.sizeOf3
  v3 := Tryz.zeroValue3
  t4 := Tryz.underlying4
  a4 := Tryz.isAgg4
  z4 := Tryz.sizeOf4
  v4 := Tryz.zeroValue4
  t5 := Tryz.underlying5
  a5 := Tryz.isAgg5
  z5 := Tryz.sizeOf5
  v5 := Tryz.zeroValue5
  t9 := Tryz.underlying9
  a9 := Tryz.isAgg9
  z9 := Tryz.sizeOf9
  v9 := Tryz.zeroValue9
  t22 := Tryz.underlying27
  a22 := Tryz.isAgg27
  z22 := Tryz.sizeOf27
  v22 := Tryz.zeroValue27
  t23 := Tryz.underlying27
  a23 := Tryz.isAgg27
  z23 := Tryz.sizeOf27
  v23 := Tryz.zeroValue27
  t25 := Tryz.underlying3
  a25 := Tryz.isAgg3
  z25 := Tryz.sizeOf3
  v25 := Tryz.zeroValue3
  t32 := Tryz.underlying100
  a32 := Tryz.isAgg100
  z32 := Tryz.sizeOf100
  v32 := Tryz.zeroValue100
  t35 := Tryz.underlying139
  a35 := Tryz.isAgg139
  z35 := Tryz.sizeOf139
  v35 := Tryz.zeroValue139
  t36 := Tryz.underlying140
  a36 := Tryz.isAgg140
  z36 := Tryz.sizeOf140
  v36 := Tryz.zeroValue140
  t41 := Tryz.underlying75
  a41 := Tryz.isAgg75
  z41 := Tryz.sizeOf75
  v41 := Tryz.zeroValue75
  t44 := Tryz.underlying146
  a44 := Tryz.isAgg146
  z44 := Tryz.sizeOf146
  v44 := Tryz.zeroValue146
  t46 := Tryz.underlying148
  a46 := Tryz.isAgg148
  z46 := Tryz.sizeOf148
  v46 := Tryz.zeroValue148
  t53 := Tryz.underlying164
  a53 := Tryz.isAgg164
  z53 := Tryz.sizeOf164
  v53 := Tryz.zeroValue164
  t57 := Tryz.underlying162
  a57 := Tryz.isAgg162
  z57 := Tryz.sizeOf162
  v57 := Tryz.zeroValue162
  t63 := Tryz.underlying182
  a63 := Tryz.isAgg182
  z63 := Tryz.sizeOf182
  v63 := Tryz.zeroValue182
  t64 := Tryz.underlying183
  a64 := Tryz.isAgg183
  z64 := Tryz.sizeOf183
  v64 := Tryz.zeroValue183 }
def Tryz.compactInts_ren : Go.Shelf.Ren := ⟨fun | 20 => 13 | n => n, fun | 22 => 27 | 3 => 3 | 4 => 4 | 0 => 0 | n => n, fun | n => n⟩
theorem Tryz.compactInts : Go.Proofs.Lays2.n20 Tryz.prog Tryz.compactInts_ren := {
  mixed := by kernel_rfl
  f20 := Tryz.func13.trans (congrArg some (by kernel_rfl))
  t0 := Tryz.underlying0
  a0 := Tryz.isAgg0
  z0 := Tryz.sizeOf0
  v0 := Tryz.zeroValue0
  t3 := Tryz.underlying3
  a3 := Tryz.isAgg3
  z3 := Tryz.sizeOf3
  v3 := Tryz.zeroValue3
  t4 := Tryz.underlying4
  a4 := Tryz.isAgg4
  z4 := Tryz.sizeOf4
  v4 := Tryz.zeroValue4
  t22 := Tryz.underlying27
  a22 := Tryz.isAgg27
  z22 := Tryz.sizeOf27
  v22 := Tryz.zeroValue27
  i3 := by kernel_rfl }
end Go.Proofs

namespace Go.Proofs.YtahkpkaodeeemaaGreat
open Go.RowKit
set_option linter.unusedVariables false

theorem ints_holds {w0 w : World} {As : List Asn} {g n c : Nat} {xs : List Int} (k : Nat) (h : Sep w0 w As) (hk : As[k]? = some (.sl 3 1 (.slice (some ⟨g, 0, none⟩) n c) n (xs.map (.int .i64)))) (hn : xs.length = n) : Go.Sort.Holds (Value.int .i64) w g 0 xs.toArray := fun j hj => by
  have hj' : j < xs.length := by simpa using hj
  rw [Nat.zero_add]
  refine ⟨?_, h.frozenAt k hk j⟩
  rw [h.cellAt k hk j (by omega), getElem!_pos _ j hj]
  simp [hj']

theorem sortints_any {w0 w : World} {As : List Asn} {v : Value} {xs : List Int} (k : Nat) (h : Sep w0 w As) (hk : As[k]? = some (intsR v xs)) (hl : xs.length ≤ 1048576) :
    Calls Tryz.prog 31 #[v] w fun e w' => e = .returned (.tuple #[]) ∧ Sep w0 w' (As.set k (intsR v (sortL xs))) := by
  have hlen : (sortL xs).length = xs.length := (sortL_perm xs).length_eq
  rcases Nat.eq_zero_or_pos xs.length with h0 | hpos
  · obtain rfl : xs = [] := List.eq_nil_of_length_eq_zero h0
    obtain ⟨A, c, rfl, _⟩ := (h.ints k hk).shape
    have hcon := Go.Proofs.AnyM.slices_Sort_int_none Go.Proofs.Tryz.sortInts A c w
    change Calls Tryz.prog 31 _ _ _ at hcon
    refine hcon.mono ?_
    rintro e w' ⟨rfl, rfl⟩
    refine ⟨rfl, ?_⟩
    obtain ⟨hlt, e⟩ := List.getElem?_eq_some_iff.1 hk
    have e2 : sortL [] = [] := List.eq_nil_of_length_eq_zero (by rw [hlen]; rfl)
    rw [e2, ← e, List.set_getElem_self]
    exact h
  obtain ⟨g, c, rfl, _, hg, _⟩ := h.sl_form k hk hpos
  have hH := ints_holds k h hk rfl
  have hcon := Go.Proofs.AnyM.slices_Sort_int Go.Proofs.Tryz.sortInts g 0 c xs w hH hg (by omega)
  change Calls Tryz.prog 31 _ _ _ at hcon
  refine hcon.mono ?_
  rintro e w' ⟨rfl, n, os, rfl⟩
  refine ⟨rfl, ?_⟩
  have hS := h.sorted (α := Int) (Value.int .i64) k hk n (sortL xs).toArray (by simpa using hlen) os
  have e1 : intsR (.slice (some ⟨g, 0, none⟩) xs.length c) (sortL xs) = .sl 3 1 (.slice (some ⟨g, 0, none⟩) xs.length c) xs.length ((sortL xs).toArray.toList.map (.int .i64)) := by
    unfold intsR
    rw [hlen]
  rw [e1]
  exact hS
theorem compact_any {w0 w : World} {As : List Asn} {v : Value} {xs : List Int} (k : Nat) (h : Sep w0 w As) (hk : As[k]? = some (intsR v xs)) (hl : xs.length ≤ 1048576) :
    Calls Tryz.prog 13 #[v] w fun e w' => ∃ v', e = .returned v' ∧ Sep w0 w' (As.set k (intsR v' (Lib.compact xs))) := by
  rcases Nat.eq_zero_or_pos xs.length with h0 | hpos
  · obtain rfl : xs = [] := List.eq_nil_of_length_eq_zero h0
    obtain ⟨A, c, rfl, _⟩ := (h.ints k hk).shape
    have hcon := Go.Proofs.Any.slices_Compact_int_empty Go.Proofs.Tryz.compactInts A c w
    change Calls Tryz.prog 13 _ _ _ at hcon
    refine hcon.mono ?_
    rintro e w' ⟨rfl, rfl⟩
    refine ⟨_, rfl, ?_⟩
    obtain ⟨hlt, e⟩ := List.getElem?_eq_some_iff.1 hk
    have e2 : Lib.compact ([] : List Int) = [] := List.eq_nil_of_length_eq_zero (by have := compact_len []; simpa using this)
    have e3 : As[k] = intsR (.slice A 0 c) [] := e
    rw [e2, ← e3, List.set_getElem_self]
    exact h
  obtain ⟨g, c, rfl, _, hg, hc, _⟩ := h.sl_form k hk hpos
  have hH := ints_holds k h hk rfl
  have hcon := Go.Proofs.Any.slices_Compact_int Go.Proofs.Tryz.compactInts g 0 c xs w hH (by omega) hc
  change Calls Tryz.prog 13 _ _ _ at hcon
  refine hcon.mono ?_
  have hcl := compact_len xs
  rintro e w' ⟨rfl, q, rfl⟩
  refine ⟨_, rfl, ?_⟩
  have hd : (Lib.compact xs ++ List.replicate (xs.length - (Lib.compact xs).length) 0).toArray.size = xs.length := by simp; omega
  have hS := h.sorted (α := Int) (Value.int .i64) k hk q (Lib.compact xs ++ List.replicate (xs.length - (Lib.compact xs).length) 0).toArray hd #[]
  have hlt : k < As.length := (List.getElem?_eq_some_iff.1 hk).1
  have hS2 := hS.sl_cut k (List.getElem?_set_self hlt) (Lib.compact xs).length hcl
  rw [List.set_set] at hS2
  have e1 : intsR (.slice (some ⟨g, 0, none⟩) (Lib.compact xs).length c) (Lib.compact xs) = .sl 3 1 (.slice (some ⟨g, 0, none⟩) (Lib.compact xs).length c) (Lib.compact xs).length (((Lib.compact xs ++ List.replicate (xs.length - (Lib.compact xs).length) 0).toArray.toList.map (Value.int .i64)).take ((Lib.compact xs).length * 1)) := by
    unfold intsR
    congr 1
    rw [Nat.mul_one, List.toList_toArray, List.map_append, List.take_left' (by simp)]
  rw [e1]
  have e2 : Go.Proofs.sortWorld (Value.int .i64) w g 0 q (Lib.compact xs ++ List.replicate (xs.length - (Lib.compact xs).length) 0).toArray #[] = Go.Sort.putRow (Value.int .i64) (Go.Sort.ahead w q) g 0 (Lib.compact xs ++ List.replicate (xs.length - (Lib.compact xs).length) 0).toArray := by
    unfold Go.Proofs.sortWorld
    rw [Go.Sort.grow_empty]
  rw [e2] at hS2
  exact hS2

/-- slices.Collect(slices.Values(xs)). -/
theorem collect_any {w : World} {Bs cap : Nat} {A : Option Addr} {xs : List Int} (hl : xs.length ≤ 1048576) (hBs : Bs < w.heap.size) (hc : w.cell? ⟨Bs, 0, none⟩ = some (.slice A xs.length cap)) (hI : IntsAt w (.slice A xs.length cap) xs) :
    Calls Tryz.prog 30 #[.func (.func 32) #[] #[.pointer (some ⟨Bs, 0, none⟩)]] w fun e w' => ∃ v, e = .returned v ∧ Sep w w' [intsR v xs] := by
  have hlow : CellsLow w.heap.size w A xs := fun k hk => by
    obtain ⟨hlen, A', c', e, _, _, h3⟩ := hI
    cases e
    obtain ⟨ad, e, hb, hcell⟩ := h3 (by omega)
    exact ⟨ad, e, hb, hcell k _ (by simp [hk])⟩
  have hap := (callsIn_wide (n := 3)).1 (appendSeq_in Fence.wide 3 trivial trivial rfl (by omega) Bs cap A xs (by unfold maxLen; omega) (by omega) w hBs hc hlow)
  go_enter Tryz.func30, Tryz.ntmps30
  go_wp2_with (go_at_call 50; refine hap.mono ?_; rintro e w' ⟨v, rfl, hown, hb⟩)
  go_ret
  refine ⟨v, rfl, (Sep.nil w).new hb (F := v.ownBlock.toList) ⟨?_, rfl⟩ ?_⟩
  · refine ⟨hown.1, ?_⟩
    rcases hown.2 with h | ⟨g, c, cur, h1, h2, h3⟩
    · exact .inl h
    · exact .inr ⟨g, c, cur, h1, Nat.zero_le _, h3⟩
  · intro b hb'
    rcases hown.2 with ⟨h, _⟩ | ⟨g, c, cur, h1, h2, h3⟩
    · rw [h] at hb'
      simp [Value.ownBlock] at hb'
    · rw [h1] at hb'
      simp [Value.ownBlock] at hb'
      omega
/-- slices.Sorted(slices.Values(xs)). -/
theorem sorted_any {w : World} {Bs cap : Nat} {A : Option Addr} {xs : List Int} (hl : xs.length ≤ 1048576) (hBs : Bs < w.heap.size) (hc : w.cell? ⟨Bs, 0, none⟩ = some (.slice A xs.length cap)) (hI : IntsAt w (.slice A xs.length cap) xs) :
    Calls Tryz.prog 14 #[.func (.func 32) #[] #[.pointer (some ⟨Bs, 0, none⟩)]] w fun e w' => ∃ v, e = .returned v ∧ Sep w w' [intsR v (sortL xs)] := by
  have hco := Lib.hid (collect_any hl hBs hc hI)
  clear hc hI
  go_enter Tryz.func14, Tryz.ntmps14
  go_wp2_with (go_at_call 30; refine hco.out.mono ?_; rintro e w1 ⟨v, rfl, hS⟩; have hS1 := Lib.hid hS; clear hS)
  have hso := Lib.hid (sortints_any 0 hS1.out rfl hl)
  go_wp2_with (go_at_call 31; refine hso.out.mono ?_; rintro e w2 ⟨rfl, hS⟩; have hS2 := Lib.hid hS; clear hS)
  go_ret
  exact ⟨v, rfl, hS2.out⟩
/-- slices.Compact(slices.Sorted(slices.Values(xs))), the last step, where the list is its own. -/
theorem compact_new {w0 w : World} {v : Value} {xs : List Int} (h : Sep w0 w [intsR v xs]) (hl : xs.length ≤ 1048576) :
    Calls Tryz.prog 13 #[v] w fun e w' => ∃ v', e = .returned v' ∧ Sep w0 w' [intsR v' (Lib.compact xs)] := compact_any 0 h rfl hl
end Go.Proofs.YtahkpkaodeeemaaGreat
