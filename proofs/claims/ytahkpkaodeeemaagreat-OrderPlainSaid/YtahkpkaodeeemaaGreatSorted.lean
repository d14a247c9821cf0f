/- What a sort leaves of a part of the state. -/
import Derived.Test.YtahkpkaodeeemaaGreatFinds
import Derived.Test.YtahkpkaodeeemaaGreatShelf
import Derived.Shelf.SlSortCmp.NoneTotal
namespace Go.Proofs.YtahkpkaodeeemaaGreat
open Go.RowKit
set_option linter.unusedVariables false

theorem heap_sorted {α : Type} [Inhabited α] (enc : α → Value) (w : World) (g n : Nat) (d : Array α) (os : Array Obj) (b : Nat) (hb : b < w.heap.size) :
    (Go.Proofs.sortWorld enc w g 0 n d os).heap[b]? = if g = b then w.heap[b]?.map (Go.Sort.onCells (Go.Sort.putCells enc 0 d)) else w.heap[b]? := by
  unfold Go.Proofs.sortWorld Go.Sort.grow Go.Sort.putRow Go.Sort.mapBlock Go.Sort.ahead
  simp only
  rw [Array.getElem?_append_left (by simpa using hb), Array.getElem?_modify]

/-- A slice of one-cell elements, sorted in place. -/
theorem Sep.sorted {α : Type} [Inhabited α] (enc : α → Value) {w0 w : World} {As : List Asn} {e : TypeId} {g m cap : Nat} {cs : List Value} (k : Nat) (h : Sep w0 w As)
    (hi : As[k]? = some (.sl e 1 (.slice (some ⟨g, 0, none⟩) m cap) m cs)) (n : Nat) (d : Array α) (hd : d.size = m) (os : Array Obj) :
    Sep w0 (Go.Proofs.sortWorld enc w g 0 n d os) (As.set k (.sl e 1 (.slice (some ⟨g, 0, none⟩) m cap) m (d.toList.map enc))) := by
  refine h.step k hi fun F ⟨ho, hF⟩ _ => ⟨F, ⟨⟨by simp [hd], ?_⟩, hF⟩, fun b hb => .inl hb, ?_⟩
  · rcases ho.2 with ⟨h', _⟩ | ⟨g', cap', cur, h', hb, hg, hc, hm, hs, ht⟩
    · simp at h'
    · simp only [Value.slice.injEq, Option.some.injEq, Addr.mk.injEq, and_true, true_and] at h'
      obtain ⟨rfl, rfl⟩ := h'
      refine .inr ⟨g, cap, Go.Sort.putCells enc 0 d cur, rfl, hb, ?_, hc, hm, by simpa [Go.Sort.putCells] using hs, ?_⟩
      · rw [heap_sorted enc w g n d os g (lt_of_heap hg), if_pos rfl, hg]
        rfl
      · apply List.ext_getElem?
        intro i
        by_cases hi : i < m
        · have hc2 : i < cur.size := by omega
          simp [Go.Sort.putCells, hd, hi, hc2]
        · rw [List.getElem?_eq_none (by simp; omega), List.getElem?_eq_none (by simp; omega)]
  · refine ⟨rfl, rfl, rfl, by simp [Go.Proofs.sortWorld, Go.Sort.grow, Go.Sort.putRow, Go.Sort.mapBlock, Go.Sort.ahead], fun b hb hn => ?_⟩
    rw [heap_sorted enc w g n d os b hb, if_neg]
    intro e
    subst e
    exact hn (by rw [hF]; simp [Value.ownBlock])

/-- Parts of the call's own, one for each number of a list. -/
def partsOf (enc : Nat → Value) (row : Nat → List Int) (L : List Nat) : List Asn := L.map fun i => intsR (enc i) (row i)
theorem partsOf_at {enc : Nat → Value} {row : Nat → List Int} {L : List Nat} {x : Nat} (h : x ∈ L) : ∃ k : Nat, (partsOf enc row L)[k]? = some (intsR (enc x) (row x)) := by
  obtain ⟨k, hk⟩ := List.mem_iff_getElem?.1 h
  exact ⟨k, by simp [partsOf, hk]⟩

/-- What Round's sort leaves. -/
theorem sort_any {w0 w : World} {ov : Value} {L : List Nat} {enc : Nat → Value} {row : Nat → List Int} {R : List Asn}
    (hS : Sep w0 w (.sl 27 1 ov L.length (L.map enc) :: (partsOf enc row L ++ R))) (hrow : ∀ i, i ∈ L → ∃ l, row i = (i : Int) :: l) (hb : ∀ i, i ∈ L → i ≤ 1024) (hL : L.length ≤ 1024) :
    Calls Tryz.prog 28 #[ov, .func (.func 29) #[] #[]] w fun e w' => e = .returned (.tuple #[]) ∧
      ∃ L', L.Perm L' ∧ L'.Pairwise (· ≤ ·) ∧ Sep w0 w' (rowsR ov (L'.map row) :: R) := by
  have shut : ∀ {w' : World} {L' : List Nat}, L.Perm L' → Sep w0 w' (.sl 27 1 ov L.length (L'.map enc) :: (partsOf enc row L ++ R)) → Sep w0 w' (rowsR ov (L'.map row) :: R) := by
    intro w' L' hp h
    have h1 : Sep w0 w' (.sl 27 1 ov L.length (L'.map enc) :: (partsOf enc row L' ++ R)) := h.perm (.cons _ ((hp.map _).append_right _))
    refine Sep.list_shut (vs := L'.map enc) (by simp) ?_
    have e : List.zipWith intsR (L'.map enc) (L'.map row) = partsOf enc row L' := by
      unfold partsOf
      rw [List.zipWith_map, List.zipWith_self]
    rw [e, List.length_map, ← hp.length_eq]
    exact h1
  rcases Nat.eq_zero_or_pos L.length with h0 | hpos
  · obtain rfl : L = [] := List.eq_nil_of_length_eq_zero h0
    obtain ⟨A, cap, rfl, _⟩ := hS.sl_any 0 rfl
    have hcon := Go.Proofs.AnyF.slices_SortFunc_none (P := Tryz.prog) (ρ := Go.Proofs.Tryz.sortRows_ren) { Go.Proofs.Tryz.sortRows with } A cap (.func (.func 29) #[] #[]) w
    change Calls Tryz.prog 28 _ _ _ at hcon
    refine hcon.mono ?_
    rintro e w' ⟨rfl, rfl⟩
    exact ⟨rfl, [], .refl _, .nil, shut (.refl _) hS⟩
  obtain ⟨g, cap, rfl, _, hg, _⟩ := hS.sl_form 0 rfl hpos
  have hne : L ≠ [] := by intro e; rw [e] at hpos; exact Nat.lt_irrefl _ hpos
  haveI : Inhabited {x : Nat // x ∈ L} := ⟨⟨L.head hne, List.head_mem hne⟩⟩
  let enc' : {x : Nat // x ∈ L} → Value := fun x => enc x.1
  let cf : {x : Nat // x ∈ L} → {x : Nat // x ∈ L} → Int := fun x y => (x.1 : Int) - (y.1 : Int)
  have hlt : ∀ x y, Go.Proofs.ltOf cf x y = decide (x.1 < y.1) := fun x y => by
    unfold Go.Proofs.ltOf
    rw [Bool.eq_iff_iff, decide_eq_true_eq, decide_eq_true_eq]
    show (x.1 : Int) - (y.1 : Int) < 0 ↔ _
    omega
  have hO : Go.Sort.SWO (Go.Proofs.ltOf cf) := ⟨fun x => by rw [hlt]; simp, fun x y z h1 h2 => by rw [hlt] at *; simp at *; omega, fun x y z h1 h2 => by rw [hlt] at *; simp at *; omega⟩
  have hd : L.attach.toArray.size = L.length := by simp
  have hmap : ∀ d : Array {x : Nat // x ∈ L}, d.toList.map enc' = (d.toList.map (·.1)).map enc := fun d => by rw [List.map_map]; rfl
  have hdl : L.attach.toArray.toList.map enc' = L.map enc := by
    rw [hmap]
    simp
  have hpart : ∀ x : {x : Nat // x ∈ L}, ∃ k : Nat, (partsOf enc row L ++ R)[k]? = some (intsR (enc x.1) (row x.1)) := fun x => by
    obtain ⟨k, hk⟩ := partsOf_at (enc := enc) (row := row) x.2
    exact ⟨k, by rw [List.getElem?_append_left (by rcases List.getElem?_eq_some_iff.1 hk with ⟨h, _⟩; exact h)]; exact hk⟩
  have h1 : Go.Proofs.OneCell enc' := fun x => by
    obtain ⟨k, hk⟩ := hpart x
    obtain ⟨A, c, e, _⟩ := (hS.ints (k + 1) hk).shape
    show (enc x.1).oneCell' = true
    rw [e]
    rfl
  have hsort : ∀ (m : Nat) (os : Array Obj) (dk : Array {x : Nat // x ∈ L}), dk.size = L.length → Sep w0 (Go.Proofs.sortWorld enc' w g 0 m dk os) (.sl 27 1 (.slice (some ⟨g, 0, none⟩) L.length cap) L.length (dk.toList.map enc') :: (partsOf enc row L ++ R)) :=
    fun m os dk hdk => hS.sorted enc' 0 rfl m dk hdk os
  have hcmp : Go.Proofs.CmpReads Tryz.prog 29 #[] enc' cf g 0 L.attach.toArray.size w := by
    intro m os dk hdk x y
    have hT := hsort m os dk (hdk.trans hd)
    obtain ⟨kx, hkx⟩ := hpart x
    obtain ⟨ky, hky⟩ := hpart y
    obtain ⟨lx, ex⟩ := hrow x.1 x.2
    obtain ⟨ly, ey⟩ := hrow y.1 y.2
    have hix := hT.ints (kx + 1) hkx
    have hiy := hT.ints (ky + 1) hky
    rw [ex] at hix
    rw [ey] at hiy
    have bx := hb x.1 x.2
    have by' := hb y.1 y.2
    exact less_any hix hiy (by simp) (by simp) (by simp; omega) (by simp; omega)
  have hH : Go.Sort.Holds enc' w g 0 L.attach.toArray := fun j hj => by
    rw [Nat.zero_add]
    have hj' : j < L.length := by rw [hd] at hj; exact hj
    refine ⟨?_, hS.frozenAt 0 rfl j⟩
    rw [hS.cellAt 0 rfl j (by omega), getElem!_pos _ j hj]
    simp [hj', enc']
  have eg : ∀ args w, (callFunc 29 args).run Tryz.prog w = .ok (.enter 29 args) w := Go.Proofs.enters_of Tryz.func29 (by kernel_rfl) rfl
  have hcon := Go.Proofs.Any.slices_SortFunc Go.Proofs.Tryz.sortRows enc' h1 cf hO 29 #[] g 0 cap L.attach.toArray w eg hcmp.lays hH hg (by rw [hd]; omega)
  change Calls Tryz.prog 28 _ _ _ at hcon
  rw [hd] at hcon
  refine hcon.mono ?_
  rintro e w' ⟨rfl, d', n, os, hp, hs, rfl⟩
  have hds : d'.size = L.length := hp.1.trans hd
  have hperm : d'.toList.Perm L.attach := by
    have h := hp.2.2
    have e1 : d'.extract 0 L.length = d' := by rw [← hds]; exact Array.extract_size
    have e2 : L.attach.toArray.extract 0 L.length = L.attach.toArray := by
      have h3 := Array.extract_size (xs := L.attach.toArray)
      rw [hd] at h3
      exact h3
    rw [e1, e2] at h
    exact h
  have hpL : L.Perm (d'.toList.map (·.1)) := by
    have h := (hperm.map (·.1)).symm
    simpa using h
  refine ⟨rfl, d'.toList.map (·.1), hpL, ?_, shut hpL ?_⟩
  · rw [List.pairwise_map, List.pairwise_iff_getElem]
    intro i j hi hj hij
    have hi' : i < d'.size := by simpa using hi
    have hj' : j < d'.size := by simpa using hj
    have h := hs i j (Nat.zero_le _) hij (by omega)
    rw [getElem!_pos d' j hj', getElem!_pos d' i hi', hlt] at h
    simp at h ⊢
    omega
  · have h := hsort n os d' hds
    rw [hmap] at h
    exact h
end Go.Proofs.YtahkpkaodeeemaaGreat
