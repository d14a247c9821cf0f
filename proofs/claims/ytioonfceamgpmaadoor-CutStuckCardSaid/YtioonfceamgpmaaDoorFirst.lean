/- cutter.first, walked. -/
import Derived.Test.YtioonfceamgpmaaDoorPath3
import Derived.Test.YtioonfceamgpmaaDoorClone
namespace Go.Proofs.YtioonfceamgpmaaDoor
open Go.RowKit Go.Shelf
set_option linter.unusedVariables false

/-- Whether an action can be cut. -/
def cutsX (x : Ins) : Bool := decide (x.op = 3) && !keptL x.path.data.toList

set_option maxRecDepth 100000 in
theorem first1_any {w : World} {b B g : Nat} {len c : Nat} (hB : w.cell? ⟨B, 0, none⟩ = some (.pointer (some ⟨b, 0, none⟩))) (hb : w.cell? ⟨b, 0, none⟩ = some (.slice (some ⟨g, 0, none⟩) len c))
    (i : Nat) (x : Ins) (hi : i < len) (e0 : w.cell? ⟨g, i * 5, none⟩ = some (.int .i64 x.op)) (e1 : w.cell? ⟨g, i * 5 + 1, none⟩ = some (.string x.path)) (hs : x.path.size ≤ 4611686018427387904) :
    Calls Tryd.prog 25 #[.int .i64 i, .pointer (some ⟨B, 0, none⟩)] w fun e w' => e = .returned (.bool (cutsX x)) ∧ Below w.heap.size w w' := by
  have q0 : (0 : Int) ≤ (i : Int) := by omega
  have q1 : (i : Int) < (len : Int) := by omega
  have hk := fun W => kept_any x.path hs W
  obtain ⟨kb, hkb⟩ : ∃ k, keptL x.path.data.toList = k := ⟨_, rfl⟩
  simp only [hkb] at hk
  have hx : cutsX x = (decide (x.op = 3) && !kb) := by rw [cutsX, hkb]
  rw [hx]
  clear hx hi hkb
  have hrefl := Below.refl w.heap.size w
  go_enter Tryd.func25, Tryd.ntmps25
  go_wp2_with (go_at_call 26; refine (hk _).mono ?_; rintro e w' ⟨rfl, hb'⟩)
  · go_ret
    exact ⟨by simp_all, hb'⟩
  · go_ret
    exact ⟨by simp_all, hrefl⟩

/-- The place of the first number that answers. -/
def findL (q : Int → Bool) : List Int → Nat → Int
  | [], _ => -1
  | y :: l, k => if q y = true then (k : Int) else findL q l (k + 1)

theorem indexFunc_any {xs : List Int} {w : World} {v : Value} (h : IntsAt w v xs) (q : Int → Bool) (B : Nat)
    (hq : ∀ wr, Below w.heap.size w wr → ∀ y ∈ xs, Calls Tryd.prog 25 #[.int .i64 y, .pointer (some ⟨B, 0, none⟩)] wr fun e w' => e = .returned (.bool (q y)) ∧ Below wr.heap.size wr w') :
    Calls Tryd.prog 24 #[v, .func (.func 25) #[] #[.pointer (some ⟨B, 0, none⟩)]] w fun e w' => e = .returned (.int .i64 (findL q xs 0)) ∧ Below w.heap.size w w' := by
  obtain ⟨A, c, rfl, hm⟩ := h.shape
  unfold maxLen at hm
  have hm' : (xs.length : Int) ≤ 9223372036854775807 := by omega
  go_enter Tryd.func24, Tryd.ntmps24
  go_wp2_with fail
  go_loopw [8] (fun i wr => ∃ (k : Nat), k ≤ xs.length ∧ i = .int .i64 k ∧ Hid (findL q xs 0 = findL q (xs.drop k) k) ∧ Below w.heap.size w wr) (fun i _ => xs.length - (intOf i).toNat)
  case atStart => exact ⟨0, Nat.zero_le _, rfl, rfl, Below.refl _ _⟩
  case round =>
    obtain ⟨k, hk, rfl, hd, hbr⟩ := hrel
    by_cases hlt : k < xs.length
    · obtain ⟨ad, c', e, h3⟩ := (h.below hbr).at_ hlt
      cases e
      have b1 : (k : Int) < (xs.length : Int) := by omega
      have b2 : (0 : Int) ≤ (k : Int) := by omega
      have hd2 := hd.out
      have hq' := hq wr hbr xs[k] (List.getElem_mem hlt)
      rw [List.drop_eq_getElem_cons hlt, findL] at hd2
      generalize xs[k] = y at h3 hd2 hq'
      obtain ⟨qb, hqb⟩ : ∃ b, q y = b := ⟨_, rfl⟩
      rw [hqb] at hd2 hq'
      clear hqb hd hq
      have hd' := Lib.hid hd2
      clear hd2
      cases qb with
      | true =>
        go_wp2_with (go_at_call 25; refine hq'.mono ?_; rintro e w' ⟨rfl, hb'⟩)
        go_ret
        exact ⟨by rw [hd'.out]; rfl, hbr.trans (hb'.mono hbr.size)⟩
      | false =>
        go_wp2_with (go_at_call 25; refine hq'.mono ?_; rintro e w' ⟨rfl, hb'⟩)
        all_goals exact ⟨⟨k + 1, by omega, by go_num, hd', hbr.trans (hb'.mono hbr.size)⟩, by simp [intOf]; omega⟩
    · obtain rfl : k = xs.length := by omega
      have hd2 := hd.out
      rw [List.drop_length, findL] at hd2
      have hd' := Lib.hid hd2
      clear hd hd2
      go_wp2_with fail
      go_ret
      exact ⟨by rw [hd'.out]; rfl, hbr⟩

/-- The place of the first number whose action can be cut. -/
def firstL (acts : List Ins) (xs : List Int) : Int := findL (fun i => match acts[i.toNat]? with | some x => cutsX x | none => false) xs 0
theorem first_any {w0 w : World} {R : List Asn} {b : Nat} {va vn : Value} {k : Int} {acts : List Ins} (hS : Sep w0 w (.box b 41 #[va, vn, .int .i64 k] :: insR va acts :: R)) {xs : List Int} {v : Value} (h : IntsAt w v xs)
    (hr : ∀ y ∈ xs, 0 ≤ y ∧ y.toNat < acts.length) (hs : ∀ x ∈ acts, x.path.size ≤ 4611686018427387904) (hm : acts.length ≤ 1048576) :
    Calls Tryd.prog 14 #[.pointer (some ⟨b, 0, none⟩), v] w fun e w' => e = .returned (.int .i64 (firstL acts xs)) ∧ Below w.heap.size w w' := by
  obtain ⟨A, c, rfl, _⟩ := h.shape
  have hx := fun W h B hq => indexFunc_any (w := W) (v := .slice A xs.length c) (xs := xs) h (fun i => match acts[i.toNat]? with | some x => cutsX x | none => false) B hq
  have bB := Boxed.new w 36 (.pointer (some ⟨b, 0, none⟩))
  have hS1 := hS.alloc (.cells #[.pointer (some ⟨b, 0, none⟩)] 36)
  have h1 := hx _ (h.below ((Below.refl _ w).alloc (Nat.le_refl _) (.cells #[.pointer (some ⟨b, 0, none⟩)] 36))) w.heap.size (by
    intro wr hbr y hy
    obtain ⟨hy0, hyl⟩ := hr y hy
    obtain ⟨j, rfl⟩ : ∃ j : Nat, y = (j : Int) := ⟨y.toNat, by omega⟩
    have hS2 := hS1.pure hbr
    obtain ⟨g, cap, rfl, _⟩ := hS2.sl_form 1 rfl (by omega)
    have hx := List.getElem?_eq_getElem hyl
    have e0 := (hS2.cellAt 1 rfl (j * 5 + 0) (by simp at hyl; omega)).trans (insCells_at hx 0 (by omega))
    have e1 := (hS2.cellAt 1 rfl (j * 5 + 1) (by simp at hyl; omega)).trans (insCells_at hx 1 (by omega))
    have bB' := hbr.cell (p := ⟨w.heap.size, 0, none⟩) (by simp)
    have hb0 : wr.cell? ⟨b, 0, none⟩ = some (.slice (some ⟨g, 0, none⟩) acts.length cap) := by rw [hS2.box_cell 0 rfl 0]; rfl
    have := first1_any (bB'.trans bB.cell) hb0 j acts[(j : Int).toNat] (by simpa using hyl) e0 e1 (hs _ (List.getElem_mem hyl))
    rw [hx]
    exact this)
  clear hx
  go_enter Tryd.func14, Tryd.ntmps14
  go_wp2_with (go_at_call 24; refine h1.mono ?_; rintro e w' ⟨rfl, hb'⟩)
  go_ret
  exact ⟨rfl, ((Below.refl _ w).alloc (Nat.le_refl _) _).trans (hb'.mono (by simp))⟩
end Go.Proofs.YtioonfceamgpmaaDoor
