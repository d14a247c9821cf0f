/- shuntlaw15's alive, walked; what Break of a ring leaves in the memory. -/
import Derived.Test.YtioonfceamgpmaaDoorBreak
import Derived.Test.YtioonfceamgpmaaDoorRingPlain
namespace Go.Proofs.YtioonfceamgpmaaDoor
open Go.RowKit
set_option linter.unusedVariables false

theorem Sep.litN {w0 w : World} {As : List Asn} (h : Sep w0 w As) (e : TypeId) (sz n : Nat) (cs : Array Value) (hs : cs.size = n * sz) (hm : n ≤ maxLen) : Sep w0 (w.alloc (.cells cs e)) (.sl e sz (.slice (some ⟨w.heap.size, 0, none⟩) n n) n cs.toList :: As) := by
  have hown := World.ownsRow_lit (base := 0) (e := e) (size := sz) w cs n (Nat.zero_le _) hm hs
  exact h.new (F := [w.heap.size]) ((Below.refl _ _).alloc (Nat.le_refl _) _) ⟨hown, rfl⟩ (by simp)
theorem temp_zero : tempS 0 = ⟨#[46, 116, 115, 45, 48]⟩ := by
  have h : (tempS 0).data = #[46, 116, 115, 45, 48] := by decide +kernel
  cases h2 : tempS 0 with
  | mk d => rw [h2] at h; simp only at h; rw [h]

/-- What Break of a ring leaves, as the law reads it. -/
def RingRead (w : World) (va vn : Value) (n : Nat) (x : Ins) : Prop :=
  ∃ g c h c' A c0 p c2, va = .slice (some ⟨g, 0, none⟩) (n + 1) c ∧ vn = .slice (some ⟨h, 0, none⟩) (n + 1) c' ∧
    (w.cell? ⟨g, 0, none⟩ = some (.int .i64 x.op) ∧ w.cell? ⟨g, 1, none⟩ = some (.string x.path) ∧ w.cell? ⟨g, 2, none⟩ = some (.string ⟨#[46, 116, 115, 45, 48]⟩) ∧ w.cell? ⟨g, 3, none⟩ = some (.int .i64 x.mode) ∧ w.cell? ⟨g, 4, none⟩ = some (.int .i64 x.ref)) ∧
    (w.cell? ⟨g, n * 5, none⟩ = some (.int .i64 3) ∧ w.cell? ⟨g, n * 5 + 1, none⟩ = some (.string ⟨#[46, 116, 115, 45, 48]⟩) ∧ w.cell? ⟨g, n * 5 + 2, none⟩ = some (.string x.to) ∧ w.cell? ⟨g, n * 5 + 3, none⟩ = some (.int .i64 0) ∧ w.cell? ⟨g, n * 5 + 4, none⟩ = some (.int .i64 0)) ∧
    w.cell? ⟨h, 0, none⟩ = some (.slice A 0 c0) ∧ w.cell? ⟨h, n, none⟩ = some (.slice (some ⟨p, 0, none⟩) 2 c2) ∧ w.cell? ⟨p, 0, none⟩ = some (.int .i64 0) ∧ w.cell? ⟨p, 1, none⟩ = some (.int .i64 1)

theorem ring_read {w0 w : World} {n : Nat} {acts : List Ins} {va vn : Value} {x : Ins} (h2 : 2 ≤ n) (hl : acts.length = n) (hx : acts.getD 0 insZ = x) (hS : Sep w0 w [insR va (cutActs acts x 0 0), rowsR vn (cutRows (longX n true) 0 [1])]) : RingRead w va vn n x := by
  have hal : (cutActs acts x 0 0).length = n + 1 := by rw [cutActs_len, hl]
  have hrl : (cutRows (longX n true) 0 [1]).length = n + 1 := rows_len
  have hi : insR va (cutActs acts x 0 0) = .sl 26 5 va (n + 1) (insCells (cutActs acts x 0 0)) := by unfold insR; rw [hal]
  have hS2 := hS.perm (List.Perm.swap _ _ _)
  rw [hi] at hS
  obtain ⟨g, c, rfl, _⟩ := hS.sl_form 0 rfl (by omega)
  have a0 : (cutActs acts x 0 0)[0]? = some { x with to := tempS 0 } := by
    unfold cutActs
    rw [List.getElem?_set_self (by simp)]
  have an : (cutActs acts x 0 0)[n]? = some (Ins.mk 3 (tempS 0) x.to 0 0) := by
    unfold cutActs
    rw [List.getElem?_set_ne (by omega), List.getElem?_append_right (by omega), hl, Nat.sub_self]
    rfl
  have c0 := fun (f : Nat) (hf : f < 5) => (hS.cellAt 0 rfl (0 * 5 + f) (by omega)).trans (insCells_at a0 f hf)
  have cn := fun (f : Nat) (hf : f < 5) => (hS.cellAt 0 rfl (n * 5 + f) (by omega)).trans (insCells_at an f hf)
  obtain ⟨h, c', u0, rfl, r0, ⟨A, k0, e0⟩, _⟩ := rows_cells (k := 0) hS2 (by omega)
  obtain ⟨h', c'', un, e1, rn, _, hn⟩ := rows_cells (k := n) hS2 (by omega)
  cases e1
  have l0 : (cutRows (longX n true) 0 [1])[0] = [] := by
    have := rows_at (n := n) (v := 0) h2 (by omega)
    rw [List.getElem?_eq_getElem (by omega), if_pos rfl] at this
    exact Option.some.inj this
  have ln : (cutRows (longX n true) 0 [1])[n]'(by omega) = [0, 1] := by
    have := rows_at (n := n) (v := n) h2 (by omega)
    rw [List.getElem?_eq_getElem (by omega), if_neg (by omega), if_pos rfl] at this
    exact Option.some.inj this
  rw [l0] at e0
  obtain ⟨p, c2, e2, hp⟩ := hn (by rw [ln]; decide)
  rw [ln] at e2
  subst e0 e2
  have p0 := hp 0 (by rw [ln]; decide)
  have p1 := hp 1 (by rw [ln]; decide)
  simp only [ln] at p0 p1
  refine ⟨g, c, h, c', A, k0, p, c2, rfl, by rw [hrl], ⟨?_, ?_, ?_, ?_, ?_⟩, ⟨?_, ?_, ?_, ?_, ?_⟩, r0, rn, p0, p1⟩
  · exact c0 0 (by omega)
  · exact c0 1 (by omega)
  · rw [← temp_zero]; exact c0 2 (by omega)
  · exact c0 3 (by omega)
  · exact c0 4 (by omega)
  · exact cn 0 (by omega)
  · rw [← temp_zero]; exact cn 1 (by omega)
  · exact cn 2 (by omega)
  · exact cn 3 (by omega)
  · exact cn 4 (by omega)

theorem num_any15 (x : Int) (w : World) : Calls Tryd.prog 7 #[.int .i64 x] w fun e w' => e = .returned (.int .i64 x) ∧ w = w' := by
  go_enter Tryd.func7, Tryd.ntmps7
  go_wp2
  go_ret
  exact ⟨rfl, rfl⟩

def aliveA : List Ins := [⟨3, ⟨#[97]⟩, ⟨#[98]⟩, 0, 0⟩, ⟨3, ⟨#[98]⟩, ⟨#[97]⟩, 0, 0⟩]
theorem alive_ring : breakT aliveA (longX 2 true) = ⟨cutActs aliveA (aliveA.getD 0 insZ) 0 0, cutRows (longX 2 true) 0 [1], 1, 0⟩ :=
  ring_break (by omega) (by omega) rfl (by simp [aliveA]) (by decide +kernel)

theorem alive_args {w0 W : World} {b : Nat} (hS : Sep w0 W [.sl 27 1 (.slice (some ⟨b + 1 + 1 + 1, 0, Option.none⟩) 2 2) 2 [.slice (some ⟨b + 1, 0, Option.none⟩) 1 1, .slice (some ⟨b + 1 + 1, 0, Option.none⟩) 1 1], .sl 3 1 (.slice (some ⟨b + 1 + 1, 0, Option.none⟩) 1 1) 1 [.int .i64 0], .sl 3 1 (.slice (some ⟨b + 1, 0, Option.none⟩) 1 1) 1 [.int .i64 1],
    .sl 26 5 (.slice (some ⟨b, 0, Option.none⟩) 2 2) 2 [.int .i64 3, .string ⟨#[97]⟩, .string ⟨#[98]⟩, .int .i64 0, .int .i64 0, .int .i64 3, .string ⟨#[98]⟩, .string ⟨#[97]⟩, .int .i64 0, .int .i64 0]]) :
    InsAt W (.slice (some ⟨b, 0, Option.none⟩) 2 2) aliveA ∧ RowsAt W (.slice (some ⟨b + 1 + 1 + 1, 0, Option.none⟩) 2 2) (longX 2 true) := by
  refine ⟨hS.ins 3 rfl, _, hS.rd 0 rfl, fun k u x hu hx => ?_⟩
  match k, hu, hx with
  | 0, hu, hx =>
    simp [longX] at hu hx
    subst hu hx
    exact hS.ints 2 rfl
  | 1, hu, hx =>
    simp [longX] at hu hx
    subst hu hx
    exact hS.ints 1 rfl
  | k + 2, hu, hx => simp [longX] at hx

theorem alive_read {w0 w : World} {va vn : Value} (hS : Sep w0 w [insR va (cutActs aliveA (aliveA.getD 0 insZ) 0 0), rowsR vn (cutRows (longX 2 true) 0 [1])]) :
    ∃ g c h c', va = .slice (some ⟨g, 0, Option.none⟩) 3 c ∧ vn = .slice (some ⟨h, 0, Option.none⟩) 3 c' ∧ w.cell? ⟨g, 2, Option.none⟩ = some (.string ⟨#[46, 116, 115, 45, 48]⟩) ∧
      (w.cell? ⟨g, 10, Option.none⟩ = some (.int .i64 3) ∧ w.cell? ⟨g, 11, Option.none⟩ = some (.string ⟨#[46, 116, 115, 45, 48]⟩) ∧ w.cell? ⟨g, 12, Option.none⟩ = some (.string ⟨#[98]⟩) ∧ w.cell? ⟨g, 13, Option.none⟩ = some (.int .i64 0) ∧ w.cell? ⟨g, 14, Option.none⟩ = some (.int .i64 0)) := by
  obtain ⟨g, c, h, c', A, c0, p, c2, e1, e2, ⟨_, _, d2, _, _⟩, ⟨f0, f1, f2, f3, f4⟩, _⟩ := ring_read (n := 2) (by omega) rfl rfl hS
  exact ⟨g, c, h, c', e1, e2, d2, f0, f1, f2, f3, f4⟩

set_option maxRecDepth 100000 in
theorem alive15_any (w : World) : Calls Tryd.prog 5 #[] w fun e w' => e = .returned (.bool true) ∧ Below w.heap.size w w' := by
  have hS := ((((Sep.nil w).litN 26 5 2 #[.int .i64 3, .string ⟨#[97]⟩, .string ⟨#[98]⟩, .int .i64 0, .int .i64 0, .int .i64 3, .string ⟨#[98]⟩, .string ⟨#[97]⟩, .int .i64 0, .int .i64 0] rfl (by simp [maxLen])).lit 3 #[.int .i64 1] (by simp [maxLen])).lit 3 #[.int .i64 0] (by simp [maxLen])).lit 27 #[.slice (some ⟨w.heap.size + 1, 0, none⟩) 1 1, .slice (some ⟨w.heap.size + 1 + 1, 0, none⟩) 1 1] (by simp [maxLen])
  simp only [World.size_alloc, List.size_toArray, List.length_cons, List.length_nil, Nat.reduceAdd] at hS
  obtain ⟨hA, hN⟩ := alive_args hS
  have hb := break_any hA hN (by simp [longX]) (by simp [aliveA]) (by intro x hx; simp [aliveA] at hx; rcases hx with rfl | rfl <;> simp [ByteArray.size])
  rw [alive_ring] at hb
  have hb' := Lib.hid hb
  have hbel := Lib.hid hS.below
  clear hb hA hN hS
  go_enter Tryd.func5, Tryd.ntmps5
  go_wp2_with (first
    | (go_at_call 6; refine hb'.out.mono ?_; rintro e w1 ⟨va, vn, rfl, hS⟩; obtain ⟨g, c, h, c', rfl, rfl, d2, f0, f1, f2, f3, f4⟩ := alive_read hS; have hb2 := Lib.hid hS.below; clear hS)
    | (go_at_call 7; refine (num_any15 _ _).mono ?_; rintro e w2 ⟨rfl, rfl⟩))
  go_ret
  exact ⟨rfl, hbel.out.trans (hb2.out.mono (by simp; omega))⟩
end Go.Proofs.YtioonfceamgpmaaDoor
