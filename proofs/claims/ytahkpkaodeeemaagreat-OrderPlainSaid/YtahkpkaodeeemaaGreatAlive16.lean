/- shuntlaw16's alive, walked. -/
import Derived.Test.YtahkpkaodeeemaaGreatOrderW
import Derived.Test.YtahkpkaodeeemaaGreatOrderPlainP
import Derived.Test.YtahkpkaodeeemaaGreatInsKit
namespace Go.Proofs.YtahkpkaodeeemaaGreat
open Go.RowKit
set_option linter.unusedVariables false

theorem Sep.litN {w0 w : World} {As : List Asn} (h : Sep w0 w As) (e : TypeId) (sz n : Nat) (cs : Array Value) (hs : cs.size = n * sz) (hm : n ≤ maxLen) : Sep w0 (w.alloc (.cells cs e)) (.sl e sz (.slice (some ⟨w.heap.size, 0, none⟩) n n) n cs.toList :: As) := by
  have hown := World.ownsRow_lit (base := 0) (e := e) (size := sz) w cs n (Nat.zero_le _) hm hs
  exact h.new (F := [w.heap.size]) ((Below.refl _ _).alloc (Nat.le_refl _) _) ⟨hown, rfl⟩ (by simp)

theorem num_any16 (x : Int) (w : World) : Calls Tryz.prog 8 #[.int .i64 x] w fun e w' => e = .returned (.int .i64 x) ∧ w = w' := by
  go_enter Tryz.func8, Tryz.ntmps8
  go_wp2
  go_ret
  exact ⟨rfl, rfl⟩

theorem alive_rows {w0 W : World} {b : Nat} {X : Asn} (hS : Sep w0 W [.sl 27 1 (.slice (some ⟨b + 1 + 1 + 1, 0, Option.none⟩) 2 2) 2 [.slice (some ⟨b + 1, 0, Option.none⟩) 1 1, .slice (some ⟨b + 1 + 1, 0, Option.none⟩) 0 0], .sl 3 1 (.slice (some ⟨b + 1 + 1, 0, Option.none⟩) 0 0) 0 [], .sl 3 1 (.slice (some ⟨b + 1, 0, Option.none⟩) 1 1) 1 [.int .i64 1], X]) :
    RowsAt W (.slice (some ⟨b + 1 + 1 + 1, 0, Option.none⟩) 2 2) (longX 2 false) := by
  refine ⟨_, hS.rd 0 rfl, fun k u x hu hx => ?_⟩
  match k, hu, hx with
  | 0, hu, hx =>
    simp [longX] at hu hx
    subst hu hx
    exact hS.ints 2 rfl
  | 1, hu, hx =>
    simp [longX] at hu hx
    subst hu hx
    exact hS.ints 1 rfl
  | k + 2, hu, hx => simp [longX] at hx

theorem ints_read {w0 w : World} {v : Value} {l : List Int} (h : 0 < l.length) (hS : Sep w0 w [intsR v l]) : ∃ g c, v = .slice (some ⟨g, 0, none⟩) l.length c ∧ ∀ k (hk : k < l.length), w.cell? ⟨g, k, none⟩ = some (.int .i64 l[k]) := by
  unfold intsR at hS
  obtain ⟨g, c, rfl, _⟩ := hS.sl_form 0 rfl h
  refine ⟨g, c, rfl, fun k hk => ?_⟩
  have := hS.cellAt 0 rfl k (by omega)
  rw [List.getElem?_map, List.getElem?_eq_getElem hk] at this
  exact this

set_option maxRecDepth 100000 in
theorem alive16_any (w : World) : Calls Tryz.prog 6 #[] w fun e w' => e = .returned (.bool true) ∧ Below w.heap.size w w' := by
  have hS := ((((Sep.nil w).litN 26 5 2 #[.int .i64 5, .string ⟨#[97]⟩, .string ⟨#[]⟩, .int .i64 0, .int .i64 0, .int .i64 5, .string ⟨#[98]⟩, .string ⟨#[]⟩, .int .i64 0, .int .i64 0] rfl (by simp [maxLen])).lit 3 #[.int .i64 1] (by simp [maxLen])).litN 3 1 0 #[] rfl (by simp [maxLen])).lit 27 #[.slice (some ⟨w.heap.size + 1, 0, none⟩) 1 1, .slice (some ⟨w.heap.size + 1 + 1, 0, none⟩) 0 0] (by simp [maxLen])
  simp only [World.size_alloc, List.size_toArray, List.length_cons, List.length_nil, Nat.reduceAdd] at hS
  have hN := alive_rows hS
  have hb := order_any (Aa := some ⟨w.heap.size, 0, none⟩) (ca := 2) hN (m := 2) (by simp [longX]) (by omega) (back_ok (by omega)) (back_none (by omega)) (order_back (by omega) (by omega))
  have hb' := Lib.hid hb
  have hbel := Lib.hid hS.below
  clear hb hN hS
  unfold treeE at *
  go_enter Tryz.func6, Tryz.ntmps6
  go_wp2_with (first
    | (go_at_call 7; refine hb'.out.mono ?_; rintro e w1 ⟨va, rfl, hS⟩; obtain ⟨g, c, rfl, hc⟩ := ints_read (by simp) hS; have d0 := hc 0 (by simp); have d1 := hc 1 (by simp); simp at d0 d1; simp only [List.length_map, List.length_range]; have hb2 := Lib.hid hS.below; clear hS hc)
    | (go_at_call 8; refine (num_any16 _ _).mono ?_; rintro e w2 ⟨rfl, rfl⟩))
  go_ret
  exact ⟨rfl, hbel.out.trans (hb2.out.mono (by simp; omega))⟩
end Go.Proofs.YtahkpkaodeeemaaGreat
