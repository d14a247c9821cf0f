/- comp's piles: push, top, pop. -/
import Derived.Test.YtahkpkaodeeemaaGreatParts
import Derived.Test.YtahkpkaodeeemaaGreatTail
import Derived.Deep.RegionHeld3
import Derived.Deep.RegionLaw
import Derived.Deep.DrawnRows
import Derived.Test.YtahkpkaodeeemaaGreatProg
namespace Go.Proofs.YtahkpkaodeeemaaGreat
open Go.RowKit
set_option linter.unusedVariables false

theorem info_int : (Tryz.prog.info? 3).map (fun i => (i.zero, i.size, i.bytes)) = some (some (.int .i64 0), 1, 8) := by kernel_rfl
theorem info_frame : (Tryz.prog.info? 134).map (fun i => (i.zero, i.size, i.bytes)) = some (some (.agg #[.int .i64 0, .int .i64 0]), 2, 16) := by kernel_rfl

/-- A pile of numbers: a block of one cell (its slice), and the slice. -/
def pileR (b : Nat) (xs : List Int) : Asn := .ex fun v : Value => .star (.box b 130 #[v]) (intsR v xs)
def fcells (fs : List (Int × Int)) : List Value := fs.flatMap fun p => [.int .i64 p.1, .int .i64 p.2]
def framesR (v : Value) (fs : List (Int × Int)) : Asn := .sl 134 2 v fs.length (fcells fs)

set_option maxHeartbeats 400000 in
theorem push_int {w0 w : World} {R : List Asn} (b : Nat) (v : Value) (xs : List Int) (x : Int) (hx : xs.length ≤ 1000000) (hS : Sep w0 w (.box b 130 #[v] :: intsR v xs :: R)) :
    Calls Tryz.prog 63 #[.pointer (some ⟨b, 0, none⟩), .int .i64 x] w fun e w' => ∃ v', e = .returned (.tuple #[]) ∧ Sep w0 w' (.box b 130 #[v'] :: intsR v' (xs ++ [x]) :: R) := by
  obtain ⟨i0, hi, hz0, hz1, hz2⟩ := info_parts info_int
  have hb : w.cell? ⟨b, 0, none⟩ = some v := by rw [hS.box_cell 0 rfl 0]; rfl
  have hlt := (hS.boxAt 0 rfl).2.2
  have hS1 := hS.alloc (.cells #[.int .i64 x] 3)
  go_enter Tryz.func63, Tryz.ntmps63
  go_wp2_with (first
      | (at_builtin; refine wpList_append_sep 1 rfl _ _ 27 rfl 3 i0 (.int .i64 0) 1 8 Tryz.underlying27 hi hz0 hz1 hz2 rfl (by decide) hS1 _ _ _ rfl rfl ⟨w.heap.size, 0, none⟩ 1 1 [.int .i64 x] rfl rfl (cell_one_new _ _ _) (by simp [Value.oneCell']) (by decide) (by unfold maxLen; omega) (by omega) ?_)
      | fail)
  intro g cap w1 hS2 hsz
  have hb1 : w1.cell? ⟨b, 0, none⟩ = some v := by rw [hS2.box_cell 0 rfl 0]; rfl
  have hf1 : w1.frozen? ⟨b, 0, none⟩ = false := hS2.box_frozen 0 rfl 0
  go_wp2_with fail
  go_end0
  refine ⟨.slice (some ⟨g, 0, none⟩) (xs.length + 1) cap, rfl, ?_⟩
  have := hS2.box_stored 0 rfl 0 (.slice (some ⟨g, 0, none⟩) (xs.length + 1) cap)
  simpa [intsR] using this

set_option maxHeartbeats 400000 in
theorem top_int {w0 w : World} {R : List Asn} (b : Nat) (g cap : Nat) (xs : List Int) (hx : 0 < xs.length) (hm : xs.length ≤ 1000000)
    (hS : Sep w0 w (.box b 130 #[.slice (some ⟨g, 0, none⟩) xs.length cap] :: intsR (.slice (some ⟨g, 0, none⟩) xs.length cap) xs :: R)) :
    Calls Tryz.prog 99 #[.pointer (some ⟨b, 0, none⟩)] w fun e w' => e = .returned (.pointer (some ⟨g, xs.length - 1, none⟩)) ∧ ∃ n, w' = w.drewN n := by
  have hb : w.cell? ⟨b, 0, none⟩ = some (.slice (some ⟨g, 0, none⟩) xs.length cap) := by rw [hS.box_cell 0 rfl 0]; rfl
  have h1 : (0 : Int) ≤ (xs.length : Int) - 1 := by omega
  have h2 : (xs.length : Int) - 1 < (xs.length : Int) := by omega
  go_enter Tryz.func99, Tryz.ntmps99
  go_wp2_with fail
  go_quiet (fail)
  go_wp2_with fail
  go_ret
  exact ⟨rfl, nq, rfl⟩

set_option maxHeartbeats 400000 in
theorem pop_int {w0 w : World} {R : List Asn} (b : Nat) (v : Value) (xs : List Int) (x : Int) (hm : xs.length < 1000000)
    (hS : Sep w0 w (.box b 130 #[v] :: intsR v (xs ++ [x]) :: R)) :
    Calls Tryz.prog 66 #[.pointer (some ⟨b, 0, none⟩)] w fun e w' => ∃ v', e = .returned (.int .i64 x) ∧ Sep w0 w' (.box b 130 #[v'] :: intsR v' xs :: R) := by
  obtain ⟨g, cap, rfl, hg, hgl, hcap, hmax⟩ := hS.sl_form 1 rfl (by simp)
  have hlen : (xs ++ [x]).length = xs.length + 1 := by simp
  have hb : w.cell? ⟨b, 0, none⟩ = some (.slice (some ⟨g, 0, none⟩) (xs.length + 1) cap) := by rw [hS.box_cell 0 rfl 0]; simp
  have hx : w.cell? ⟨g, xs.length, none⟩ = some (.int .i64 x) := by rw [hS.cellAt 1 rfl xs.length (by simp)]; simp
  have hf : w.frozen? ⟨b, 0, none⟩ = false := hS.box_frozen 0 rfl 0
  have ht := fun n => top_int b g cap (xs ++ [x]) (by simp) (by simp; omega) (hS.drewN n)
  simp only [hlen, Nat.add_sub_cancel] at ht
  have h1 : (0 : Int) ≤ (xs.length : Int) := by omega
  have hcap' : xs.length + 1 ≤ cap := by simpa using hcap
  have h2 : (xs.length : Int) ≤ (cap : Int) := by omega
  have h3 : (cap : Int) ≤ 9223372036854775807 := by have := hmax; simp only [maxLen] at this; omega
  clear hlen
  go_enter Tryz.func66, Tryz.ntmps66
  go_wp2_with (go_at_call 99; refine (ht 0).mono ?_; rintro e w' ⟨rfl, n, rfl⟩)
  refine wp_quiet_tail 14 (by kernel_rfl) (by kernel_rfl) ?_
  simp only [List.take_succ_cons, List.take_zero, List.drop_succ_cons, List.drop_zero]
  repeat (go_big_quiet_step (fail))
  refine wpQuiet_nil ?_
  rintro _ ⟨nq, rfl⟩
  go_wp2_with fail
  go_ret
  refine ⟨.slice (some ⟨g, 0, none⟩) xs.length cap, rfl, ?_⟩
  have := ((hS.drewN (n + nq)).sl_cut 1 rfl xs.length (by simp)).box_stored 0 rfl 0 (.slice (some ⟨g, 0, none⟩) xs.length cap)
  simpa [intsR] using this

theorem fcells_length (fs : List (Int × Int)) : (fcells fs).length = fs.length * 2 := by
  induction fs with
  | nil => rfl
  | cons p fs ih => simp [fcells] at ih ⊢; omega
theorem fcells_append (fs gs : List (Int × Int)) : fcells (fs ++ gs) = fcells fs ++ fcells gs := by simp [fcells]

set_option maxHeartbeats 400000 in
theorem top_frame {w0 w : World} {R : List Asn} (b : Nat) (g cap n : Nat) (hx : 0 < n) (hm : n ≤ 1000000)
    (hS : Sep w0 w (.box b 128 #[.slice (some ⟨g, 0, none⟩) n cap] :: R)) :
    Calls Tryz.prog 65 #[.pointer (some ⟨b, 0, none⟩)] w fun e w' => e = .returned (.pointer (some ⟨g, (n - 1) * 2, none⟩)) ∧ ∃ n, w' = w.drewN n := by
  have hb : w.cell? ⟨b, 0, none⟩ = some (.slice (some ⟨g, 0, none⟩) n cap) := by rw [hS.box_cell 0 rfl 0]; rfl
  have h1 : (0 : Int) ≤ (n : Int) - 1 := by omega
  have h2 : (n : Int) - 1 < (n : Int) := by omega
  go_enter Tryz.func65, Tryz.ntmps65
  go_wp2_with fail
  go_quiet (fail)
  go_wp2_with fail
  go_ret
  exact ⟨rfl, nq, rfl⟩

set_option maxHeartbeats 400000 in
theorem push_frame {w0 w : World} {R : List Asn} (b : Nat) (v : Value) (fs : List (Int × Int)) (k a : Int) (hx : fs.length ≤ 1000000) (hS : Sep w0 w (.box b 128 #[v] :: framesR v fs :: R)) :
    Calls Tryz.prog 64 #[.pointer (some ⟨b, 0, none⟩), .agg #[.int .i64 k, .int .i64 a]] w fun e w' =>
      ∃ v', e = .returned (.tuple #[]) ∧ Sep w0 w' (.box b 128 #[v'] :: framesR v' (fs ++ [(k, a)]) :: R) := by
  obtain ⟨i0, hi, hz0, hz1, hz2⟩ := info_parts info_frame
  have hb : w.cell? ⟨b, 0, none⟩ = some v := by rw [hS.box_cell 0 rfl 0]; rfl
  have hlt := (hS.boxAt 0 rfl).2.2
  have hS1 : Sep w0 (w.alloc (.cells #[.int .i64 k, .int .i64 a] 134)) (.box b 128 #[v] :: framesR v fs :: .box w.heap.size 134 #[.int .i64 k, .int .i64 a] :: R) :=
    (hS.box_new 134 #[.int .i64 k, .int .i64 a]).sel [1, 2, 0] (by decide) (by simp)
  have hb1 : (w.alloc (.cells #[.int .i64 k, .int .i64 a] 134)).cell? ⟨b, 0, none⟩ = some v := by rw [hS1.box_cell 0 rfl 0]; rfl
  have hnews : ∀ (j : Nat) u, [Value.int .i64 k, .int .i64 a][j]? = some u → (((w.alloc (.cells #[.int .i64 k, .int .i64 a] 134)).alloc (.cells #[.int .i64 k, .int .i64 a] 134)).drew).cell? ((⟨w.heap.size + 1, 0, none⟩ : Addr).add j) = some u :=
    cells_new (w.alloc (.cells #[.int .i64 k, .int .i64 a] 134)) #[.int .i64 k, .int .i64 a] _ _ (by simp)
  have hnews := Lib.hid hnews
  go_enter Tryz.func64, Tryz.ntmps64
  go_wp2_with fail
  go_region_law ((refine step_append_sep (w0 := w0) (As := .box b 128 #[v] :: framesR v fs :: .box w.heap.size 134 #[.int .i64 k, .int .i64 a] :: R) 1 (by rfl) _ _ _ (by rfl) 134 i0 _ 2 16 Tryz.underlying126 hi hz0 hz1 hz2 rfl (by decide) ((hS1.alloc (.cells #[.int .i64 k, .int .i64 a] 134)).drew) v fs.length (fcells fs) rfl (by rfl) ⟨w.heap.size + 1, 0, none⟩ 1 1 [.int .i64 k, .int .i64 a] (by rfl) rfl hnews.out (by simp [Value.oneCell']) (by decide) (by unfold maxLen; omega) (by omega) ?_; intro g cap w1 hS2 hsz; have hb2 : w1.cell? ⟨b, 0, none⟩ = some v := (by rw [hS2.box_cell 0 rfl 0]; rfl); have hf1 : w1.frozen? ⟨b, 0, none⟩ = false := hS2.box_frozen 0 rfl 0))
  all_goals go_wp2_with fail
  all_goals go_end0
  all_goals
    refine ⟨.slice (some ⟨g, 0, none⟩) (fs.length + 1) cap, rfl, ?_⟩
    have := ((hS2.box_stored 0 rfl 0 (.slice (some ⟨g, 0, none⟩) (fs.length + 1) cap)).sel [2, 0, 1] (by decide) (by simp)).drop 1
    simpa [framesR, fcells_append, fcells] using this

set_option maxHeartbeats 400000 in
theorem pop_frame {w0 w : World} {R : List Asn} (b : Nat) (v : Value) (fs : List (Int × Int)) (k a : Int) (hm : fs.length < 1000000)
    (hS : Sep w0 w (.box b 128 #[v] :: framesR v (fs ++ [(k, a)]) :: R)) :
    Calls Tryz.prog 67 #[.pointer (some ⟨b, 0, none⟩)] w fun e w' => ∃ v', e = .returned (.agg #[.int .i64 k, .int .i64 a]) ∧ Sep w0 w' (.box b 128 #[v'] :: framesR v' fs :: R) := by
  obtain ⟨g, cap, rfl, hg, hgl, hcap, hmax⟩ := hS.sl_form 1 rfl (by simp)
  have hlen : (fs ++ [(k, a)]).length = fs.length + 1 := by simp
  have hb : w.cell? ⟨b, 0, none⟩ = some (.slice (some ⟨g, 0, none⟩) (fs.length + 1) cap) := by rw [hS.box_cell 0 rfl 0]; simp
  have hbl := (hS.boxAt 0 rfl).2.2
  have hx : w.cell? ⟨g, fs.length * 2, none⟩ = some (.int .i64 k) := by
    rw [hS.cellAt 1 rfl (fs.length * 2) (by simp), fcells_append, List.getElem?_append_right (by rw [fcells_length]; exact Nat.le_refl _), fcells_length]; simp [fcells]
  have hy : w.cell? ⟨g, fs.length * 2 + 1, none⟩ = some (.int .i64 a) := by
    rw [hS.cellAt 1 rfl (fs.length * 2 + 1) (by simp; omega), fcells_append, List.getElem?_append_right (by rw [fcells_length]; omega), fcells_length, show fs.length * 2 + 1 - fs.length * 2 = 1 by omega]; simp [fcells]
  have hf : w.frozen? ⟨b, 0, none⟩ = false := hS.box_frozen 0 rfl 0
  have hS1 := hS.alloc (.cells #[.int .i64 0, .int .i64 0] 134)
  have ht := top_frame b g cap (fs.length + 1) (by omega) (by omega) (by rw [← hlen]; exact hS1)
  rw [Nat.add_sub_cancel] at ht
  have h1 : (0 : Int) ≤ (fs.length : Int) := by omega
  have hcap' : fs.length + 1 ≤ cap := by simpa using hcap
  have h2 : (fs.length : Int) ≤ (cap : Int) := by omega
  have h3 : (cap : Int) ≤ 9223372036854775807 := by have := hmax; simp only [maxLen] at this; omega
  clear hlen
  go_enter Tryz.func67, Tryz.ntmps67
  go_wp2_with (go_at_call 65; refine ht.mono ?_; rintro e w' ⟨rfl, n, rfl⟩)
  refine wp_quiet_tail 14 (by kernel_rfl) (by kernel_rfl) ?_
  simp only [List.take_succ_cons, List.take_zero, List.drop_succ_cons, List.drop_zero]
  repeat (go_big_quiet_step (fail))
  refine wpQuiet_nil ?_
  rintro _ ⟨nq, rfl⟩
  go_wp2_with fail
  have hF := (((((((hS.box_new 134 #[.int .i64 0, .int .i64 0]).drewN n).alloc (.cells #[.int .i64 k, .int .i64 a] 134)).drewN nq).sl_cut 2 rfl fs.length (by simp)).box_stored 1 rfl 0 (.slice (some ⟨g, 0, none⟩) fs.length cap)).box_stored 0 rfl 0 (.int .i64 k)).box_stored 0 rfl 1 (.int .i64 a)
  have q0 := hF.box_cell 0 rfl 0
  have q1 := hF.box_cell 0 rfl 1
  refine bodyPost_ret (v := .agg #[.int .i64 k, .int .i64 a]) (by simp [results, Tryz.results67, go_sem, q0, q1]) rfl ⟨.slice (some ⟨g, 0, none⟩) fs.length cap, rfl, ?_⟩
  have := hF.drop 1
  simpa [framesR, fcells_append, ← fcells_length] using this
end Go.Proofs.YtahkpkaodeeemaaGreat
