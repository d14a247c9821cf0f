/- tree.Loose of the tree without nodes, walked. -/
import Derived.Test.YtahkpkaodeeemaaGreatIntMap
import Derived.Test.YtahkpkaodeeemaaGreatFrame
import Derived.Test.YtahkpkaodeeemaaGreatKit14
namespace Go.Proofs.YtahkpkaodeeemaaGreat
open Go.RowKit
set_option linter.unusedVariables false

def treeE : Value := .agg #[.slice none 0 0, .slice none 0 0]

theorem index_none (w : World) : Calls Tryz.prog 61 #[.slice none 0 0, .func (.func 43) #[] #[]] w fun e w' => e = .returned (.int .i64 (-1)) ∧ w = w' := by
  go_enter Tryz.func61, Tryz.ntmps61
  go_wp2_with fail
  refine wp_loop_rounds 1 ?_
  rw [rounds_succ]
  go_wp2_with fail
  go_ret
  exact ⟨rfl, rfl⟩
theorem contains_none (w : World) : Calls Tryz.prog 42 #[.slice none 0 0, .func (.func 43) #[] #[]] w fun e w' => e = .returned (.bool false) ∧ w = w' := by
  go_enter Tryz.func42, Tryz.ntmps42
  go_wp2_with (go_at_call 61; refine (index_none _).mono ?_; rintro e w' ⟨rfl, rfl⟩)
  go_ret
  exact ⟨rfl, rfl⟩
theorem bound_none (w : World) : Calls Tryz.prog 22 #[treeE] w fun e w' => e = .returned (.bool false) ∧ w' = w.alloc (.cells #[.slice none 0 0, .slice none 0 0] 34) := by
  unfold treeE
  go_enter Tryz.func22, Tryz.ntmps22
  go_wp2_with (go_at_call 42; refine (contains_none _).mono ?_; rintro e w' ⟨rfl, rfl⟩)
  go_ret
  exact ⟨rfl, rfl⟩
set_option maxRecDepth 100000 in
/-- A map that is new takes its first entry. -/
theorem map_first (w : World) : ∃ w', (Instr.mapUpdate 68 (.map (some w.heap.size)) (.string ⟨#[]⟩) (.int .i64 1)).run Tryz.prog (w.alloc (.map #[] 0)) = .ok () w' ∧ Below w.heap.size w w' := by
  have h1 : (w.alloc (.map #[] 0)).ownsMap Tryz.prog 9 (plainElem (H := Unit) Tryz.prog 3) w.heap.size 0 (.map []) := World.ownsMap_made w _ _ _
  obtain ⟨w', hrun, hown, hgrow⟩ := h1.update (Maps.string_keyed Tryz.underlying9) Tryz.underlying68 (by simp [maxLen]) (key := .string ⟨#[]⟩) (kl := .string []) (by rw [keyOf_string Tryz.underlying9]; simp [mapKey, Tryz.underlying9, ByteArray.size]) (plainElem_int Tryz.underlying3 (a := 1) (by decide))
  exact ⟨w', hrun, (Below.new w _).trans ((Keeps.of_grown hgrow).below (by simp) (by simp))⟩
set_option maxRecDepth 100000 in
theorem loose_none (w : World) : Calls Tryz.prog 10 #[treeE] w fun e w' => e = .returned (.int .i64 0) ∧ Below w.heap.size w w' := by
  have hbo := fun W => bound_none W
  unfold treeE at *
  go_enter Tryz.func10, Tryz.ntmps10
  go_wp2_with fail
  refine wp_scope_labels (fun _ => .skip) (fun _ _ _ _ => False) (fun _ _ _ _ h => h.elim) ?_ (fun _ _ _ _ h => h.elim)
  obtain ⟨w', hmu, hbw⟩ := map_first ((w.alloc (.cells #[.slice none 0 0, .slice none 0 0] 34)).alloc (.cells #[.slice none 0 0, .slice none 0 0] 34))
  simp only [World.size_alloc] at hmu
  have hb0 : Below w.heap.size w ((w.alloc (.cells #[.slice none 0 0, .slice none 0 0] 34)).alloc (.cells #[.slice none 0 0, .slice none 0 0] 34)) := ((Below.refl _ _).alloc (Nat.le_refl _) _).alloc (by simp) _
  have hbx := Lib.hid (hb0.trans (hbw.mono hb0.size))
  have c0 : w'.cell? ⟨w.heap.size, 1, none⟩ = some (.slice none 0 0) := by
    rw [hbw.cell (p := ⟨w.heap.size, 1, none⟩) (by simp; omega), World.cell?_of_block ((Below.new _ _).block _ (by simp))]
    exact cell_of_row _ _ 1 _ _ _ (heap_alloc_new w _)
  have c1 : w'.cell? ⟨w.heap.size, 0, none⟩ = some (.slice none 0 0) := by
    rw [hbw.cell (p := ⟨w.heap.size, 0, none⟩) (by simp; omega), World.cell?_of_block ((Below.new _ _).block _ (by simp))]
    exact cell_of_row _ _ 0 _ _ _ (heap_alloc_new w _)
  have hmm := @run_makeMap Tryz.prog
  clear hbw hb0
  go_wp2_with (go_at_call 22; refine (hbo _).mono ?_; rintro e w' ⟨rfl, rfl⟩)
  refine wp_loop_rounds 1 ?_
  rw [rounds_succ]
  go_wp2_with fail
  refine wp_loop_rounds 1 ?_
  rw [rounds_succ]
  go_wp2_with fail
  simp only [Jumps]
  go_ret
  exact ⟨rfl, hbx.out⟩
end Go.Proofs.YtahkpkaodeeemaaGreat
