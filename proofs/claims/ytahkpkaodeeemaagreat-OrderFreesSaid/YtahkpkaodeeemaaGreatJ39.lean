/- FreesL, laid together. -/
import Derived.Test.YtahkpkaodeeemaaGreatJ38
import Derived.Test.YtahkpkaodeeemaaGreatJ37
import Derived.Laws.BytesString
namespace Go.Proofs.YtahkpkaodeeemaaGreat
open Go.RowKit
set_option linter.unusedVariables false

theorem run_name {w : World} {g i : Nat} (h0 : w.cell? ⟨g, 0, none⟩ = some (.int .u8 102)) (h1 : w.cell? ⟨g, 1, none⟩ = some (.int .u8 (97 + i))) : (convert 38 9 (.slice (some ⟨g, 0, none⟩) 2 2)).run Tryz.prog w = .ok (.string ⟨(nameF i).toArray⟩) w := by
  rw [run_convert_bytes_string w 38 9 5 _ _ _ Tryz.underlying38 Tryz.underlying5 Tryz.underlying9, run_bytesToString w ⟨g, 0, none⟩ 2 2 [102, 97 + (i : Int)] (by simp [loadCells, loadCellsFrom, go_sem, h0, h1])]
  have e : ((97 + (i : Int)).toNat) = 97 + i := by omega
  simp only [List.foldl_cons, List.foldl_nil, e]
  rfl
/-- What the data hold. -/
def DataF (xs : List Int) (i : Nat) (vs cs : List Value) (W : World) : Prop :=
  (∀ (k : Nat) (u : Value) (e : Ent), vs[k]? = some u → (esF xs i)[k]? = some e → DataAt W u e.size) ∧ ∀ j, j < i → j % 2 ≠ 0 → ∃ A c, cs[j / 2]? = some (.slice A (512 * sizeF xs j) c) ∧ DataAt W (.slice A (512 * sizeF xs j) c) (512 * sizeF xs j)
def freeAs (b : Nat) (xs : List Int) (i : Nat) (nv fv av kv : Value) (vs cs : List Value) : List Asn :=
  [.box b 34 #[nv, fv], .sl 40 3 nv (esF xs i).length (nodeCells (esF xs i)), .sl 42 2 fv (esF xs i).length (fileCells (esF xs i) vs), insR av (actsF i), .sl 38 1 kv (i / 2) cs, .keep (DataF xs i vs cs)]
theorem esF_even {xs : List Int} {i : Nat} (h : i % 2 = 0) : esF xs (i + 1) = esF xs i ++ [entF xs i] := by
  unfold esF
  rw [List.range_succ, List.filter_append, List.map_append]
  simp [h]
theorem esF_odd {xs : List Int} {i : Nat} (h : ¬ i % 2 = 0) : esF xs (i + 1) = esF xs i := by
  unfold esF
  rw [List.range_succ, List.filter_append, List.map_append]
  simp [h]
theorem actsF_succ (i : Nat) : actsF (i + 1) = actsF i ++ [actF i] := by
  unfold actsF
  rw [List.range_succ, List.map_append]
  rfl
theorem dataF_even {xs : List Int} {i : Nat} {vs cs : List Value} {W : World} {u : Value} (h2 : i % 2 = 0) (hl : vs.length = (esF xs i).length) (h : DataF xs i vs cs W) (hu : DataAt W u (512 * sizeF xs i)) : DataF xs (i + 1) (vs ++ [u]) cs W := by
  refine ⟨fun k u2 e h3 h4 => ?_, fun j hj hj2 => h.2 j (by omega) hj2⟩
  rw [esF_even h2] at h4
  by_cases hk : k < vs.length
  · rw [List.getElem?_append_left hk] at h3
    rw [List.getElem?_append_left (by omega)] at h4
    exact h.1 k u2 e h3 h4
  · have hk2 : k = vs.length := by
      have := (List.getElem?_eq_some_iff.1 h3).1
      rw [List.length_append, List.length_singleton] at this
      omega
    subst hk2
    rw [List.getElem?_append_right (Nat.le_refl _), Nat.sub_self] at h3
    rw [hl, List.getElem?_append_right (Nat.le_refl _), Nat.sub_self] at h4
    simp at h3 h4
    subst h3 h4
    exact hu
theorem dataF_odd {xs : List Int} {i : Nat} {vs cs : List Value} {W : World} {A : Option Addr} {c : Nat} (h2 : ¬ i % 2 = 0) (hl : cs.length = i / 2) (h : DataF xs i vs cs W) (hu : DataAt W (.slice A (512 * sizeF xs i) c) (512 * sizeF xs i)) : DataF xs (i + 1) vs (cs ++ [.slice A (512 * sizeF xs i) c]) W := by
  refine ⟨fun k u2 e h3 h4 => h.1 k u2 e h3 (by rwa [esF_odd h2] at h4), fun j hj hj2 => ?_⟩
  by_cases hji : j = i
  · subst hji
    exact ⟨A, c, by rw [← hl, List.getElem?_append_right (Nat.le_refl _), Nat.sub_self]; rfl, hu⟩
  · obtain ⟨A2, c2, h3, h4⟩ := h.2 j (by omega) hj2
    exact ⟨A2, c2, by rw [List.getElem?_append_left (by omega)]; exact h3, h4⟩
theorem info_bytesT : (Tryz.prog.info? 38).map (fun i => (i.zero, i.size, i.bytes)) = some (some (.slice none 0 0), 1, 24) := by kernel_rfl
set_option maxRecDepth 100000 in
theorem frees_out {xs : List Int} {v : Value} {w : World} (hv : IntsAt w v xs) (h : 12 < xs.length) :
    Calls Tryz.prog 4 #[v] w fun e w' => e = .returned (.bool true) ∧ Below w.heap.size w w' := by
  have hal := Lib.hid (alive16_any w)
  obtain ⟨A, c, rfl, _⟩ := hv.shape
  have q1 : (12 : Int) < (xs.length : Int) := by omega
  clear hv h
  go_enter Tryz.func4, Tryz.ntmps4
  go_wp2_with (go_at_call 6; refine hal.out.mono ?_; rintro e w1 ⟨rfl, hb1⟩)
  go_ret
  exact ⟨rfl, hb1⟩
set_option maxRecDepth 100000 in
set_option maxHeartbeats 4000000 in
theorem frees_any {xs : List Int} {v : Value} {w : World} (hv : IntsAt w v xs) (h : xs.length ≤ 12) :
    Calls Tryz.prog 4 #[v] w fun e w' => e = .returned (.bool true) ∧ Below w.heap.size w w' := by
  have hal := Lib.hid (alive16_any w)
  obtain ⟨m0, hmf, hm0, hm1, hm2⟩ := info_parts info_byte
  obtain ⟨j0, hjnf, hj0, hj1, hj2⟩ := info_parts info_fileT
  obtain ⟨k0, hknf, hk0, hk1, hk2⟩ := info_parts info_nodeT
  obtain ⟨l0, hlnf, hl0, hl1, hl2⟩ := info_parts info_ins
  obtain ⟨e0, henf, he0, he1, he2⟩ := info_parts info_bytesT
  obtain ⟨A, c, rfl, _⟩ := hv.shape
  have q1 : ¬ (12 : Int) < (xs.length : Int) := by omega
  have hv' := Lib.hid hv
  clear hv
  go_enter Tryz.func4, Tryz.ntmps4
  go_wp2_with (go_at_call 6; refine hal.out.mono ?_; rintro e w1 ⟨rfl, hb1⟩; replace hb1 := Lib.hid hb1)
  have hS0 := ((((Sep.nil w).pure hb1.out).box_new 34 #[.slice none 0 0, .slice none 0 0]).sl_nil 40 3 |>.sl_nil 42 2 |>.sl_nil 26 5 |>.sl_nil 38 1)
  have hS1 : Sep w (w1.alloc (.cells #[.slice none 0 0, .slice none 0 0] 34)) (freeAs w1.heap.size xs 0 (.slice none 0 0) (.slice none 0 0) (.slice none 0 0) (.slice none 0 0) [] []) := by
    have h := Sep.sel [4, 3, 2, 1, 0] hS0 (by decide) (by simp)
    have h2 := Sep.keep (X := []) (P := DataF xs 0 [] []) h (fun _ _ _ => ⟨fun k u e hu _ => by simp at hu, fun j hj => by omega⟩)
    exact h2.sel [1, 2, 3, 4, 5, 0] (by decide) (by simp)
  have hS1' := Lib.hid hS1
  generalize hb : w1.heap.size = b at hS1' ⊢
  clear hS0 hS1 hb
  go_loopw [6, 7, 8] (fun av kv iv wr => ∃ (i : Nat) (nv fv : Value) (vs cs : List Value), i ≤ xs.length ∧ iv = .int .i64 i ∧ vs.length = (esF xs i).length ∧ cs.length = i / 2 ∧ (∀ j, j < i → 0 ≤ xs.getD j 0 ∧ xs.getD j 0 ≤ 16) ∧ Sep w wr (freeAs b xs i nv fv av kv vs cs)) (fun _ _ iv _ => xs.length - (intOf iv).toNat)
  case atStart => exact ⟨0, _, _, [], [], Nat.zero_le _, rfl, rfl, rfl, fun j hj => by omega, hS1'.out⟩
  case round =>
    clear hS1'
    obtain ⟨i, nv, fv, vs, cs, hi, rfl, hvl, hcl, hbd, hS⟩ := hrel
    by_cases hlt : i < xs.length
    · have q2 : (0 : Int) ≤ (i : Int) := by omega
      have q3 : (i : Int) < (xs.length : Int) := by omega
      obtain ⟨ad, c', e, hcell⟩ := (hv'.out.below hS.below).at_ hlt
      simp only [Value.slice.injEq] at e
      obtain ⟨rfl, _, rfl⟩ := e
      -- <<done
      by_cases hr : 0 ≤ xs[i] ∧ xs[i] ≤ 16
      · obtain ⟨r1, r2⟩ := hr
        obtain ⟨s, hs⟩ : ∃ s : Nat, xs[i] = (s : Int) := ⟨xs[i].toNat, by omega⟩
        have hsz : sizeF xs i = s := by unfold sizeF; rw [List.getD_eq_getElem?_getD, List.getElem?_eq_getElem hlt]; show (xs[i]).toNat = s; omega
        have hcell2 : (wr.alloc (.cells #[.int .u8 102, .int .u8 (97 + (i : Int))] 5)).cell? (ad.add i) = some (.int .i64 s) := by
          obtain ⟨ad2, c2, e2, hc2⟩ := (hv'.out.below (hS.alloc (.cells #[.int .u8 102, .int .u8 (97 + (i : Int))] 5)).below).at_ hlt
          simp only [Value.slice.injEq, Option.some.injEq] at e2
          rw [← hs, e2.1]
          exact hc2
        rw [hs] at hcell r1 r2
        have k1 : IntKind.i64.wrap (512 * (s : Int)) = 512 * (s : Int) := IntWalk.i64_in _ (by omega)
        have hmk := fun W : World => run_make_n (P := Tryz.prog) 38 5 m0 (.int .u8 0) 1 Tryz.underlying38 hmf hm0 hm1 hm2 rfl .i64 .i64 (512 * s) (by omega) (by unfold maxLen; omega) W
        rw [show ((512 * s : Nat) : Int) = 512 * (s : Int) by omega] at hmk
        have hcv := run_name (w := wr.alloc (.cells #[.int .u8 102, .int .u8 (97 + (i : Int))] 5)) (g := wr.heap.size) (i := i) ((hS.box_new 5 #[.int .u8 102, .int .u8 (97 + (i : Int))]).box_cell 0 rfl 0) ((hS.box_new 5 #[.int .u8 102, .int .u8 (97 + (i : Int))]).box_cell 0 rfl 1)
        obtain ⟨An, cn, rfl, _⟩ := (hS.rd 1 rfl).shape
        obtain ⟨Af, cf, rfl, _⟩ := (hS.rd 2 rfl).shape
        have hX := (hS.alloc (.cells #[.int .u8 102, .int .u8 (97 + (i : Int))] 5)).made 5 (.int .u8 0) (512 * s) (by unfold maxLen; omega)
        have b0 := hX.box_cell 1 rfl 0
        have b1 := hX.box_cell 1 rfl 1
        simp only [List.getElem?_toArray, List.getElem?_cons_zero, List.getElem?_cons_succ] at b0 b1
        have hX' := Lib.hid hX
        have hS' := Lib.hid hS
        have hlen : (esF xs i).length ≤ 12 := by
          unfold esF
          rw [List.length_map]
          have := List.length_filter_le (fun j => j % 2 == 0) (List.range i)
          rw [List.length_range] at this
          omega
        clear hX hS
        by_cases h2 : i % 2 = 0
        · have hY := Lib.hid (hX'.out.alloc (.cells #[.string ⟨(nameF i).toArray⟩, .int .i64 (esF xs i).length, .int .i64 0] 40))
          go_wp2_with (first
            | (at_builtin; refine wpList_append_sep 2 rfl _ _ 31 rfl 40 k0 _ 3 32 Tryz.underlying31 hknf hk0 hk1 hk2 rfl (by decide) hY.out (.slice An (esF xs i).length cn) (esF xs i).length (nodeCells (esF xs i)) rfl rfl ⟨wr.heap.size + 1 + 1, 0, none⟩ 1 1 [.string ⟨(nameF i).toArray⟩, .int .i64 (esF xs i).length, .int .i64 0] rfl rfl (cells_new _ _ _ _ (by simp)) (by simp [Value.oneCell']) (by decide) (by unfold maxLen; omega) (by omega) ?_)
            | fail)
          intro g1 n1 w2 hY2 hz2
          have y0 := hY2.box_cell 1 rfl 0
          have y1 := hY2.box_cell 1 rfl 1
          have z0 := hY2.box_frozen 1 rfl 0
          simp only [List.getElem?_toArray, List.getElem?_cons_zero, List.getElem?_cons_succ] at y0 y1
          have hY3 := hY2.box_stored 1 rfl 0 (.slice (some ⟨g1, 0, none⟩) ((esF xs i).length + 1) n1)
          have hY4 := Lib.hid (hY3.alloc (.cells #[.int .i64 384, .slice (some ⟨wr.heap.size + 1, 0, none⟩) (512 * s) (512 * s)] 42))
          clear hY2 hY3 hz2 hY
          go_wp2_with (first
            | (at_builtin; refine wpList_append_sep 3 rfl _ _ 32 rfl 42 j0 _ 2 32 Tryz.underlying32 hjnf hj0 hj1 hj2 rfl (by decide) hY4.out (.slice Af (esF xs i).length cf) (esF xs i).length (fileCells (esF xs i) vs) rfl rfl ⟨w2.heap.size, 0, none⟩ 1 1 [.int .i64 384, .slice (some ⟨wr.heap.size + 1, 0, none⟩) (512 * s) (512 * s)] rfl rfl (by have h := cells_new (w2.setCell ⟨b, 0, none⟩ (.slice (some ⟨g1, 0, none⟩) ((esF xs i).length + 1) n1)) #[.int .i64 384, .slice (some ⟨wr.heap.size + 1, 0, none⟩) (512 * s) (512 * s)] 42 w2.heap.size (by simp); simpa using h) (by simp [Value.oneCell']) (by decide) (by unfold maxLen; omega) (by omega) ?_)
            | fail)
          intro g2 n2 w3 hY5 hz5
          have y0 := hY5.box_cell 1 rfl 0
          have y1 := hY5.box_cell 1 rfl 1
          have z1 := hY5.box_frozen 1 rfl 1
          simp only [List.getElem?_toArray, List.getElem?_cons_zero, List.getElem?_cons_succ] at y0 y1
          have hY6 := hY5.box_stored 1 rfl 1 (.slice (some ⟨g2, 0, none⟩) ((esF xs i).length + 1) n2)
          have hY7 := Lib.hid (hY6.alloc (.cells #[.int .i64 5, .string ⟨(nameF i).toArray⟩, .string ⟨#[]⟩, .int .i64 0, .int .i64 0] 26))
          have hal2 : (actsF i).length = i := by simp [actsF]
          clear hY4 hY5 hY6 hz5
          go_wp2_with (first
            | (at_builtin; refine wpList_append_sep 4 rfl _ _ 23 rfl 26 l0 _ 5 56 Tryz.underlying23 hlnf hl0 hl1 hl2 rfl (by decide) hY7.out _ (actsF i).length (insCells (actsF i)) rfl rfl ⟨w3.heap.size, 0, none⟩ 1 1 [.int .i64 5, .string ⟨(nameF i).toArray⟩, .string ⟨#[]⟩, .int .i64 0, .int .i64 0] rfl rfl (by have h := cells_new (w3.setCell ⟨b, 1, none⟩ (.slice (some ⟨g2, 0, none⟩) ((esF xs i).length + 1) n2)) #[.int .i64 5, .string ⟨(nameF i).toArray⟩, .string ⟨#[]⟩, .int .i64 0, .int .i64 0] 26 w3.heap.size (by simp); simpa using h) (by simp [Value.oneCell']) (by decide) (by unfold maxLen; omega) (by omega) ?_)
            | fail)
          intro g3 n3 w4 hY8 hz8
          have hin : actF i = ⟨5, ⟨(nameF i).toArray⟩, ⟨#[]⟩, 0, 0⟩ := by unfold actF; rw [if_pos h2]
          have hY9 : Sep w w4 (freeAs b xs (i + 1) (.slice (some ⟨g1, 0, none⟩) ((esF xs i).length + 1) n1) (.slice (some ⟨g2, 0, none⟩) ((esF xs i).length + 1) n2) (.slice (some ⟨g3, 0, none⟩) (i + 1) n3) u7 (vs ++ [.slice (some ⟨wr.heap.size + 1, 0, none⟩) (512 * s) (512 * s)]) cs) := by
            have h8 := hY8
            unfold freeAs at h8
            simp only [List.set_cons_zero, List.set_cons_succ] at h8
            have h9 := Sep.sel [0, 6, 1, 2, 3, 4, 5] h8 (by decide) (by simp)
            simp only [List.map_cons, List.map_nil, List.take_succ_cons, List.take_zero, List.getD_cons_zero, List.getD_cons_succ, List.length_cons, List.length_nil, List.drop_succ_cons, List.drop_zero, List.append_nil] at h9
            have h10 := Sep.keep (X := [_, _]) (P := DataF xs (i + 1) (vs ++ [.slice (some ⟨wr.heap.size + 1, 0, none⟩) (512 * s) (512 * s)]) cs) h9 (fun w0' w' hX => dataF_even h2 hvl (hX.kept 1 rfl) (by rw [hsz]; exact ⟨_, hX.rd 0 rfl, fun u hu => by rw [List.mem_replicate] at hu; rw [hu.2]; rfl⟩))
            have h11 := Sep.sel [1, 2, 3, 4, 5, 0] h10 (by decide) (by simp)
            simp only [List.map_cons, List.map_nil, List.take_succ_cons, List.take_zero, List.getD_cons_zero, List.getD_cons_succ, List.length_cons, List.length_nil, List.drop_succ_cons, List.drop_zero, List.append_nil] at h11
            unfold freeAs insR
            rw [esF_even h2, actsF_succ, nodeCells_snoc, fileCells_snoc hvl, insCells_snoc, List.length_append, List.length_append, hal2, hin, show (i + 1) / 2 = i / 2 by omega]
            exact h11
          have hY9' := Lib.hid hY9
          clear hY7 hY8 hY9 hz8
          go_wp2_with fail
          case roundEnd =>
            refine ⟨⟨i + 1, _, _, vs ++ [.slice (some ⟨wr.heap.size + 1, 0, none⟩) (512 * s) (512 * s)], cs, by omega, by simp, ?_, by rw [hcl]; omega, fun j hj => ?_, hY9'.out⟩, ?_⟩
            · rw [esF_even h2, List.length_append, List.length_append, hvl]; rfl
            · by_cases hji : j = i
              · subst hji
                rw [List.getD_eq_getElem?_getD, List.getElem?_eq_getElem hlt]
                show 0 ≤ xs[j] ∧ xs[j] ≤ 16
                omega
              · exact hbd j (by omega)
            · simp only [intOf]
              omega
        · obtain ⟨Ak, ck, rfl, _⟩ := (hX'.out.rd 5 rfl).shape
          obtain ⟨m, hm⟩ : ∃ m : Nat, i / 2 = m := ⟨_, rfl⟩
          have hm' := Lib.hid hm
          have hin : actF i = ⟨6, ⟨(nameF i).toArray⟩, ⟨#[]⟩, 384, m⟩ := by unfold actF; rw [if_neg h2, hm]
          have hin' := Lib.hid hin
          unfold freeAs at hX'
          rw [hm] at hX' hcl ⊢
          clear hin hm
          have hm12 : m ≤ 12 := by have := hm'.out; omega
          have hY := Lib.hid (hX'.out.alloc (.cells #[.int .i64 6, .string ⟨(nameF i).toArray⟩, .string ⟨#[]⟩, .int .i64 384, .int .i64 m] 26))
          have hal2 : (actsF i).length = i := by simp [actsF]
          go_wp2_with (first
            | (at_builtin; refine wpList_append_sep 4 rfl _ _ 23 rfl 26 l0 _ 5 56 Tryz.underlying23 hlnf hl0 hl1 hl2 rfl (by decide) hY.out _ (actsF i).length (insCells (actsF i)) rfl rfl ⟨wr.heap.size + 1 + 1, 0, none⟩ 1 1 [.int .i64 6, .string ⟨(nameF i).toArray⟩, .string ⟨#[]⟩, .int .i64 384, .int .i64 m] rfl rfl (cells_new _ _ _ _ (by simp)) (by simp [Value.oneCell']) (by decide) (by unfold maxLen; omega) (by omega) ?_)
            | fail)
          intro g1 n1 w2 hY2 hz2
          have hY4 := Lib.hid (hY2.alloc (.cells #[.slice (some ⟨wr.heap.size + 1, 0, none⟩) (512 * s) (512 * s)] 38))
          clear hY2 hz2 hY
          go_wp2_with (first
            | (at_builtin; refine wpList_append_sep 5 rfl _ _ 37 rfl 38 e0 _ 1 24 Tryz.underlying37 henf he0 he1 he2 rfl (by decide) hY4.out (.slice Ak m ck) m cs rfl rfl ⟨w2.heap.size, 0, none⟩ 1 1 [.slice (some ⟨wr.heap.size + 1, 0, none⟩) (512 * s) (512 * s)] rfl rfl (cells_new _ _ _ _ (by simp)) (by simp [Value.oneCell']) (by decide) (by unfold maxLen; omega) (by omega) ?_)
            | fail)
          intro g2 n2 w3 hY5 hz5
          have hY9 : Sep w w3 (freeAs b xs (i + 1) (.slice An (esF xs i).length cn) (.slice Af (esF xs i).length cf) (.slice (some ⟨g1, 0, none⟩) (i + 1) n1) (.slice (some ⟨g2, 0, none⟩) (m + 1) n2) vs (cs ++ [.slice (some ⟨wr.heap.size + 1, 0, none⟩) (512 * s) (512 * s)])) := by
            have h8 := hY5
            have h9 := Sep.sel [0, 6, 1, 2, 3, 4, 5] h8 (by decide) (by simp)
            simp only [List.map_cons, List.map_nil, List.take_succ_cons, List.take_zero, List.getD_cons_zero, List.getD_cons_succ, List.length_cons, List.length_nil, List.drop_succ_cons, List.drop_zero, List.append_nil] at h9
            have h10 := Sep.keep (X := [_, _]) (P := DataF xs (i + 1) vs (cs ++ [.slice (some ⟨wr.heap.size + 1, 0, none⟩) (512 * s) (512 * s)])) h9 (fun w0' w' hX => by
              have hd := hX.rd 0 rfl
              rw [← hsz] at hd ⊢
              exact dataF_odd h2 (by rw [hcl, hm'.out]) (hX.kept 1 rfl) ⟨_, hd, fun u hu => by rw [List.mem_replicate] at hu; rw [hu.2]; rfl⟩)
            have h11 := Sep.sel [1, 2, 3, 4, 5, 0] h10 (by decide) (by simp)
            simp only [List.map_cons, List.map_nil, List.take_succ_cons, List.take_zero, List.getD_cons_zero, List.getD_cons_succ, List.length_cons, List.length_nil, List.drop_succ_cons, List.drop_zero, List.append_nil] at h11
            unfold freeAs insR
            rw [esF_odd h2, actsF_succ, insCells_snoc, List.length_append, hal2, hin'.out, show (i + 1) / 2 = m + 1 by have := hm'.out; omega]
            exact h11
          have hY9' := Lib.hid hY9
          clear hY4 hY5 hY9 hz5
          go_wp2_with fail
          case roundEnd =>
            refine ⟨⟨i + 1, _, _, vs, cs ++ [.slice (some ⟨wr.heap.size + 1, 0, none⟩) (512 * s) (512 * s)], by omega, by simp, ?_, ?_, fun j hj => ?_, hY9'.out⟩, ?_⟩
            · rw [esF_odd h2]; exact hvl
            · rw [List.length_append, hcl]; have := hm'.out; simp; omega
            · by_cases hji : j = i
              · subst hji
                rw [List.getD_eq_getElem?_getD, List.getElem?_eq_getElem hlt]
                show 0 ≤ xs[j] ∧ xs[j] ≤ 16
                omega
              · exact hbd j (by omega)
            · simp only [intOf]
              omega
      · have hS' := Lib.hid hS
        clear hS
        by_cases hng : xs[i] < 0
        · go_wp2_with fail
          go_ret
          exact ⟨rfl, hS'.out.below⟩
        · have hgt : 16 < xs[i] := by omega
          go_wp2_with fail
          go_ret
          exact ⟨rfl, hS'.out.below⟩
      -- done>>
    · obtain rfl : i = xs.length := by omega
      have hd := hS.kept 5 rfl
      have hx : ∀ j, sizeF xs j ≤ 16 := fun j => by
        by_cases hj : j < xs.length
        · have := hbd j hj
          unfold sizeF
          omega
        · unfold sizeF
          rw [List.getD_eq_getElem?_getD, List.getElem?_eq_none (by omega)]
          decide
      have hfl : FlatAt wr nv fv (esF xs xs.length) vs := ⟨hvl, hS.rd 1 rfl, hS.rd 2 rfl, hd.1⟩
      have hia : InsAt wr u6 (actsF xs.length) := hS.ins 3 rfl
      have hrs : Rd wr 1 u7 cs.length cs := by rw [hcl]; exact hS.rd 4 rfl
      have hal2 : (actsF xs.length).length = xs.length := by simp [actsF]
      obtain ⟨Ak, ck, rfl, _⟩ := hrs.shape
      obtain ⟨Aa, ca, ea, _⟩ := hia.shape
      rw [hal2] at ea
      subst ea
      obtain ⟨ns, hsel, hnl, hna, hnp⟩ := selF (grF xs) xs.length
      have hT := fun (W : World) (hW : Below wr.heap.size wr W) (vn : Value) (hn : RowsAt W vn (List.replicate xs.length [])) => order_thrift hn (by omega) (nils_ok (by omega)) (nils_none (by omega)) (hfl.below hW) hal2 (hia.below hW) (stepsF h hx (hrs.below hW) (fun j hj hj2 => by obtain ⟨A, c, h1, h2⟩ := hd.2 j hj hj2; exact ⟨A, c, h1, h2.below hW⟩)) (inv_start h hx)
      simp only [hsel] at hT
      obtain ⟨i1, hi1, hz10, hz11, hz12⟩ := info_parts info_rowsQ
      have hmk1 := fun W : World => run_make_n (P := Tryz.prog) 24 27 i1 (.slice none 0 0) 24 Tryz.underlying24 hi1 hz10 hz11 hz12 rfl .i64 .i64 xs.length (by omega) (by unfold maxLen; omega) W
      have hE0 : wr.drew.cell? ⟨b, 0, none⟩ = some nv ∧ wr.drew.cell? ⟨b, 1, none⟩ = some fv := ⟨hS.box_cell 0 rfl 0, hS.box_cell 0 rfl 1⟩
      have hMade := ((hS.drew.made 27 (.slice none 0 0) xs.length (by unfold maxLen; omega)).nils xs.length)
      have hRows : RowsAt (wr.drew.alloc (.cells (madeCells #[.slice none 0 0] xs.length) 27)) (.slice (some ⟨wr.heap.size, 0, none⟩) xs.length xs.length) (List.replicate xs.length []) := by
        have h1 : Sep w (wr.drew.alloc (.cells (madeCells #[.slice none 0 0] xs.length) 27)) (.sl 27 1 (.slice (some ⟨wr.heap.size, 0, none⟩) xs.length xs.length) (List.replicate xs.length ([] : List Int)).length (List.replicate xs.length (.slice none 0 0)) :: (List.zipWith intsR (List.replicate xs.length (.slice none 0 0)) (List.replicate xs.length []) ++ freeAs b xs xs.length nv fv (.slice Aa xs.length ca) (.slice Ak cs.length ck) vs cs)) := by
          rw [List.length_replicate]
          exact hMade.perm (List.Perm.cons _ List.perm_append_comm)
        have h2 := Sep.list_shut (vs := List.replicate xs.length (.slice none 0 0)) (by simp) h1
        exact h2.rows 0 rfl
      have hB1 : Below wr.heap.size wr (wr.drew.alloc (.cells (madeCells #[.slice none 0 0] xs.length) 27)) := (Below.refl _ _).drew.alloc (Nat.le_refl _) _
      have hE1 : (wr.drew.alloc (.cells (madeCells #[.slice none 0 0] xs.length) 27)).cell? ⟨b, 0, none⟩ = some nv ∧ (wr.drew.alloc (.cells (madeCells #[.slice none 0 0] xs.length) 27)).cell? ⟨b, 1, none⟩ = some fv := ⟨(hS.pure hB1).box_cell 0 rfl 0, (hS.pure hB1).box_cell 0 rfl 1⟩
      have hT1 := Lib.hid (hT _ hB1 _ hRows)
      have hS' := Lib.hid hS
      have hbd' := Lib.hid hbd
      have hna' := Lib.hid hna
      have hnp' := Lib.hid hnp
      have hnl' := Lib.hid hnl
      have hia' := Lib.hid hia
      clear hT hRows hMade hS hd hx hfl hrs hsel hbd hna hnp hnl hcl hvl hia hi
      go_wp2_with fail
      refine wp_region_E (S := fun w' => w'.cell? ⟨b, 0, none⟩ = some nv ∧ w'.cell? ⟨b, 1, none⟩ = some fv) 10 (by kernel_rfl) ?_
      simp only [List.size_toArray, List.length_cons, List.length_nil, Nat.reduceAdd]
      refine wpE_take (i := 0) (v := ?_) rfl (by kernel_rfl) (by kernel_rfl) (by kernel_rfl) (by kernel_rfl) (fun _ _ _ h => h) (Or.inl ⟨by rfl, ?_⟩) hE0 ?_
      rotate_left
      · intro w hw; obtain ⟨e1, e2⟩ := hw; go_simp
        try with_reducible rfl
      simp only [Act.put]
      try simp only [List.setIfInBounds_toArray]
      refine wpE_take (i := 1) (v := ?_) rfl (by kernel_rfl) (by kernel_rfl) (by kernel_rfl) (by kernel_rfl) (fun _ _ _ h => h) (Or.inl ⟨by rfl, ?_⟩) hE0 ?_
      rotate_left
      · intro w hw; obtain ⟨e1, e2⟩ := hw; go_simp
        try with_reducible rfl
      simp only [Act.put]
      try simp only [List.setIfInBounds_toArray]
      refine wpE_take (i := 2) (v := ?_) rfl (by kernel_rfl) (by kernel_rfl) (by kernel_rfl) (by kernel_rfl) (fun _ _ _ h => h) (Or.inl ⟨by rfl, ?_⟩) hE0 ?_
      rotate_left
      · intro w hw; obtain ⟨e1, e2⟩ := hw; go_simp
        try with_reducible rfl
      simp only [Act.put]
      try simp only [List.setIfInBounds_toArray]
      refine wpE_take (i := 4) (v := ?_) rfl (by kernel_rfl) (by kernel_rfl) (by kernel_rfl) (by kernel_rfl) (fun _ _ _ h => h) (Or.inl ⟨by rfl, ?_⟩) hE0 ?_
      rotate_left
      · intro w hw; obtain ⟨e1, e2⟩ := hw; go_simp
        try with_reducible rfl
      simp only [Act.put]
      try simp only [List.setIfInBounds_toArray]
      refine wpE_one (i := 3) (by kernel_rfl) rfl (fun K hK => ?_)
      go_simp
      refine hK _ _ (fun _ => hE1) ?_
      clear hK K
      try simp only [Act.put]
      try simp only [List.setIfInBounds_toArray]
      refine wpE_one (i := 5) (by kernel_rfl) rfl (fun K hK => ?_)
      go_simp
      go_at_call 7
      refine hT1.out.mono ?_
      rintro e w2 ⟨v, rfl, hS2⟩
      have hB2 : Below wr.heap.size wr w2 := hB1.trans (hS2.below.mono hB1.size)
      have hSw := hS'.out.pure hB2
      have hE2 : w2.cell? ⟨b, 0, none⟩ = some nv ∧ w2.cell? ⟨b, 1, none⟩ = some fv := ⟨hSw.box_cell 0 rfl 0, hSw.box_cell 0 rfl 1⟩
      have hL := hS2.ints 0 rfl
      obtain ⟨AL, cL, ev, _⟩ := hL.shape
      rw [List.length_map, hnl'.out] at ev
      subst ev
      have hL' := Lib.hid hL
      have hI2 := Lib.hid (hia'.out.below hB2)
      have hBw := Lib.hid hSw.below
      dsimp only
      refine hK _ _ (fun _ => hE2) ?_
      clear hK K
      try simp only [Act.put]
      try simp only [List.setIfInBounds_toArray]
      clear hS2 hL hSw hB2 hB1 hE1 hE0 hS' hia' hmk1
      refine wpE_one (i := 6) (by kernel_rfl) rfl (fun K hK => ?_)
      go_simp
      refine hK _ _ (fun _ => hE2) ?_
      clear hK K
      try simp only [Act.put]
      try simp only [List.setIfInBounds_toArray]
      refine wpE_take (i := 7) (v := ?_) rfl (by kernel_rfl) (by kernel_rfl) (by kernel_rfl) (by kernel_rfl) (fun _ _ _ h => h) (Or.inl ⟨by rfl, ?_⟩) hE2 ?_
      rotate_left
      · intro w hw; obtain ⟨e1, e2⟩ := hw; go_simp
        try with_reducible rfl
      simp only [Act.put]
      try simp only [List.setIfInBounds_toArray]
      refine wpE_take (i := 8) (v := ?_) rfl (by kernel_rfl) (by kernel_rfl) (by kernel_rfl) (by kernel_rfl) (fun _ _ _ h => h) (Or.inl ⟨by rfl, ?_⟩) hE2 ?_
      rotate_left
      · intro w hw; obtain ⟨e1, e2⟩ := hw; go_simp
        try with_reducible rfl
      simp only [Act.put]
      try simp only [List.setIfInBounds_toArray]
      refine wpE_one (i := 9) (by kernel_rfl) rfl (fun K hK => ?_)
      go_simp
      refine hK _ _ (fun _ => hE2) ?_
      clear hK K
      try simp only [Act.put]
      try simp only [List.setIfInBounds_toArray]
      refine wpE_one (i := 10) (by kernel_rfl) rfl (fun K hK => ?_)
      go_simp
      refine hK _ _ (fun h => absurd rfl h) ?_
      clear hK K
      try simp only [Act.put]
      try simp only [List.setIfInBounds_toArray]
      refine wpE_done (by kernel_rfl) ?_ _
      clear hE2
      go_wp2_with (first
        | (go_at_call 8; refine (num_any16 _ _).mono ?_; rintro e w3 ⟨rfl, rfl⟩)
        | fail)
      go_loopw [13] (fun jj wz => ∃ k : Nat, jj = .int .i64 (k + 1) ∧ Below w2.heap.size w2 wz) (fun jj _ => xs.length - (intOf jj).toNat)
      case atStart => exact ⟨0, rfl, Below.refl _ _⟩
      case round =>
        obtain ⟨k, rfl, hB⟩ := hrel
        by_cases hlt : k + 1 < xs.length
        · have hB' := Lib.hid hB
          have hbf := hBw.out.trans (hB.mono hBw.out.size)
          have hl1 : k < ns.length := by rw [hnl'.out]; omega
          have hl2 : k + 1 < ns.length := by rw [hnl'.out]; omega
          have hAh := List.pairwise_iff_getElem.1 hnp'.out k (k + 1) hl1 hl2 (by omega)
          have hma := hna'.out _ (List.getElem_mem hl1)
          have hmb := hna'.out _ (List.getElem_mem hl2)
          obtain ⟨gL, oL, cL', eL, _, _, _, hcL⟩ := Rd.place hL'.out (by rw [List.length_map]; omega) (by decide)
          simp only [Value.slice.injEq] at eL
          obtain ⟨rfl, hz, rfl⟩ := eL
          clear hz
          obtain ⟨adx, cx', ex, hcx⟩ := hv'.out.alls (by omega)
          simp only [Value.slice.injEq] at ex
          obtain ⟨rfl, _, rfl⟩ := ex
          have cL0 := hcL wr hB k (by rw [List.length_map]; omega)
          have cL1 := hcL wr hB (k + 1) (by rw [List.length_map]; omega)
          rw [List.getElem?_map, List.getElem?_map, List.getElem?_eq_getElem (by assumption)] at cL0 cL1
          simp only [Option.map_some] at cL0 cL1
          generalize ns[k] = a0 at cL0 hAh hma
          generalize ns[k + 1] = a1 at cL1 hAh hmb
          obtain ⟨ga, oa, ca', ei, _, _, _, hci⟩ := Rd.place hI2.out (by rw [hal2]; omega) (by decide)
          rw [hal2] at ei hci
          simp only [Value.slice.injEq] at ei
          obtain ⟨rfl, _, rfl⟩ := ei
          have hop : ∀ a, a < xs.length → wr.cell? ⟨ga, oa + a * 5, none⟩ = some (.int .i64 (if a % 2 = 0 then 5 else 6)) := fun a hlt => by
            have h1 := hci wr hB (a * 5 + 0) (by omega)
            rw [insCells_at (x := actF a) (by simp [actsF, hlt]) 0 (by omega), Nat.add_zero] at h1
            rw [h1]
            unfold actF
            split <;> rfl
          have hp0 := hop a0 hma
          have hp1 := hop a1 hmb
          have hx0 := hcx wr hbf a0 hma
          have hx1 := hcx wr hbf a1 hmb
          have hr0 := hbd'.out a0 hma
          have hr1 := hbd'.out a1 hmb
          have hg := ahead_grows hr0.1 hr1.1 hAh
          have eg0 : xs.getD a0 0 = xs[a0] := by rw [List.getD_eq_getElem?_getD, List.getElem?_eq_getElem hma]; rfl
          have eg1 : xs.getD a1 0 = xs[a1] := by rw [List.getD_eq_getElem?_getD, List.getElem?_eq_getElem hmb]; rfl
          rw [eg0] at hr0 hg
          rw [eg1] at hr1 hg
          have hga := fun W => grows_any xs[a0] (if a0 % 2 = 0 then 5 else 6) hr0.1 (by omega) W
          have hgb := fun W => grows_any xs[a1] (if a1 % 2 = 0 then 5 else 6) hr1.1 (by omega) W
          generalize (if a0 % 2 = 0 then (5 : Int) else 6) = p0 at hp0 hg hga
          generalize (if a1 % 2 = 0 then (5 : Int) else 6) = p1 at hp1 hg hgb
          generalize xs[a0] = s0 at hx0 hg hga
          generalize xs[a1] = s1 at hx1 hg hgb
          generalize growsP s0 p0 = g0 at hg hga
          generalize growsP s1 p1 = g1 at hg hgb
          have hga' := Lib.hid hga
          have hgb' := Lib.hid hgb
          have q1 : (0 : Int) ≤ (k : Int) := by omega
          have q2 : (k : Int) + 1 < (xs.length : Int) := by omega
          have q3 : (k : Int) < (xs.length : Int) := by omega
          have q4 : (0 : Int) ≤ (a0 : Int) := by omega
          have q5 : (0 : Int) ≤ (a1 : Int) := by omega
          have q6 : (a0 : Int) < (xs.length : Int) := by omega
          have q7 : (a1 : Int) < (xs.length : Int) := by omega
          have q8 : (0 : Int) ≤ (k : Int) + 1 := by omega
          have q9 : ((k : Int) + 1).toNat = k + 1 := by omega
          clear hr0 hr1 hop hci hcx hcL hB eg0 eg1 hga hgb hl1 hl2 hal2 hAh hnl' hnp' hna' hL' hI2
          have hbf' := Lib.hid hbf
          have hg' := Lib.hid hg
          clear hbf hg
          go_wp2_with fail
          refine wp_quiet_tail 17 (by kernel_rfl) (by kernel_rfl) ?_
          simp only [List.take_succ_cons, List.take_zero, List.drop_succ_cons, List.drop_zero]
          repeat (go_big_quiet_step (fail))
          refine wpQuiet_nil ?_
          rintro _ ⟨n3, rfl⟩
          go_wp2_with (go_at_call 9; refine (hga'.out _).mono ?_; rintro e w3 ⟨rfl, rfl⟩)
          refine wp_quiet_tail 15 (by kernel_rfl) (by kernel_rfl) ?_
          simp only [List.take_succ_cons, List.take_zero, List.drop_succ_cons, List.drop_zero]
          repeat (go_big_quiet_step (fail))
          refine wpQuiet_nil ?_
          rintro _ ⟨n4, rfl⟩
          go_wp2_with (go_at_call 9; refine (hgb'.out _).mono ?_; rintro e w3 ⟨rfl, rfl⟩)
          rcases hg'.out with hlt2 | ⟨rfl, hlt2⟩
          · have hn1 : ¬ g1 < g0 := by omega
            have hn2 : ¬ g0 = g1 := by omega
            clear hg'
            go_quiet (fail)
            go_wp2_with fail
            exact ⟨⟨k + 1, by go_num, (((Sep.nil w2).pure hB'.out).drewN _).below⟩, by simp only [intOf]; omega⟩
          · have hn1 : ¬ (a1 : Int) < (a0 : Int) := by omega
            clear hg'
            go_quiet (fail)
            go_wp2_with fail
            exact ⟨⟨k + 1, by go_num, (((Sep.nil w2).pure hB'.out).drewN _).below⟩, by simp only [intOf]; omega⟩
        · have hge : ¬ (k : Int) + 1 < (xs.length : Int) := by omega
          have hbf := hBw.out.trans (hB.mono hBw.out.size)
          go_wp2_with fail
          go_ret
          exact ⟨rfl, hbf⟩
end Go.Proofs.YtahkpkaodeeemaaGreat
