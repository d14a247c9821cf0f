/- Parted2, laid together. -/
import Derived.Test.YtahkpkaodeeemaaGreatJ8
namespace Go.Proofs.YtahkpkaodeeemaaGreat
open Go.RowKit
set_option linter.unusedVariables false
open Tarjan (St Inv upd)

theorem good_of {xss : List (List Int)} {s : St} {act : Bool} (h : Inv (adjOf xss) xss.length s [] [] act) (hall : ∀ v, v < xss.length → 0 < s.seen v) : Good xss s.of s.count where
  lo := h.done hall
  hi := h.cnt
  needs := fun v hv u hu => (h.clos v (h.done hall v hv) u hu).2
  scc := fun u v hu _ e => h.scc u v (h.done hall u hu) e
  full := fun c hc => by
    obtain ⟨v, hv⟩ := h.full c hc
    exact ⟨v, h.dom v (h.vis v (by omega)), hv⟩
  le := h.bounds.2.2.2

def zeros (g n : Nat) : Asn := .sl 3 1 (.slice (some ⟨g, 0, none⟩) n n) n (List.replicate n (.int .i64 0))
theorem zeros_arr (g n : Nat) : zeros g n = arr g n (fun _ => 0) := by
  rw [zeros, arr]
  congr 1
  apply List.ext_getElem?
  intro i
  by_cases hi : i < n <;> simp [hi]

set_option maxRecDepth 100000 in
set_option maxHeartbeats 1000000 in
theorem parted_any {xss : List (List Int)} {w : World} {nv : Value} (hx : refused xss = 0) (hn : RowsAt w nv xss) :
    Calls Tryz.prog 46 #[nv] w fun e w' => ∃ go of count, e = .returned (.tuple #[.slice (some ⟨go, 0, none⟩) xss.length xss.length, .int .i64 (count : Nat)]) ∧ Sep w w' [arr go xss.length of] ∧ Good xss of count := by
  obtain ⟨hl, hrow, hgood⟩ := refused_zero hx
  obtain ⟨i0, hi, hz0, hz1, hz2⟩ := info_parts info_int
  obtain ⟨A, c, rfl, hmax⟩ := hn.shape
  clear hmax
  have hmk := fun W : World => run_make_n (P := Tryz.prog) 27 3 i0 (.int .i64 0) 8 Tryz.underlying27 hi hz0 hz1 hz2 rfl .i64 .i64 xss.length (by omega) (by unfold maxLen; omega) W
  go_enter Tryz.func46, Tryz.ntmps46
  go_wp2_with fail
  have hskip : ∀ (c : Code) (Q : Exit → Act → World → Prop) a w', c.wp Tryz.prog Q a w' → (Code.seq .skip c).wp Tryz.prog Q a w' := fun c Q a w' h => wp_seq (wp_skip h)
  have hQ : ∀ gs gl go bd bo ac' w' s' i8' fv' kv' act', Fm 175 ac' (ksR (.slice A xss.length c) i8' fv' kv' xss.length s'.count s'.now xss.length gs gl go bd bo) → PS w w' xss.length s' [] [] gs gl go bd bo → Inv (adjOf xss) xss.length s' [] [] act' → (∀ v, v < xss.length → 0 < s'.seen v) → bodyPost Tryz.prog Tryz.f46 (fun e w' => ∃ go of count, e = .returned (.tuple #[.slice (some ⟨go, 0, none⟩) xss.length xss.length, .int .i64 (count : Nat)]) ∧ Sep w w' [arr go xss.length of] ∧ Good xss of count) .ret ac' w' := by
    intro gs gl go bd bo ac' w' s' i8' fv' kv' act' hf hP hI hall
    obtain ⟨f, rfl⟩ := hf.lit (m := 159) rfl
    simp only [ksR, lits, Nat.reduceAdd, List.cons_append, List.nil_append]
    go_ret2
    obtain ⟨dv, ov, hS⟩ := hP
    exact ⟨go, s'.of, s'.count, rfl, Sep.drop 6 (Sep.sel [0, 1, 3, 4, 5, 6, 2] hS (by decide) (by simp)), good_of hI hall⟩
  have hQ' := Lib.hid hQ
  clear hQ
  refine wp_scope_labels (fun l => .seq .skip (partedAt l)) (fun m l a w' => ∃ gs gl go bd bo, JP xss w (.slice A xss.length c) gs gl go bd bo m l a w') ?_ ?_ ?_
  · rintro m l a w' ⟨gs, gl, go, bd, bo, s, O, D, act, root, i8, fv, kv, _, _, _, _, h⟩
    rcases h with ⟨rfl, _⟩ | ⟨rfl, _⟩ | ⟨rfl, _⟩
    · rfl
    · rfl
    · rfl
  · go_wp2_with fail
    rename_i K hK
    have hmain : ∀ gs gl go a' w', Fm 175 a' [.slice A xss.length c, undef, .slice none 0 0, .int .i64 0, .int .i64 xss.length, .slice (some ⟨gs, 0, none⟩) xss.length xss.length, .slice (some ⟨gl, 0, none⟩) xss.length xss.length, .slice (some ⟨go, 0, none⟩) xss.length xss.length] →
        Sep w w' [zeros gs xss.length, zeros gl xss.length, zeros go xss.length] → K a' w' := by
      intro gs gl go a' w' hf hS
      apply hK
      clear hK
      obtain ⟨f, rfl⟩ := hf.lit (m := 167) rfl
      simp only [lits, Nat.reduceAdd, List.cons_append, List.nil_append]
      rw [zeros_arr, zeros_arr, zeros_arr] at hS
      have hx' := Lib.hid hx
      have hn' := Lib.hid hn
      have hg' := Lib.hid hgood
      have hr' := Lib.hid hrow
      clear hx hn hgood hrow hf hskip hmk
      go_wp2_with fail
      go_loopg [8, 26] xss.length (fun m i8 i wr => ∃ k : Nat, k ≤ xss.length ∧ Hid (m = xss.length - k) ∧ i = .int .i64 k ∧ Sep w wr [arr gs xss.length (fun _ => 0), arr gl xss.length (fun _ => 0), arr go xss.length (fun v => if v < k then -1 else 0)])
      case atStart => exact ⟨0, Nat.zero_le _, rfl, rfl, by simpa using hS⟩
      case round =>
        obtain ⟨k, hk, hm, rfl, hT⟩ := hrel
        by_cases hlt : k < xss.length
        · have a0 := arr_at 2 hT rfl k hlt
          have a1 := Sep.frozenAt 2 hT rfl k
          have hT2 := hT.stored 2 rfl k (.int .i64 (-1))
          simp only [List.set_cons_succ, List.set_cons_zero] at hT2
          rw [arr_set] at hT2
          have b1 : (k : Int) < (xss.length : Int) := by omega
          have b2 : (0 : Int) ≤ (k : Int) := by omega
          go_wp2_with fail
          go_roundg (xss.length - (k + 1))
          case measure => rw [hm.out]; omega
          case rel =>
            refine ⟨k + 1, by omega, rfl, by go_num, ?_⟩
            have e : upd (fun v => if v < k then (-1 : Int) else 0) k (-1) = fun v => if v < k + 1 then (-1 : Int) else 0 := by
              funext v
              simp only [upd]
              by_cases h1 : v = k
              · subst h1; simp
              · rw [if_neg h1]
                by_cases h2 : v < k
                · rw [if_pos h2, if_pos (by omega)]
                · rw [if_neg h2, if_neg (by omega)]
            rw [e] at hT2
            exact hT2
        · obtain rfl : k = xss.length := by omega
          go_upto_region 13 with (fail)
          iterate 7 go_step
          refine wp_seq (wp_label ?_)
          have hP : PS w ((wr.alloc (.cells #[.slice none 0 0] 128)).alloc (.cells #[.slice none 0 0] 130)) xss.length ⟨fun _ => 0, fun _ => 0, fun _ => -1, 0, 0⟩ [] [] gs gl go wr.heap.size (wr.heap.size + 1) := by
            have e : arr go xss.length (fun v => if v < xss.length then (-1 : Int) else 0) = arr go xss.length (fun _ => -1) := by
              rw [arr, arr]
              congr 1
              apply List.map_congr_left
              intro v hv
              rw [if_pos (List.mem_range.1 hv)]
            rw [e] at hT
            have h1 := ((hT.box_new 128 #[.slice none 0 0]).box_new 130 #[.slice none 0 0])
            have h2 := (h1.sl_nil 3 1).sl_nil 134 2
            rw [show (wr.alloc (.cells #[.slice none 0 0] 128)).heap.size = wr.heap.size + 1 by simp] at h2
            exact ⟨.slice none 0 0, .slice none 0 0, h2.sel [4, 5, 6, 3, 0, 2, 1] (by decide) (by simp)⟩
          refine wp_mono (next_pass (root := -1) hx'.out hn'.out (i8 := u8) (fv := .pointer none) (kv := .int .i64 0) ⟨rfl, rfl, rfl⟩ hP (Tarjan.inv_start _ _ _) rfl (by omega) (by omega) (fun v hv => by omega) (hQ'.out gs gl go _ _)) (Jumps.mono fun l a w ⟨m', e1, e2⟩ => ⟨m', gs, gl, go, _, _, e2⟩)
    have hb : xss.length ≤ maxLen := by unfold maxLen; omega
    have hT : Sep w ((((w.alloc (.cells (madeCells #[.int .i64 0] xss.length) 3)).alloc (.cells (madeCells #[.int .i64 0] xss.length) 3)).alloc (.cells (madeCells #[.int .i64 0] xss.length) 3)).drew) [zeros (w.heap.size + 2) xss.length, zeros (w.heap.size + 1) xss.length, zeros w.heap.size xss.length] := by
      have h1 := ((((Sep.nil w).made 3 (.int .i64 0) _ hb).made 3 (.int .i64 0) _ hb).made 3 (.int .i64 0) _ hb).drew
      simp only [World.size_alloc] at h1
      exact h1
    have hT' := Lib.hid hT
    have hm' := Lib.hid hmain
    clear hT hmain hK
    go_region
    all_goals first
      | exact hm'.out _ _ _ _ _ ⟨rfl, rfl, rfl⟩ (Sep.sel [2, 1, 0] hT'.out (by decide) (by simp))
      | exact hm'.out _ _ _ _ _ ⟨rfl, rfl, rfl⟩ (Sep.sel [0, 1, 2] hT'.out (by decide) (by simp))
      | exact hm'.out _ _ _ _ _ ⟨rfl, rfl, rfl⟩ (Sep.sel [0, 2, 1] hT'.out (by decide) (by simp))
      | exact hm'.out _ _ _ _ _ ⟨rfl, rfl, rfl⟩ (Sep.sel [1, 0, 2] hT'.out (by decide) (by simp))
      | exact hm'.out _ _ _ _ _ ⟨rfl, rfl, rfl⟩ (Sep.sel [1, 2, 0] hT'.out (by decide) (by simp))
      | exact hm'.out _ _ _ _ _ ⟨rfl, rfl, rfl⟩ (Sep.sel [2, 0, 1] hT'.out (by decide) (by simp))
  · rintro m l a w' ⟨gs, gl, go, bd, bo, s, O, D, act, root, i8, fv, kv, hf, hP, hI, hm, h⟩
    refine hskip _ _ _ _ ?_
    rcases h with ⟨rfl, rfl, h1, h2, h3⟩ | ⟨rfl, h1, h2, k, rfl, h3, h4, h5, h6⟩ | ⟨rfl, h1, rfl, h2, h3, h4⟩
    · exact wp_mono (next_pass hx hn hf hP hI hm h1 h2 h3 (hQ'.out gs gl go bd bo)) (Jumps.mono fun l a w ⟨m', e1, e2⟩ => ⟨m', e1, gs, gl, go, bd, bo, e2⟩)
    · exact wp_mono (enter_pass hx hn hf hP hI hm h1 h2 h3 h4 h5 h6) (Jumps.mono fun l a w ⟨m', e1, e2⟩ => ⟨m', e1, gs, gl, go, bd, bo, e2⟩)
    · exact wp_mono (look_pass hx hn hf hP hI h1 hm h2 h3 h4) (Jumps.mono fun l a w ⟨m', e1, e2⟩ => ⟨m', e1, gs, gl, go, bd, bo, e2⟩)
end Go.Proofs.YtahkpkaodeeemaaGreat
