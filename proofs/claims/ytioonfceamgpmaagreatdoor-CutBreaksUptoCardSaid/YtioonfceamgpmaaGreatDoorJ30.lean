/- Cut, laid together. -/
import Derived.Test.YtioonfceamgpmaaGreatDoorJ20
import Derived.Test.YtioonfceamgpmaaGreatDoorJ21
import Derived.Test.YtioonfceamgpmaaGreatDoorJ29
namespace Go.Proofs.YtioonfceamgpmaaGreatDoor
open Go.RowKit Go.Shelf
set_option linter.unusedVariables false

/-- What a cut leaves. -/
def CutPost (w0 : World) (b k r N : Nat) (acts : List Ins) (x : Ins) (l : List Int) (xss : List (List Int)) (R : List Asn) (w' : World) : Prop :=
  ∃ va vn vs, vs.length = N + 1 ∧ Sep w0 w' (.box b 48 #[va, vn, .int .i64 ((k : Int) + 1)] :: insR va (cutActs acts x k r) :: .sl 33 1 vn (N + 1) vs :: (List.zipWith intsR vs (mendTo (cutActs acts x k r) x.to r N (cutRows xss r l) N) ++ R))

/-- The code from a region on. -/
def fromRegion (k : Nat) : Code → Option Code
  | .seq (.region i o d) c => if i = k then some (.seq (.region i o d) c) else fromRegion k c
  | .seq _ c => fromRegion k c
  | _ => none
noncomputable def cutFrom (k : Nat) : Code := (Tryz.f22.body.bind (fromRegion k)).getD .skip

set_option maxRecDepth 100000 in
set_option maxHeartbeats 4000000 in
theorem cut_from8 {w0 : World} {R : List Asn} {b C Rr M : Nat} {acts : List Ins} {x : Ins} {xs0 : List Int} {xss : List (List Int)} (k r N : Nat) (hal : acts.length = N) (hxl : xss.length = N) (hk : k < 100) (hr : r < N) (hx' : Hid (acts[r]? = some x)) (hx0' : Hid (xss[r]? = some xs0)) (hm : N ≤ 1000) (hrl' : Hid (∀ xs ∈ xss, xs.length ≤ 10000)) (hl0 : xs0.length ≤ 10000) {gA' cA' gN' cN' : Nat} {a : Act} {w12 : World} {vs2 : List Value} {xss2 : List (List Int)} {acts2 : List Ins} (hv2 : vs2.length = N + 1) (hxe2 : Hid (xss2 = cutRows xss r xs0)) (hae2 : Hid (acts2 = cutActs acts x k r)) (hF : Fm 146 a [.pointer (some ⟨b, 0, none⟩), .int .i64 r, .pointer (some ⟨C, 0, none⟩), .pointer (some ⟨Rr, 0, none⟩), .pointer (some ⟨M, 0, none⟩), .string x.to])
    (hU : Sep w0 w12 (cutAs b C Rr M (.slice (some ⟨gA', 0, none⟩) (N + 1) cA') (.slice (some ⟨gN', 0, none⟩) (N + 1) cN') k r N (N + 1) vs2 xss2 (insR (.slice (some ⟨gA', 0, none⟩) (N + 1) cA') acts2 :: R))) :
    (cutFrom 8).wp Tryz.prog (bodyPost Tryz.prog Tryz.f22 fun e w' => e = .returned (.tuple #[]) ∧ CutPost w0 b k r N acts x xs0 xss R w') a w12 := by
  obtain ⟨f, rfl⟩ := Fm.lit (m := 140) hF rfl
  simp only [lits, List.cons_append, List.nil_append]
  conv => arg 2; whnf
  have q1 : (0 : Int) ≤ (r : Int) := by omega
  have q2 : (r : Int) < (N : Int) := by omega
  have ha2 : acts2.length = N + 1 := by rw [hae2.out, cutActs]; simp [hal]
  have hxl2 : xss2.length = N + 1 := by rw [hxe2.out, cutRows]; simp [hxl]
  have hins2 : insR (.slice (some ⟨gA', 0, none⟩) (N + 1) cA') acts2 = .sl 29 5 (.slice (some ⟨gA', 0, none⟩) (N + 1) cA') (N + 1) (insCells acts2) := by unfold insR; rw [ha2]
  have hlow : ∀ l ∈ xss2, l.length ≤ 10000 + 1 := by
    intro l hl
    rw [hxe2.out] at hl
    exact cutRows_len hrl'.out hx0'.out l hl
  have n1 : w12.cell? ⟨C, 0, none⟩ = some (.pointer (some ⟨b, 0, none⟩)) := by rw [hU.box_cell 2 rfl 0]; rfl
  have n2 : w12.cell? ⟨b, 0, none⟩ = some (.slice (some ⟨gA', 0, none⟩) ((N + 1 : Nat)) cA') := by rw [hU.box_cell 1 rfl 0]; rfl
  have n3 : w12.cell? ⟨M, 0, none⟩ = some (.int .i64 (N : Int)) := by rw [hU.box_cell 4 rfl 0]; rfl
  have p2 : (0 : Int) ≤ (N : Int) := by omega
  have p3 : (N : Int) ≤ (cA' : Int) := by
    obtain ⟨g9, c9, e9, _, _, h9, _⟩ := hU.sl_form (N + 1 + 5) (cut_next hv2 hxl2 _ _ _ _ _ hins2) (by omega)
    cases e9
    omega
  have hU' := Lib.hid hU
  have ha2' := Lib.hid ha2
  have hxl2' := Lib.hid hxl2
  have hins2' := Lib.hid hins2
  have hlow' := Lib.hid hlow
  clear hU ha2 hxl2 hins2 hlow
  go_wp2_with fail
  go_quiet (fail)
  clear n1 n2 n3
  have hUq := Lib.hid (hU'.out.drewN nq)
  clear hU'
  generalize w12.drewN nq = w13 at hUq ⊢
  go_wp2_with fail
  go_loopw [98] (fun iv wr => ∃ (i : Nat) (vs3 : List Value), i ≤ N ∧ iv = .int .i64 i ∧ vs3.length = N + 1 ∧ Sep w0 wr (cutAs b C Rr M (.slice (some ⟨gA', 0, none⟩) (N + 1) cA') (.slice (some ⟨gN', 0, none⟩) (N + 1) cN') k r N (N + 1) vs3 (mendTo acts2 x.to r N xss2 i) (insR (.slice (some ⟨gA', 0, none⟩) (N + 1) cA') acts2 :: R))) (fun iv _ => N - (intOf iv).toNat)
  case atStart => exact ⟨0, vs2, Nat.zero_le _, rfl, hv2, hUq.out⟩
  case round =>
    obtain ⟨i, vs3, hi, rfl, hv3, hS⟩ := hrel
    have q3 : (0 : Int) ≤ (i : Int) := by omega
    by_cases hlt : i < N
    · have q4 : (i : Int) < (N : Int) := by omega
      have q5 : (i : Int) < (N : Int) + 1 := by omega
      obtain ⟨x0, hx0⟩ : ∃ x, acts2[i]? = some x := ⟨_, List.getElem?_eq_getElem (by rw [ha2'.out]; omega)⟩
      obtain ⟨l0, hl0⟩ : ∃ x, xss2[i]? = some x := ⟨_, List.getElem?_eq_getElem (by rw [hxl2'.out]; omega)⟩
      obtain ⟨u0, hu0⟩ : ∃ u, vs3[i]? = some u := ⟨_, List.getElem?_eq_getElem (by omega)⟩
      have hlen3 : (mendTo acts2 x.to r N xss2 i).length = N + 1 := by rw [mendTo_len, hxl2'.out]
      have hl0' := hlow'.out l0 (List.mem_of_getElem? hl0)
      have hrow := (mendTo_late (acts := acts2) (to := x.to) (r := r) (more := N) (xss := xss2) (Nat.le_refl i)).trans hl0
      have hstep := mendTo_step (to := x.to) (r := r) (more := N) hx0 hl0
      have hcell := fun (f : Nat) (hf : f < 5) => (hS.cellAt (N + 1 + 5) (cut_next hv3 hlen3 _ _ _ _ _ hins2'.out) (i * 5 + f) (by omega)).trans (insCells_at hx0 f hf)
      have c0 := hcell 0 (by omega)
      have c1 := hcell 1 (by omega)
      have c2 := hcell 2 (by omega)
      have c3 := hcell 3 (by omega)
      have c4 := hcell 4 (by omega)
      simp only [Ins.cells, Nat.add_zero, List.getElem?_cons_zero, List.getElem?_cons_succ] at c0 c1 c2 c3 c4
      have hI := hS.ints (i + 5) (cut_row hu0 hrow _ _ _ _ _)
      obtain ⟨A0, k0, rfl, hm0⟩ := hI.shape
      unfold maxLen at hm0
      have hSA := hS.alloc (.cells #[.int .i64 x0.op, .string x0.path, .string x0.to, .int .i64 x0.mode, .int .i64 x0.ref] 29)
      have d1 : (wr.alloc (.cells #[.int .i64 x0.op, .string x0.path, .string x0.to, .int .i64 x0.mode, .int .i64 x0.ref] 29)).cell? ⟨C, 0, none⟩ = some (.pointer (some ⟨b, 0, none⟩)) := by rw [hSA.box_cell 2 rfl 0]; rfl
      have d2 : (wr.alloc (.cells #[.int .i64 x0.op, .string x0.path, .string x0.to, .int .i64 x0.mode, .int .i64 x0.ref] 29)).cell? ⟨b, 1, none⟩ = some (.slice (some ⟨gN', 0, none⟩) ((N + 1 : Nat)) cN') := by rw [hSA.box_cell 1 rfl 1]; rfl
      have d3 : (wr.alloc (.cells #[.int .i64 x0.op, .string x0.path, .string x0.to, .int .i64 x0.mode, .int .i64 x0.ref] 29)).cell? ⟨Rr, 0, none⟩ = some (.int .i64 (r : Int)) := by rw [hSA.box_cell 3 rfl 0]; rfl
      have d4 : (wr.alloc (.cells #[.int .i64 x0.op, .string x0.path, .string x0.to, .int .i64 x0.mode, .int .i64 x0.ref] 29)).cell? ⟨gN', i, none⟩ = some (.slice A0 l0.length k0) := (hSA.cellAt 0 rfl i (by omega)).trans hu0
      clear hSA
      have hco := fun W (hb : Below wr.heap.size wr W) => contains_any (hI.below hb) (r : Int)
      have hco' := Lib.hid hco
      have hS' := Lib.hid hS
      have hI' := Lib.hid hI
      have hstep' := Lib.hid hstep
      have hrow' := Lib.hid hrow
      have hx0' := Lib.hid hx0
      have hl00' := Lib.hid hl0
      have hu0' := Lib.hid hu0
      have hlen3' := Lib.hid hlen3
      have hv3' := Lib.hid hv3
      clear hS hI hstep hrow hx0 hl0 hu0 hlen3 hv3 hco hcell
      have hnone : ∀ W, Sep w0 W (cutAs b C Rr M (.slice (some ⟨gA', 0, none⟩) (N + 1) cA') (.slice (some ⟨gN', 0, none⟩) (N + 1) cN') k r N (N + 1) vs3 (mendTo acts2 x.to r N xss2 i) (insR (.slice (some ⟨gA', 0, none⟩) (N + 1) cA') acts2 :: R)) → mendB x0 x.to r l0 = false →
          ∃ (i' : Nat) (vs3 : List Value), i' ≤ N ∧ Value.int .i64 ((i : Int) + 1) = .int .i64 i' ∧ vs3.length = N + 1 ∧ Sep w0 W (cutAs b C Rr M (.slice (some ⟨gA', 0, none⟩) (N + 1) cA') (.slice (some ⟨gN', 0, none⟩) (N + 1) cN') k r N (N + 1) vs3 (mendTo acts2 x.to r N xss2 i') (insR (.slice (some ⟨gA', 0, none⟩) (N + 1) cA') acts2 :: R)) := by
        intro W hW hB
        refine ⟨i + 1, vs3, by omega, by go_num, hv3'.out, ?_⟩
        rw [hstep'.out, hB]
        exact hW
      have hnone' := Lib.hid hnone
      clear hnone
      by_cases hwx : wantsX x0 = true
      · by_cases hp : x0.path = x.to
        · have hpb : (x0.path.toList == x.to.toList) = true := by rw [str_beq]; simpa using hp
          obtain ⟨bc, hbc⟩ : ∃ bc, l0.contains (r : Int) = bc := ⟨_, rfl⟩
          have hco2 : ∀ W, Below wr.heap.size wr W → Calls Tryz.prog 35 #[.slice A0 l0.length k0, .int .i64 r] W fun e w' => e = .returned (.bool bc) ∧ w' = W := fun W hW => (hco'.out W hW).mono fun e w' h => ⟨by rw [h.1, hbc], h.2.symm⟩
          have hco2' := Lib.hid hco2
          have hbc' := Lib.hid hbc
          have hp' := Lib.hid hp
          have hwx' := Lib.hid hwx
          have hb1 : ∀ n, Below wr.heap.size wr ((wr.alloc (.cells #[.int .i64 x0.op, .string x0.path, .string x0.to, .int .i64 x0.mode, .int .i64 x0.ref] 29)).drewN n) := fun n => ⟨rfl, rfl, rfl, by simp, fun b hb => (Below.new wr _).block b hb⟩
          have hb1' := Lib.hid hb1
          have hwc : (x0.op == 4) = true ∨ (x0.op == 4) = false ∧ (x0.op == 7) = true ∨ (x0.op == 4) = false ∧ (x0.op == 7) = false ∧ (x0.op == 8) = true := by
            unfold wantsX at hwx
            cases h4 : (x0.op == 4) <;> cases h7 : (x0.op == 7) <;> cases h8 : (x0.op == 8) <;> simp_all
          clear hco' hco2 hbc hp hwx hb1
          rcases hwc with h4 | ⟨h4, h7⟩ | ⟨h4, h7, h8⟩
          all_goals
            go_wp2_with fail
            go_quiet ((go_at_call 35; exact Calls.quiet_of_same (hco2'.out _ (hb1'.out _))))
            have hSq := (hS'.out.alloc (.cells #[.int .i64 x0.op, .string x0.path, .string x0.to, .int .i64 x0.mode, .int .i64 x0.ref] 29)).drewN nq
            cases bc with
            | true =>
              have hB : mendB x0 x.to r l0 = true := by
                have := hbc'.out
                rw [List.contains_iff_mem] at this
                rw [mendB, hwx'.out]
                simp [hp'.out, this]
              have hme := mend_any (xss := mendTo acts2 x.to r N xss2 i) (r : Int) (N : Int) (by rw [hv3'.out, hlen3'.out]) (by rw [hlen3'.out]; exact hSq) i l0 hrow'.out (by omega)
              rw [hlen3'.out] at hme
              have hme' := Lib.hid hme
              have hB' := Lib.hid hB
              clear hme hB hSq
              go_wp2_with fail
              go_at_call 43
              refine hme'.out.mono ?_
              rintro e w15 ⟨rfl, u, hT⟩
              have hT' := Lib.hid hT
              clear hT
              go_wp2_with fail
              go_roundw
              case rel =>
                have hfin : ∃ (i' : Nat) (vs3 : List Value), i' ≤ N ∧ Value.int .i64 ((i : Int) + 1) = .int .i64 i' ∧ vs3.length = N + 1 ∧ Sep w0 w15 (cutAs b C Rr M (.slice (some ⟨gA', 0, none⟩) (N + 1) cA') (.slice (some ⟨gN', 0, none⟩) (N + 1) cN') k r N (N + 1) vs3 (mendTo acts2 x.to r N xss2 i') (insR (.slice (some ⟨gA', 0, none⟩) (N + 1) cA') acts2 :: R)) := by
                  refine ⟨i + 1, vs3.set i u, by omega, by go_num, by rw [List.length_set]; exact hv3'.out, ?_⟩
                  rw [hstep'.out, hB'.out]
                  exact hT'.out
                repeat apply Exists.intro
                exact ⟨hfin, rfl⟩
              case measure => simp [intOf]; omega
            | false =>
              have hB : mendB x0 x.to r l0 = false := by
                have := hbc'.out
                rw [← Bool.not_eq_true, List.contains_iff_mem] at this
                rw [mendB]
                simp [this]
              have hB' := Lib.hid hB
              have hSq' := Lib.hid hSq
              clear hB hSq
              go_wp2_with fail
              go_roundw
              case rel => exact hnone'.out _ hSq'.out hB'.out
              case measure => simp [intOf]; omega
        · have hpb : (x0.path.toList == x.to.toList) = false := by rw [str_beq]; simpa using hp
          have hB : mendB x0 x.to r l0 = false := by rw [mendB]; simp [hp]
          have hB' := Lib.hid hB
          have hwc : (x0.op == 4) = true ∨ (x0.op == 4) = false ∧ (x0.op == 7) = true ∨ (x0.op == 4) = false ∧ (x0.op == 7) = false ∧ (x0.op == 8) = true := by
            unfold wantsX at hwx
            cases h4 : (x0.op == 4) <;> cases h7 : (x0.op == 7) <;> cases h8 : (x0.op == 8) <;> simp_all
          clear hco' hp hwx hB
          rcases hwc with h4 | ⟨h4, h7⟩ | ⟨h4, h7, h8⟩
          all_goals
            go_wp2_with fail
            go_quiet (fail)
            go_wp2_with fail
            go_roundw
            case rel => exact hnone'.out _ ((hS'.out.alloc _).drewN _) hB'.out
            case measure => simp [intOf]; omega
      · have hB : mendB x0 x.to r l0 = false := by rw [mendB, Bool.eq_false_iff.2 hwx]; rfl
        have hB' := Lib.hid hB
        have h4 : (x0.op == 4) = false := by
          unfold wantsX at hwx
          simp_all
        have h7 : (x0.op == 7) = false := by
          unfold wantsX at hwx
          simp_all
        have h8 : (x0.op == 8) = false := by
          unfold wantsX at hwx
          simp_all
        clear hco' hwx hB
        go_wp2_with fail
        go_quiet (fail)
        go_wp2_with fail
        go_roundw
        case rel => exact hnone'.out _ ((hS'.out.alloc _).drewN _) hB'.out
        case measure => simp [intOf]; omega
    · obtain rfl : i = N := by omega
      have d1 : wr.cell? ⟨C, 0, none⟩ = some (.pointer (some ⟨b, 0, none⟩)) := by rw [hS.box_cell 2 rfl 0]; rfl
      have d2 : wr.cell? ⟨b, 2, none⟩ = some (.int .i64 (k : Int)) := by rw [hS.box_cell 1 rfl 2]; rfl
      have d3 := hS.box_frozen 1 rfl 2
      have hfin : CutPost w0 b k r i acts x xs0 xss R (wr.setCell ⟨b, 2, none⟩ (.int .i64 ((k : Int) + 1))) := by
        have h1 := hS.box_stored 1 rfl 2 (.int .i64 ((k : Int) + 1))
        have h2 := h1.perm (cut_perm _ _ _ _ _ _ _ _)
        have h3 := Sep.drop 3 h2
        rw [hae2.out, hxe2.out] at h3
        exact ⟨_, _, vs3, hv3, h3⟩
      have hfin' := Lib.hid hfin
      clear hS hfin
      go_wp2_with fail
      go_end0
      exact ⟨rfl, hfin'.out⟩

set_option maxRecDepth 100000 in
set_option maxHeartbeats 4000000 in
theorem cut_from7 {w0 : World} {R : List Asn} {b C Rr M : Nat} {acts : List Ins} {x : Ins} {xs0 : List Int} {xss : List (List Int)} (k r N : Nat) (hal : acts.length = N) (hxl : xss.length = N) (hk : k < 100) (hr : r < N) (hx' : Hid (acts[r]? = some x)) (hx0' : Hid (xss[r]? = some xs0)) (hm : N ≤ 1000) (hrl' : Hid (∀ xs ∈ xss, xs.length ≤ 10000)) (hl0 : xs0.length ≤ 10000) {nm : ByteArray} (hnm : Hid (nm = tempS k)) {gA' cA' gN' cN' : Nat} {a : Act} {w11 : World} {vs1 : List Value} {xss1 : List (List Int)} {acts1 : List Ins} (hv1 : vs1.length = N + 1) (hxe : Hid (xss1 = xss ++ [normL (xs0 ++ [(r : Int)])])) (hae : Hid (acts1 = acts ++ [⟨3, nm, x.to, 0, 0⟩])) (hF : Fm 146 a [.pointer (some ⟨b, 0, none⟩), .int .i64 r, .pointer (some ⟨C, 0, none⟩), .pointer (some ⟨Rr, 0, none⟩), .pointer (some ⟨M, 0, none⟩), .string x.to, .string nm])
    (hU : Sep w0 w11 (.box M 3 #[.int .i64 (N : Int)] :: .box Rr 3 #[.int .i64 r] :: .box C 43 #[.pointer (some ⟨b, 0, none⟩)] :: .box b 48 #[.slice (some ⟨gA', 0, none⟩) ((N + 1 : Nat)) cA', .slice (some ⟨gN', 0, none⟩) ((N + 1 : Nat)) cN', .int .i64 k] :: insR (.slice (some ⟨gA', 0, none⟩) (N + 1) cA') acts1 :: .sl 33 1 (.slice (some ⟨gN', 0, none⟩) (N + 1) cN') (N + 1) vs1 :: (List.zipWith intsR vs1 xss1 ++ R))) :
    (cutFrom 7).wp Tryz.prog (bodyPost Tryz.prog Tryz.f22 fun e w' => e = .returned (.tuple #[]) ∧ CutPost w0 b k r N acts x xs0 xss R w') a w11 := by
  obtain ⟨f, rfl⟩ := Fm.lit (m := 139) hF rfl
  simp only [lits, List.cons_append, List.nil_append]
  conv => arg 2; whnf
  have q1 : (0 : Int) ≤ (r : Int) := by omega
  have q2 : (r : Int) < (N : Int) := by omega
  have hx1 : acts1[r]? = some x := by rw [hae.out, List.getElem?_append_left (by omega)]; exact hx'.out
  have ha1 : acts1.length = N + 1 := by rw [hae.out]; simp [hal]
  have hxl1 : xss1.length = N + 1 := by rw [hxe.out]; simp [hxl]
  have m1 : ∀ (As : List Asn) (w' : World), Sep w0 w' As → As[1]? = some (.box Rr 3 #[.int .i64 r]) → As[2]? = some (.box C 43 #[.pointer (some ⟨b, 0, none⟩)]) → As[3]? = some (.box b 48 #[.slice (some ⟨gA', 0, none⟩) ((N + 1 : Nat)) cA', .slice (some ⟨gN', 0, none⟩) ((N + 1 : Nat)) cN', .int .i64 k]) →
      w'.cell? ⟨C, 0, none⟩ = some (.pointer (some ⟨b, 0, none⟩)) ∧ w'.cell? ⟨b, 0, none⟩ = some (.slice (some ⟨gA', 0, none⟩) ((N + 1 : Nat)) cA') ∧ w'.cell? ⟨b, 1, none⟩ = some (.slice (some ⟨gN', 0, none⟩) ((N + 1 : Nat)) cN') ∧ w'.cell? ⟨Rr, 0, none⟩ = some (.int .i64 r) := by
    intro As w' h h1 h2 h3
    exact ⟨by rw [h.box_cell _ h2 0]; rfl, by rw [h.box_cell _ h3 0]; rfl, by rw [h.box_cell _ h3 1]; rfl, by rw [h.box_cell _ h1 0]; rfl⟩
  have hm1 := Lib.hid m1
  clear m1
  have hE' := hm1.out _ _ hU.drew rfl rfl rfl
  have hins1 : insR (.slice (some ⟨gA', 0, none⟩) (N + 1) cA') acts1 = .sl 29 5 (.slice (some ⟨gA', 0, none⟩) (N + 1) cA') (N + 1) (insCells acts1) := by unfold insR; rw [ha1]
  have hlA : (insCells acts1).length = (N + 1) * 5 := by rw [insCells_len, ha1]
  have hU1 := hU
  rw [hins1] at hU1
  have hW := hU1.stored 4 rfl (r * 5 + 2) (.string nm)
  have hX := hW.stored 5 rfl r (.slice none 0 0)
  simp only [List.set_cons_zero, List.set_cons_succ] at hW hX
  obtain ⟨s1, s2, s3, s4⟩ := hm1.out _ _ hW rfl rfl rfl
  have s5 := hW.frozenAt 5 rfl r
  have s6 := hW.cellAt 5 rfl r (by omega)
  obtain ⟨u1, hu1⟩ : ∃ u, vs1[r]? = some u := ⟨_, List.getElem?_eq_getElem (by omega)⟩
  rw [hu1] at s6
  have t6 := hU1.cellAt 4 rfl (r * 5 + 2) (by omega)
  rw [insCells_at hx1 2 (by omega)] at t6
  have t6' : w11.cell? ⟨gA', r * 5 + 2, none⟩ = some (.string x.to) := t6
  have t7 := hU1.frozenAt 4 rfl (r * 5 + 2)
  have hX' := Lib.hid hX
  have hu1' := Lib.hid hu1
  have hx1' := Lib.hid hx1
  have p1 : (r : Int) < (N : Int) + 1 := by omega
  have hv1' := Lib.hid hv1
  have ha1' := Lib.hid ha1
  have hxl1' := Lib.hid hxl1
  clear t6 hX hW hU1 hU hu1 hx1 hv1 ha1 hxl1 hins1 hlA
  go_wp2_with fail
  rename_i K1 hK1
  refine wp_region_E (S := fun w' => w'.cell? ⟨C, 0, none⟩ = some (.pointer (some ⟨b, 0, none⟩)) ∧ w'.cell? ⟨b, 0, none⟩ = some (.slice (some ⟨gA', 0, none⟩) ((N + 1 : Nat)) cA') ∧ w'.cell? ⟨b, 1, none⟩ = some (.slice (some ⟨gN', 0, none⟩) ((N + 1 : Nat)) cN') ∧ w'.cell? ⟨Rr, 0, none⟩ = some (.int .i64 r)) 17 (by kernel_rfl) ?_
  simp only [List.size_toArray, List.length_cons, List.length_nil, Nat.reduceAdd]
  refine wpE_take (i := 0) (v := ?_) rfl (by kernel_rfl) (by kernel_rfl) (by kernel_rfl) (by kernel_rfl) (fun _ _ _ h => h) (Or.inl ⟨by rfl, ?_⟩) hE' ?_
  rotate_left
  · intro w hw; obtain ⟨e1, e2, e3, e4⟩ := hw; go_simp
    try with_reducible rfl
  simp only [Act.put]
  try simp only [List.setIfInBounds_toArray]
  refine wpE_take (i := 1) (v := ?_) rfl (by kernel_rfl) (by kernel_rfl) (by kernel_rfl) (by kernel_rfl) (fun _ _ _ h => h) (Or.inl ⟨by rfl, ?_⟩) hE' ?_
  rotate_left
  · intro w hw; obtain ⟨e1, e2, e3, e4⟩ := hw; go_simp
    try with_reducible rfl
  simp only [Act.put]
  try simp only [List.setIfInBounds_toArray]
  refine wpE_take (i := 2) (v := ?_) rfl (by kernel_rfl) (by kernel_rfl) (by kernel_rfl) (by kernel_rfl) (fun _ _ _ h => h) (Or.inl ⟨by rfl, ?_⟩) hE' ?_
  rotate_left
  · intro w hw; obtain ⟨e1, e2, e3, e4⟩ := hw; go_simp
    try with_reducible rfl
  simp only [Act.put]
  try simp only [List.setIfInBounds_toArray]
  refine wpE_take (i := 3) (v := ?_) rfl (by kernel_rfl) (by kernel_rfl) (by kernel_rfl) (by kernel_rfl) (fun _ _ _ h => h) (Or.inl ⟨by rfl, ?_⟩) hE' ?_
  rotate_left
  · intro w hw; obtain ⟨e1, e2, e3, e4⟩ := hw; go_simp
    try with_reducible rfl
  simp only [Act.put]
  try simp only [List.setIfInBounds_toArray]
  refine wpE_take (i := 4) (v := ?_) rfl (by kernel_rfl) (by kernel_rfl) (by kernel_rfl) (by kernel_rfl) (fun _ _ _ h => h) (Or.inl ⟨by rfl, ?_⟩) hE' ?_
  rotate_left
  · intro w hw; obtain ⟨e1, e2, e3, e4⟩ := hw; go_simp
    try with_reducible rfl
  simp only [Act.put]
  try simp only [List.setIfInBounds_toArray]
  refine wpE_take (i := 5) (v := ?_) rfl (by kernel_rfl) (by kernel_rfl) (by kernel_rfl) (by kernel_rfl) (fun _ _ _ h => h) (Or.inl ⟨by rfl, ?_⟩) hE' ?_
  rotate_left
  · intro w hw; obtain ⟨e1, e2, e3, e4⟩ := hw; go_simp
    try with_reducible rfl
  simp only [Act.put]
  try simp only [List.setIfInBounds_toArray]
  refine wpE_take (i := 6) (v := ?_) rfl (by kernel_rfl) (by kernel_rfl) (by kernel_rfl) (by kernel_rfl) (fun _ _ _ h => h) (Or.inl ⟨by rfl, ?_⟩) hE' ?_
  rotate_left
  · intro w hw; obtain ⟨e1, e2, e3, e4⟩ := hw; go_simp
    try with_reducible rfl
  simp only [Act.put]
  try simp only [List.setIfInBounds_toArray]
  refine wpE_take (i := 7) (v := ?_) rfl (by kernel_rfl) (by kernel_rfl) (by kernel_rfl) (by kernel_rfl) (fun _ _ _ h => h) (Or.inl ⟨by rfl, ?_⟩) hE' ?_
  rotate_left
  · intro w hw; obtain ⟨e1, e2, e3, e4⟩ := hw; go_simp
    try with_reducible rfl
  simp only [Act.put]
  try simp only [List.setIfInBounds_toArray]
  refine wpE_take (i := 8) (v := ?_) rfl (by kernel_rfl) (by kernel_rfl) (by kernel_rfl) (by kernel_rfl) (fun _ _ _ h => h) (Or.inl ⟨by rfl, ?_⟩) hE' ?_
  rotate_left
  · intro w hw; obtain ⟨e1, e2, e3, e4⟩ := hw; go_simp
    try with_reducible rfl
  simp only [Act.put]
  try simp only [List.setIfInBounds_toArray]
  refine wpE_take (i := 9) (v := ?_) rfl (by kernel_rfl) (by kernel_rfl) (by kernel_rfl) (by kernel_rfl) (fun _ _ _ h => h) (Or.inl ⟨by rfl, ?_⟩) hE' ?_
  rotate_left
  · intro w hw; obtain ⟨e1, e2, e3, e4⟩ := hw; go_simp
    try with_reducible rfl
  simp only [Act.put]
  try simp only [List.setIfInBounds_toArray]
  refine wpE_take (i := 10) (v := ?_) rfl (by kernel_rfl) (by kernel_rfl) (by kernel_rfl) (by kernel_rfl) (fun _ _ _ h => h) (Or.inl ⟨by rfl, ?_⟩) hE' ?_
  rotate_left
  · intro w hw; obtain ⟨e1, e2, e3, e4⟩ := hw; go_simp
    try with_reducible rfl
  simp only [Act.put]
  try simp only [List.setIfInBounds_toArray]
  refine wpE_take (i := 11) (v := ?_) rfl (by kernel_rfl) (by kernel_rfl) (by kernel_rfl) (by kernel_rfl) (fun _ _ _ h => h) (Or.inl ⟨by rfl, ?_⟩) hE' ?_
  rotate_left
  · intro w hw; obtain ⟨e1, e2, e3, e4⟩ := hw; go_simp
    try with_reducible rfl
  simp only [Act.put]
  try simp only [List.setIfInBounds_toArray]
  refine wpE_take (i := 12) (v := ?_) rfl (by kernel_rfl) (by kernel_rfl) (by kernel_rfl) (by kernel_rfl) (fun _ _ _ h => h) (Or.inl ⟨by rfl, ?_⟩) hE' ?_
  rotate_left
  · intro w hw; obtain ⟨e1, e2, e3, e4⟩ := hw; go_simp
    try with_reducible rfl
  simp only [Act.put]
  try simp only [List.setIfInBounds_toArray]
  refine wpE_take (i := 13) (v := ?_) rfl (by kernel_rfl) (by kernel_rfl) (by kernel_rfl) (by kernel_rfl) (fun _ _ _ h => h) (Or.inl ⟨by rfl, ?_⟩) hE' ?_
  rotate_left
  · intro w hw; obtain ⟨e1, e2, e3, e4⟩ := hw; go_simp
    try with_reducible rfl
  simp only [Act.put]
  try simp only [List.setIfInBounds_toArray]
  refine wpE_take (i := 14) (v := ?_) rfl (by kernel_rfl) (by kernel_rfl) (by kernel_rfl) (by kernel_rfl) (fun _ _ _ h => h) (Or.inl ⟨by rfl, ?_⟩) hE' ?_
  rotate_left
  · intro w hw; obtain ⟨e1, e2, e3, e4⟩ := hw; go_simp
    try with_reducible rfl
  simp only [Act.put]
  try simp only [List.setIfInBounds_toArray]
  refine wpE_one (i := 15) (by kernel_rfl) rfl (fun K hK => ?_)
  go_simp
  refine hK _ _ (fun _ => ⟨s1, s2, s3, s4⟩) ?_
  clear hK K
  try simp only [Act.put]
  try simp only [List.setIfInBounds_toArray]
  refine wpE_one (i := 16) (by kernel_rfl) rfl (fun K hK => ?_)
  go_simp
  refine hK _ _ (fun _ => ⟨s1, s2, s3, s4⟩) ?_
  clear hK K
  try simp only [Act.put]
  try simp only [List.setIfInBounds_toArray]
  refine wpE_one (i := 17) (by kernel_rfl) rfl (fun K hK => ?_)
  go_simp
  refine hK _ _ (fun h => absurd rfl h) ?_
  clear hK K
  try simp only [Act.put]
  try simp only [List.setIfInBounds_toArray]
  refine wpE_done (by kernel_rfl) ?_ _
  have e1 : cutActs acts x k r = acts1.set r { x with to := nm } := by rw [hae.out]; unfold cutActs; rw [hnm.out]
  have e2 : cutRows xss r xs0 = xss1.set r [] := by rw [hxe.out]; rfl
  apply hK1
  refine cut_from8 k r N hal hxl hk hr hx' hx0' hm hrl' hl0 (gA' := gA') (cA' := cA') (gN' := gN') (cN' := cN') (vs2 := vs1.set r (.slice none 0 0)) (xss2 := xss1.set r []) (acts2 := acts1.set r { x with to := nm }) (by rw [List.length_set]; exact hv1'.out) (Lib.hid e2.symm) (Lib.hid e1.symm) ⟨rfl, rfl, rfl⟩ ?_
  have hY := (hX'.out.drew).sl_nil 3 1
  have hzz : (List.zipWith intsR vs1 xss1 ++ R)[r]? = some (intsR u1 (xss1[r]'(by rw [hxl1'.out]; omega))) := by
    rw [List.getElem?_append_left (by rw [List.length_zipWith, hv1'.out, hxl1'.out]; omega)]
    exact zip_some hu1'.out (List.getElem?_eq_getElem _)
  have hZ := Sep.inplace (r + 6) hY hzz
  have e3 : insR (.slice (some ⟨gA', 0, none⟩) (N + 1) cA') (acts1.set r { x with to := nm }) = .sl 29 5 (.slice (some ⟨gA', 0, none⟩) (N + 1) cA') (N + 1) ((insCells acts1).set (r * 5 + 2) (.string nm)) := by
    unfold insR
    rw [List.length_set, ha1'.out, insCells_set hx1'.out]
  rw [e3]
  unfold cutAs
  rw [zip_set]
  have e4 : (List.zipWith intsR vs1 xss1 ++ R).set r (intsR (.slice none 0 0) []) = (List.zipWith intsR vs1 xss1).set r (intsR (.slice none 0 0) []) ++ R := List.set_append_left _ _ (by rw [List.length_zipWith, hv1'.out, hxl1'.out]; omega)
  refine Sep.perm ?_ (cut_perm2 _ _ _ _ _ _ _ _)
  rw [← e4]
  exact hZ

set_option maxRecDepth 100000 in
set_option maxHeartbeats 4000000 in
theorem cut_from6 {w0 : World} {R : List Asn} {b C Rr M : Nat} {acts : List Ins} {x : Ins} {xs0 : List Int} {xss : List (List Int)} (k r N : Nat) (hal : acts.length = N) (hxl : xss.length = N) (hk : k < 100) (hr : r < N) (hx' : Hid (acts[r]? = some x)) (hx0' : Hid (xss[r]? = some xs0)) (hm : N ≤ 1000) (hrl' : Hid (∀ xs ∈ xss, xs.length ≤ 10000)) (hl0 : xs0.length ≤ 10000) {nm : ByteArray} (hnm : Hid (nm = tempS k)) {gA' cA' gN cN g cap : Nat} {a : Act} {w9 : World} {vs : List Value} {need : List Int} (hv : vs.length = N) (hnl : need.length = xs0.length + 1) (hneed' : Hid (need = sortL (xs0 ++ [(r : Int)]))) (hF : Fm 146 a [.pointer (some ⟨b, 0, none⟩), .int .i64 r, .pointer (some ⟨C, 0, none⟩), .pointer (some ⟨Rr, 0, none⟩), .pointer (some ⟨M, 0, none⟩), .string x.to, .string nm, .slice (some ⟨g, 0, none⟩) (xs0.length + 1) cap])
    (hU : Sep w0 w9 (intsR (.slice (some ⟨g, 0, none⟩) (xs0.length + 1) cap) need :: .box M 3 #[.int .i64 (N : Int)] :: .box Rr 3 #[.int .i64 r] :: .box C 43 #[.pointer (some ⟨b, 0, none⟩)] :: .box b 48 #[.slice (some ⟨gA', 0, none⟩) ((N + 1 : Nat)) cA', .slice (some ⟨gN, 0, none⟩) N cN, .int .i64 k] :: insR (.slice (some ⟨gA', 0, none⟩) (N + 1) cA') (acts ++ [⟨3, nm, x.to, 0, 0⟩]) :: .sl 33 1 (.slice (some ⟨gN, 0, none⟩) N cN) N vs :: (List.zipWith intsR vs xss ++ R))) :
    (cutFrom 6).wp Tryz.prog (bodyPost Tryz.prog Tryz.f22 fun e w' => e = .returned (.tuple #[]) ∧ CutPost w0 b k r N acts x xs0 xss R w') a w9 := by
  obtain ⟨f, rfl⟩ := Fm.lit (m := 138) hF rfl
  simp only [lits, List.cons_append, List.nil_append]
  conv => arg 2; whnf
  have q1 : (0 : Int) ≤ (r : Int) := by omega
  have q2 : (r : Int) < (N : Int) := by omega
  have hU' := Lib.hid hU
  clear hU
  have m1 : ∀ (d : Nat) (As : List Asn) (w' : World), Sep w0 w' As → As[d + 3]? = some (.box C 43 #[.pointer (some ⟨b, 0, none⟩)]) → As[d + 4]? = some (.box b 48 #[.slice (some ⟨gA', 0, none⟩) ((N + 1 : Nat)) cA', .slice (some ⟨gN, 0, none⟩) N cN, .int .i64 k]) →
      w'.cell? ⟨C, 0, none⟩ = some (.pointer (some ⟨b, 0, none⟩)) ∧ w'.cell? ⟨b, 1, none⟩ = some (.slice (some ⟨gN, 0, none⟩) N cN) := by
    intro d As w' h h2 h3
    exact ⟨by rw [h.box_cell _ h2 0]; rfl, by rw [h.box_cell _ h3 1]; rfl⟩
  have hm1 := Lib.hid m1
  clear m1
  obtain ⟨hE1, hE2⟩ := hm1.out 0 _ _ hU'.out.drew rfl rfl
  obtain ⟨k0, hknf, hk0, hk1, hk2⟩ := info_parts info_rows
  have hco := Lib.hid (compact_any 0 hU'.out.drew rfl (by omega))
  go_wp2_with fail
  rename_i K1 hK1
  have hE : w9.drew.cell? ⟨C, 0, none⟩ = some (.pointer (some ⟨b, 0, none⟩)) ∧ w9.drew.cell? ⟨b, 1, none⟩ = some (.slice (some ⟨gN, 0, none⟩) N cN) := ⟨hE1, hE2⟩
  refine wp_region_E (S := fun w' => w'.cell? ⟨C, 0, none⟩ = some (.pointer (some ⟨b, 0, none⟩)) ∧ w'.cell? ⟨b, 1, none⟩ = some (.slice (some ⟨gN, 0, none⟩) N cN)) 13 (by kernel_rfl) ?_
  simp only [List.size_toArray, List.length_cons, List.length_nil, Nat.reduceAdd]
  refine wpE_take (i := 0) (v := ?_) rfl (by kernel_rfl) (by kernel_rfl) (by kernel_rfl) (by kernel_rfl) (fun _ _ _ h => h) (Or.inl ⟨by rfl, ?_⟩) hE ?_
  rotate_left
  · intro w hw; obtain ⟨e1, e2⟩ := hw; go_simp
    try with_reducible rfl
  simp only [Act.put]
  try simp only [List.setIfInBounds_toArray]
  refine wpE_take (i := 1) (v := ?_) rfl (by kernel_rfl) (by kernel_rfl) (by kernel_rfl) (by kernel_rfl) (fun _ _ _ h => h) (Or.inl ⟨by rfl, ?_⟩) hE ?_
  rotate_left
  · intro w hw; obtain ⟨e1, e2⟩ := hw; go_simp
    try with_reducible rfl
  simp only [Act.put]
  try simp only [List.setIfInBounds_toArray]
  refine wpE_take (i := 2) (v := ?_) rfl (by kernel_rfl) (by kernel_rfl) (by kernel_rfl) (by kernel_rfl) (fun _ _ _ h => h) (Or.inl ⟨by rfl, ?_⟩) hE ?_
  rotate_left
  · intro w hw; obtain ⟨e1, e2⟩ := hw; go_simp
    try with_reducible rfl
  simp only [Act.put]
  try simp only [List.setIfInBounds_toArray]
  refine wpE_take (i := 3) (v := ?_) rfl (by kernel_rfl) (by kernel_rfl) (by kernel_rfl) (by kernel_rfl) (fun _ _ _ h => h) (Or.inl ⟨by rfl, ?_⟩) hE ?_
  rotate_left
  · intro w hw; obtain ⟨e1, e2⟩ := hw; go_simp
    try with_reducible rfl
  simp only [Act.put]
  try simp only [List.setIfInBounds_toArray]
  refine wpE_take (i := 4) (v := ?_) rfl (by kernel_rfl) (by kernel_rfl) (by kernel_rfl) (by kernel_rfl) (fun _ _ _ h => h) (Or.inl ⟨by rfl, ?_⟩) hE ?_
  rotate_left
  · intro w hw; obtain ⟨e1, e2⟩ := hw; go_simp
    try with_reducible rfl
  simp only [Act.put]
  try simp only [List.setIfInBounds_toArray]
  refine wpE_take (i := 5) (v := ?_) rfl (by kernel_rfl) (by kernel_rfl) (by kernel_rfl) (by kernel_rfl) (fun _ _ _ h => h) (Or.inl ⟨by rfl, ?_⟩) hE ?_
  rotate_left
  · intro w hw; obtain ⟨e1, e2⟩ := hw; go_simp
    try with_reducible rfl
  simp only [Act.put]
  try simp only [List.setIfInBounds_toArray]
  refine wpE_take (i := 6) (v := ?_) rfl (by kernel_rfl) (by kernel_rfl) (by kernel_rfl) (by kernel_rfl) (fun _ _ _ h => h) (Or.inl ⟨by rfl, ?_⟩) hE ?_
  rotate_left
  · intro w hw; obtain ⟨e1, e2⟩ := hw; go_simp
    try with_reducible rfl
  simp only [Act.put]
  try simp only [List.setIfInBounds_toArray]
  refine wpE_one (i := 7) (by kernel_rfl) rfl (fun K hK => ?_)
  go_simp
  go_at_call 17
  refine hco.out.mono ?_
  rintro e w10 ⟨v10, rfl, hS10⟩
  simp only [List.set_cons_zero] at hS10
  obtain ⟨A10, c10, rfl, _⟩ := (hS10.ints 0 rfl).shape
  have r0 := hm1.out 0 _ _ hS10 rfl rfl
  have hSn := Lib.hid (hS10.alloc (.cells #[.slice A10 (Lib.compact need).length c10] 33))
  have r1 := hm1.out 0 _ _ hSn.out rfl rfl
  have hS10' := Lib.hid hS10
  clear hS10
  dsimp only
  refine hK _ _ (fun _ => r0) ?_
  clear hK K
  try simp only [Act.put]
  try simp only [List.setIfInBounds_toArray]
  refine wpE_one (i := 8) (by kernel_rfl) rfl (fun K hK => ?_)
  go_simp
  refine hK _ _ (fun _ => r1) ?_
  clear hK K
  try simp only [Act.put]
  try simp only [List.setIfInBounds_toArray]
  refine wpE_one (i := 9) (by kernel_rfl) rfl (fun K hK => ?_)
  refine step_append_sep 6 (by rfl) _ _ 23 (by rfl) 33 k0 _ 1 24 Tryz.underlying23 hknf hk0 hk1 hk2 rfl (by decide) hSn.out (.slice (some ⟨gN, 0, none⟩) N cN) N vs (by rfl) (by rfl) ⟨w10.heap.size, 0, none⟩ 1 1 [.slice A10 (Lib.compact need).length c10] (by rfl) (by rfl) (cells_new _ _ _ _ (by simp)) (by simp [Value.oneCell']) (by decide) (by unfold maxLen; omega) (by omega) ?_
  intro gN' cN' w11 hSc hzc
  simp only [List.set_cons_zero, List.set_cons_succ] at hSc
  have r2 := hm1.out 0 _ _ hSc rfl rfl
  have r3 := hSc.box_frozen 4 rfl 1
  replace hSc := Lib.hid hSc
  clear hzc
  obtain ⟨r4, r5⟩ := r2
  refine hK _ _ (fun _ => ⟨r4, r5⟩) ?_
  clear hK K
  try simp only [Act.put]
  try simp only [List.setIfInBounds_toArray]
  refine wpE_one (i := 10) (by kernel_rfl) rfl (fun K hK => ?_)
  go_simp
  refine hK _ _ (fun _ => ⟨r4, r5⟩) ?_
  clear hK K
  try simp only [Act.put]
  try simp only [List.setIfInBounds_toArray]
  refine wpE_one (i := 11) (by kernel_rfl) rfl (fun K hK => ?_)
  go_simp
  refine hK _ _ (fun _ => ⟨r4, r5⟩) ?_
  clear hK K
  try simp only [Act.put]
  try simp only [List.setIfInBounds_toArray]
  refine wpE_one (i := 12) (by kernel_rfl) rfl (fun K hK => ?_)
  go_simp
  refine hK _ _ (fun _ => ⟨r4, r5⟩) ?_
  clear hK K
  try simp only [Act.put]
  try simp only [List.setIfInBounds_toArray]
  refine wpE_one (i := 13) (by kernel_rfl) rfl (fun K hK => ?_)
  go_simp
  refine hK _ _ (fun h => absurd rfl h) ?_
  clear hK K
  try simp only [Act.put]
  try simp only [List.setIfInBounds_toArray]
  refine wpE_done (by kernel_rfl) ?_ _
  have hT := hSc.out.box_stored 4 rfl 1 (.slice (some ⟨gN', 0, none⟩) (N + 1) cN')
  apply hK1
  refine cut_from7 k r N hal hxl hk hr hx' hx0' hm hrl' hl0 hnm (gA' := gA') (cA' := cA') (gN' := gN') (cN' := cN') (vs1 := vs ++ [.slice A10 (Lib.compact need).length c10]) (xss1 := xss ++ [normL (xs0 ++ [(r : Int)])]) (acts1 := acts ++ [⟨3, nm, x.to, 0, 0⟩]) (by simp [hv]) (Lib.hid rfl) (Lib.hid rfl) ⟨rfl, rfl, rfl⟩ ?_
  rw [List.zipWith_append (by omega)]
  have e : Lib.compact need = normL (xs0 ++ [(r : Int)]) := by rw [hneed'.out]; rfl
  have hT2 := hT.perm (Bs := .box M 3 #[.int .i64 (N : Int)] :: .box Rr 3 #[.int .i64 r] :: .box C 43 #[.pointer (some ⟨b, 0, none⟩)] :: .box b 48 #[.slice (some ⟨gA', 0, none⟩) ((N + 1 : Nat)) cA', .slice (some ⟨gN', 0, none⟩) ((N + 1 : Nat)) cN', .int .i64 k] :: insR (.slice (some ⟨gA', 0, none⟩) (N + 1) cA') (acts ++ [⟨3, nm, x.to, 0, 0⟩]) :: .sl 33 1 (.slice (some ⟨gN', 0, none⟩) (N + 1) cN') (N + 1) (vs ++ [.slice A10 (Lib.compact need).length c10]) :: ((List.zipWith intsR vs xss ++ [intsR (.slice A10 (Lib.compact need).length c10) (Lib.compact need)]) ++ R)) (by
    simp only [List.append_assoc, List.singleton_append]
    exact (List.perm_middle (l₁ := _ :: _ :: _ :: _ :: _ :: _ :: List.zipWith intsR vs xss) (l₂ := R)).symm)
  rw [← e]
  exact hT2

set_option maxRecDepth 100000 in
set_option maxHeartbeats 4000000 in
theorem cut_from4 {w0 : World} {R : List Asn} {b C Rr M : Nat} {acts : List Ins} {x : Ins} {xs0 : List Int} {xss : List (List Int)} (k r N : Nat) (hal : acts.length = N) (hxl : xss.length = N) (hk : k < 100) (hr : r < N) (hx' : Hid (acts[r]? = some x)) (hx0' : Hid (xss[r]? = some xs0)) (hm : N ≤ 1000) (hrl' : Hid (∀ xs ∈ xss, xs.length ≤ 10000)) (hl0 : xs0.length ≤ 10000) {nm : ByteArray} (hnm : Hid (nm = tempS k)) {gA cA gN cN g cap : Nat} {a : Act} {w6 : World} {vs : List Value} (hv : vs.length = N) (hF : Fm 146 a [.pointer (some ⟨b, 0, none⟩), .int .i64 r, .pointer (some ⟨C, 0, none⟩), .pointer (some ⟨Rr, 0, none⟩), .pointer (some ⟨M, 0, none⟩), .string x.to, .string nm, .slice (some ⟨g, 0, none⟩) (xs0.length + 1) cap])
    (hS6 : Sep w0 w6 (.sl 3 1 (.slice (some ⟨g, 0, none⟩) (xs0.length + 1) cap) (xs0.length + 1) (xs0.map (.int .i64) ++ [.int .i64 r]) :: .box M 3 #[.int .i64 (N : Int)] :: .box Rr 3 #[.int .i64 r] :: .box C 43 #[.pointer (some ⟨b, 0, none⟩)] :: .box b 48 #[.slice (some ⟨gA, 0, none⟩) N cA, .slice (some ⟨gN, 0, none⟩) N cN, .int .i64 k] :: insR (.slice (some ⟨gA, 0, none⟩) N cA) acts :: .sl 33 1 (.slice (some ⟨gN, 0, none⟩) N cN) N vs :: (List.zipWith intsR vs xss ++ R))) :
    (cutFrom 4).wp Tryz.prog (bodyPost Tryz.prog Tryz.f22 fun e w' => e = .returned (.tuple #[]) ∧ CutPost w0 b k r N acts x xs0 xss R w') a w6 := by
  obtain ⟨f, rfl⟩ := Fm.lit (m := 138) hF rfl
  simp only [lits, List.cons_append, List.nil_append]
  conv => arg 2; whnf
  have q1 : (0 : Int) ≤ (r : Int) := by omega
  have q2 : (r : Int) < (N : Int) := by omega
  have e : (.sl 3 1 (.slice (some ⟨g, 0, none⟩) (xs0.length + 1) cap) (xs0.length + 1) (xs0.map (.int .i64) ++ [.int .i64 r]) : Asn) = intsR (.slice (some ⟨g, 0, none⟩) (xs0.length + 1) cap) (xs0 ++ [(r : Int)]) := by
    unfold intsR
    rw [List.map_append, List.length_append]
    rfl
  rw [e] at hS6
  have hso := Lib.hid (sortints_any 0 hS6 rfl (by simp; omega))
  clear e
  go_wp2_with (go_at_call 33; refine hso.out.mono ?_; rintro e w7 ⟨rfl, hS7⟩; have hS7' := Lib.hid hS7; clear hS7 hso)
  have hS7 : Sep w0 w7 (intsR (.slice (some ⟨g, 0, none⟩) (xs0.length + 1) cap) (sortL (xs0 ++ [(r : Int)])) :: .box M 3 #[.int .i64 (N : Int)] :: .box Rr 3 #[.int .i64 r] :: .box C 43 #[.pointer (some ⟨b, 0, none⟩)] :: .box b 48 #[.slice (some ⟨gA, 0, none⟩) N cA, .slice (some ⟨gN, 0, none⟩) N cN, .int .i64 k] :: insR (.slice (some ⟨gA, 0, none⟩) N cA) acts :: .sl 33 1 (.slice (some ⟨gN, 0, none⟩) N cN) N vs :: (List.zipWith intsR vs xss ++ R)) := hS7'.out
  clear hS7' hS6
  obtain ⟨need, hneed⟩ : ∃ l, l = sortL (xs0 ++ [(r : Int)]) := ⟨_, rfl⟩
  have hnl : need.length = xs0.length + 1 := by rw [hneed, (sortL_perm _).length_eq]; simp
  rw [← hneed] at hS7
  obtain ⟨j0, hjnf, hj0, hj1, hj2⟩ := info_parts info_ins
  have hneed' := Lib.hid hneed
  have hS7' := Lib.hid hS7
  clear hS7 hneed
  go_wp2_with fail
  rename_i K1 hK1
  have n1 : w7.cell? ⟨C, 0, none⟩ = some (.pointer (some ⟨b, 0, none⟩)) := by rw [hS7'.out.box_cell 3 rfl 0]; rfl
  have n2 : w7.cell? ⟨b, 0, none⟩ = some (.slice (some ⟨gA, 0, none⟩) N cA) := by rw [hS7'.out.box_cell 4 rfl 0]; rfl
  have hSn := (hS7'.out.alloc (.cells #[.int .i64 3, .string nm, .string x.to, .int .i64 0, .int .i64 0] 29)).drew
  have hSm := hS7'.out.alloc (.cells #[.int .i64 3, .string nm, .string x.to, .int .i64 0, .int .i64 0] 29)
  have n3 : (w7.alloc (.cells #[.int .i64 3, .string nm, .string x.to, .int .i64 0, .int .i64 0] 29)).cell? ⟨b, 0, none⟩ = some (.slice (some ⟨gA, 0, none⟩) N cA) := by rw [hSm.box_cell 4 rfl 0]; rfl
  have hSn' := Lib.hid hSn
  have hSm' := Lib.hid hSm
  clear hSm
  have keep : ∀ (As : List Asn) (w' : World), Sep w0 w' As → As[3]? = some (.box C 43 #[.pointer (some ⟨b, 0, none⟩)]) → w'.cell? ⟨C, 0, none⟩ = some (.pointer (some ⟨b, 0, none⟩)) := by
    intro As w' h h2
    rw [h.box_cell _ h2 0]; rfl
  have keep' := Lib.hid keep
  have n4 : (w7.alloc (.cells #[.int .i64 3, .string nm, .string x.to, .int .i64 0, .int .i64 0] 29)).cell? ⟨C, 0, none⟩ = some (.pointer (some ⟨b, 0, none⟩)) := by rw [hSm'.out.box_cell 3 rfl 0]; rfl
  have hcb : ∀ (As : List Asn) (w' : World), Sep w0 w' As → As[4]? = some (.box b 48 #[.slice (some ⟨gA, 0, none⟩) N cA, .slice (some ⟨gN, 0, none⟩) N cN, .int .i64 k]) → w'.cell? ⟨b, 0, none⟩ = some (.slice (some ⟨gA, 0, none⟩) N cA) := by
    intro As w' h h2
    rw [h.box_cell _ h2 0]; rfl
  have hcb' := Lib.hid hcb
  have hins : insR (.slice (some ⟨gA, 0, none⟩) N cA) acts = .sl 29 5 (.slice (some ⟨gA, 0, none⟩) N cA) N (insCells acts) := by unfold insR; rw [hal]
  have hins' := Lib.hid (congrArg some hins)
  clear hcb hins
  have insLen : (insCells acts).length = N * 5 := by rw [insCells_len, hal]
  have insLen' := Lib.hid insLen
  clear hSn keep insLen
  have hE : w7.drew.cell? ⟨C, 0, none⟩ = some (.pointer (some ⟨b, 0, none⟩)) ∧ w7.drew.cell? ⟨b, 0, none⟩ = some (.slice (some ⟨gA, 0, none⟩) N cA) := ⟨n1, n2⟩
  refine wp_region_E (S := fun w' => w'.cell? ⟨C, 0, none⟩ = some (.pointer (some ⟨b, 0, none⟩)) ∧ w'.cell? ⟨b, 0, none⟩ = some (.slice (some ⟨gA, 0, none⟩) N cA)) 14 (by kernel_rfl) ?_
  simp only [List.size_toArray, List.length_cons, List.length_nil, Nat.reduceAdd]
  refine wpE_take (i := 0) (v := ?_) rfl (by kernel_rfl) (by kernel_rfl) (by kernel_rfl) (by kernel_rfl) (fun _ _ _ h => h) (Or.inl ⟨by rfl, ?_⟩) hE ?_
  rotate_left
  · intro w hw; obtain ⟨e1, e2⟩ := hw; go_simp
    try with_reducible rfl
  simp only [Act.put]
  try simp only [List.setIfInBounds_toArray]
  refine wpE_take (i := 1) (v := ?_) rfl (by kernel_rfl) (by kernel_rfl) (by kernel_rfl) (by kernel_rfl) (fun _ _ _ h => h) (Or.inl ⟨by rfl, ?_⟩) hE ?_
  rotate_left
  · intro w hw; obtain ⟨e1, e2⟩ := hw; go_simp
    try with_reducible rfl
  simp only [Act.put]
  try simp only [List.setIfInBounds_toArray]
  refine wpE_take (i := 2) (v := ?_) rfl (by kernel_rfl) (by kernel_rfl) (by kernel_rfl) (by kernel_rfl) (fun _ _ _ h => h) (Or.inl ⟨by rfl, ?_⟩) hE ?_
  rotate_left
  · intro w hw; obtain ⟨e1, e2⟩ := hw; go_simp
    try with_reducible rfl
  simp only [Act.put]
  try simp only [List.setIfInBounds_toArray]
  refine wpE_take (i := 3) (v := ?_) rfl (by kernel_rfl) (by kernel_rfl) (by kernel_rfl) (by kernel_rfl) (fun _ _ _ h => h) (Or.inl ⟨by rfl, ?_⟩) hE ?_
  rotate_left
  · intro w hw; obtain ⟨e1, e2⟩ := hw; go_simp
    try with_reducible rfl
  simp only [Act.put]
  try simp only [List.setIfInBounds_toArray]
  refine wpE_take (i := 4) (v := ?_) rfl (by kernel_rfl) (by kernel_rfl) (by kernel_rfl) (by kernel_rfl) (fun _ _ _ h => h) (Or.inl ⟨by rfl, ?_⟩) hE ?_
  rotate_left
  · intro w hw; obtain ⟨e1, e2⟩ := hw; go_simp
    try with_reducible rfl
  simp only [Act.put]
  try simp only [List.setIfInBounds_toArray]
  refine wpE_take (i := 5) (v := ?_) rfl (by kernel_rfl) (by kernel_rfl) (by kernel_rfl) (by kernel_rfl) (fun _ _ _ h => h) (Or.inl ⟨by rfl, ?_⟩) hE ?_
  rotate_left
  · intro w hw; obtain ⟨e1, e2⟩ := hw; go_simp
    try with_reducible rfl
  simp only [Act.put]
  try simp only [List.setIfInBounds_toArray]
  refine wpE_take (i := 6) (v := ?_) rfl (by kernel_rfl) (by kernel_rfl) (by kernel_rfl) (by kernel_rfl) (fun _ _ _ h => h) (Or.inl ⟨by rfl, ?_⟩) hE ?_
  rotate_left
  · intro w hw; obtain ⟨e1, e2⟩ := hw; go_simp
    try with_reducible rfl
  simp only [Act.put]
  try simp only [List.setIfInBounds_toArray]
  refine wpE_take (i := 7) (v := ?_) rfl (by kernel_rfl) (by kernel_rfl) (by kernel_rfl) (by kernel_rfl) (fun _ _ _ h => h) (Or.inl ⟨by rfl, ?_⟩) hE ?_
  rotate_left
  · intro w hw; obtain ⟨e1, e2⟩ := hw; go_simp
    try with_reducible rfl
  simp only [Act.put]
  try simp only [List.setIfInBounds_toArray]
  refine wpE_take (i := 8) (v := ?_) rfl (by kernel_rfl) (by kernel_rfl) (by kernel_rfl) (by kernel_rfl) (fun _ _ _ h => h) (Or.inl ⟨by rfl, ?_⟩) hE ?_
  rotate_left
  · intro w hw; obtain ⟨e1, e2⟩ := hw; go_simp
    try with_reducible rfl
  simp only [Act.put]
  try simp only [List.setIfInBounds_toArray]
  refine wpE_one (i := 9) (by kernel_rfl) rfl (fun K hK => ?_)
  go_simp
  refine hK _ _ (fun _ => ⟨n4, n3⟩) ?_
  clear hK K
  try simp only [Act.put]
  try simp only [List.setIfInBounds_toArray]
  refine wpE_one (i := 10) (by kernel_rfl) rfl (fun K hK => ?_)
  (refine step_append_sep 5 (by rfl) _ _ 22 (by rfl) 29 j0 _ 5 56 Tryz.underlying22 hjnf hj0 hj1 hj2 rfl (by decide) hSn'.out (.slice (some ⟨gA, 0, none⟩) N cA) N (insCells acts) hins'.out (by rfl) ⟨w7.heap.size, 0, none⟩ 1 1 [.int .i64 3, .string nm, .string x.to, .int .i64 0, .int .i64 0] (by rfl) (by rfl) (cells_new _ _ _ _ (by simp)) (by simp [Value.oneCell']) (by decide) (by unfold maxLen; omega) (by omega) ?_)
  intro gA' cA' w8 hSc hzc
  have r0 := keep'.out _ _ hSc rfl
  have r1 := hcb'.out _ _ hSc rfl
  have r2 := hSc.box_frozen 4 rfl 0
  replace hSc := Lib.hid hSc
  clear hzc
  refine hK _ _ (fun _ => ⟨r0, r1⟩) ?_
  clear hK K
  try simp only [Act.put]
  try simp only [List.setIfInBounds_toArray]
  refine wpE_one (i := 11) (by kernel_rfl) rfl (fun K hK => ?_)
  go_simp
  refine hK _ _ (fun _ => ⟨r0, r1⟩) ?_
  clear hK K
  try simp only [Act.put]
  try simp only [List.setIfInBounds_toArray]
  refine wpE_one (i := 12) (by kernel_rfl) rfl (fun K hK => ?_)
  go_simp
  refine hK _ _ (fun _ => ⟨r0, r1⟩) ?_
  clear hK K
  try simp only [Act.put]
  try simp only [List.setIfInBounds_toArray]
  refine wpE_one (i := 13) (by kernel_rfl) rfl (fun K hK => ?_)
  go_simp
  refine hK _ _ (fun _ => ⟨r0, r1⟩) ?_
  clear hK K
  try simp only [Act.put]
  try simp only [List.setIfInBounds_toArray]
  refine wpE_one (i := 14) (by kernel_rfl) rfl (fun K hK => ?_)
  go_simp
  refine hK _ _ (fun h => absurd rfl h) ?_
  clear hK K
  try simp only [Act.put]
  try simp only [List.setIfInBounds_toArray]
  refine wpE_done (by kernel_rfl) ?_ _
  have hT := hSc.out.box_stored 4 rfl 0 (.slice (some ⟨gA', 0, none⟩) (N + 1) cA')
  apply hK1
  refine cut_from6 k r N hal hxl hk hr hx' hx0' hm hrl' hl0 hnm (gN := gN) (cN := cN) (g := g) (cap := cap) (gA' := gA') (cA' := cA') hv hnl hneed' ⟨rfl, rfl, rfl⟩ ?_
  have e : insR (.slice (some ⟨gA', 0, none⟩) (N + 1) cA') (acts ++ [⟨3, nm, x.to, 0, 0⟩]) = .sl 29 5 (.slice (some ⟨gA', 0, none⟩) (N + 1) cA') (N + 1) (insCells acts ++ [.int .i64 3, .string nm, .string x.to, .int .i64 0, .int .i64 0]) := by
    unfold insR
    rw [insCells_snoc, List.length_append, hal]
    rfl
  rw [e]
  exact hT

set_option maxRecDepth 100000 in
set_option maxHeartbeats 4000000 in
theorem cut_any {w0 w : World} {R : List Asn} {b : Nat} {va vn : Value} (k r N : Nat) {acts : List Ins} {x : Ins} {xs0 : List Int} {vs : List Value} {xss : List (List Int)} (hv : vs.length = N) (hal : acts.length = N) (hxl : xss.length = N) (hk : k < 100) (hx : acts[r]? = some x) (hx0 : xss[r]? = some xs0) (hm : N ≤ 1000)
    (hS : Sep w0 w (.box b 48 #[va, vn, .int .i64 k] :: insR va acts :: .sl 33 1 vn N vs :: (List.zipWith intsR vs xss ++ R))) (hrl : ∀ xs ∈ xss, xs.length ≤ 10000) :
    Calls Tryz.prog 22 #[.pointer (some ⟨b, 0, none⟩), .int .i64 r] w fun e w' => e = .returned (.tuple #[]) ∧ CutPost w0 b k r N acts x xs0 xss R w' := by
  have hr : r < N := by rw [← hal]; exact (List.getElem?_eq_some_iff.1 hx).1
  obtain ⟨gA, cA, rfl, _, _, hcA, hmA⟩ := hS.sl_form 1 rfl (by omega)
  obtain ⟨gN, cN, rfl, _, _, hcN, hmN⟩ := hS.sl_form 2 rfl (by omega)
  rw [hal] at hS hcA
  have hS1 := ((hS.box_new 43 #[.pointer (some ⟨b, 0, none⟩)]).box_new 3 #[.int .i64 r])
  have hS3 := hS1.box_new 3 #[.int .i64 (N : Int)]
  have e1 := fun (j : Nat) => hS1.box_cell 2 rfl j
  have e2 : ((w.alloc (.cells #[.pointer (some ⟨b, 0, none⟩)] 43)).alloc (.cells #[.int .i64 r] 3)).cell? ⟨b, 0, none⟩ = some (.slice (some ⟨gA, 0, none⟩) N cA) := by rw [e1]; rfl
  simp only [World.size_alloc] at hS3
  have hS3' := Lib.hid hS3
  clear e1 hS1 hS3 hS
  go_enter Tryz.func22, Tryz.ntmps22
  go_wp2_with fail
  clear e2
  have hS4 := hS3'.out
  clear hS3'
  generalize (((w.alloc (.cells #[.pointer (some ⟨b, 0, none⟩)] 43)).alloc (.cells #[.int .i64 r] 3)).alloc (.cells #[.int .i64 (N : Int)] 3)) = w3 at hS4 ⊢
  generalize w.heap.size + 1 + 1 = M at hS4 ⊢
  generalize w.heap.size + 1 = Rr at hS4 ⊢
  generalize w.heap.size = C at hS4 ⊢
  have hS := Lib.hid hS4
  clear hS4
  have f1 : w3.cell? ⟨C, 0, none⟩ = some (.pointer (some ⟨b, 0, none⟩)) := by rw [hS.out.box_cell 2 rfl 0]; rfl
  have f2 : w3.cell? ⟨b, 0, none⟩ = some (.slice (some ⟨gA, 0, none⟩) N cA) := by rw [hS.out.box_cell 3 rfl 0]; rfl
  have f3 : w3.cell? ⟨Rr, 0, none⟩ = some (.int .i64 r) := by rw [hS.out.box_cell 1 rfl 0]; rfl
  have f4 : w3.cell? ⟨b, 2, none⟩ = some (.int .i64 k) := by rw [hS.out.box_cell 3 rfl 2]; rfl
  have f5 : w3.cell? ⟨gA, r * 5 + 2, none⟩ = some (.string x.to) := by
    rw [hS.out.cellAt 4 (by unfold insR; rw [hal]; rfl) (r * 5 + 2) (by omega), insCells_at hx 2 (by omega)]; rfl
  have q1 : (0 : Int) ≤ (r : Int) := by omega
  have q2 : (r : Int) < (N : Int) := by omega
  have ht : ∀ W, Calls Tryz.prog 41 #[.int .i64 k] W fun e w' => e = .returned (.string (tempS k)) ∧ ∃ n, w' = W.drewN n := fun W => (temp_any k hk W).mono fun e w' h => ⟨h.1, 0, h.2⟩
  obtain ⟨nm, hnm0⟩ : ∃ n, n = tempS k := ⟨_, rfl⟩
  rw [← hnm0] at ht
  have hnm := Lib.hid hnm0
  clear hnm0
  go_quiet ((go_at_call 41; exact Calls.quiet_of (ht _)))
  clear f1 f2 f3 f4 f5
  have hS4 := hS.out.drewN nq
  clear hS
  generalize w3.drewN nq = w4 at hS4 ⊢
  obtain ⟨u0, hu0⟩ : ∃ u, vs[r]? = some u := ⟨_, List.getElem?_eq_getElem (by omega)⟩
  have hl0 := hrl xs0 (List.mem_of_getElem? hx0)
  have hI := hS4.ints (6 + r) (by
    show (.box M _ _ :: _)[6 + r]? = some (intsR u0 xs0)
    rw [Nat.add_comm]
    show (List.zipWith intsR vs xss ++ R)[r]? = _
    rw [List.getElem?_append_left (by simp; omega)]
    exact zip_some hu0 hx0)
  obtain ⟨A0, c0, rfl, _⟩ := hI.shape
  have keep : ∀ (d : Nat) (As : List Asn) (w' : World), Sep w0 w' As → As[d + 1]? = some (.box Rr 3 #[.int .i64 r]) → As[d + 2]? = some (.box C 43 #[.pointer (some ⟨b, 0, none⟩)]) → As[d + 3]? = some (.box b 48 #[.slice (some ⟨gA, 0, none⟩) N cA, .slice (some ⟨gN, 0, none⟩) N cN, .int .i64 k]) → As[d + 5]? = some (.sl 33 1 (.slice (some ⟨gN, 0, none⟩) N cN) N vs) →
      w'.cell? ⟨C, 0, none⟩ = some (.pointer (some ⟨b, 0, none⟩)) ∧ w'.cell? ⟨b, 1, none⟩ = some (.slice (some ⟨gN, 0, none⟩) N cN) ∧ w'.cell? ⟨Rr, 0, none⟩ = some (.int .i64 r) ∧ w'.cell? ⟨gN, r, none⟩ = some (.slice A0 xs0.length c0) := by
    intro d As w' h h1 h2 h3 h5
    exact ⟨by rw [h.box_cell _ h2 0]; rfl, by rw [h.box_cell _ h3 1]; rfl, by rw [h.box_cell _ h1 0]; rfl, (h.cellAt _ h5 r (by omega)).trans hu0⟩
  have keep' := Lib.hid keep
  obtain ⟨g1, g2, g3, g4⟩ := keep 0 _ _ hS4 rfl rfl rfl rfl
  obtain ⟨i0, hinf, hz0, hz1, hz2⟩ := info_parts info_int
  have hS := Lib.hid hS4
  have hI' := Lib.hid hI
  have hu0' := Lib.hid hu0
  have hx0' := Lib.hid hx0
  have hx' := Lib.hid hx
  have hrl' := Lib.hid hrl
  clear hS4 keep hI hu0 hx0 hx hrl
  go_wp2_with fail
  rename_i K1 hK1
  have hB0 : Below w4.heap.size w4 w4.drew := (Below.refl _ w4).drew
  have hB1 : Below w4.heap.size w4 (w4.drew.alloc (.cells #[.int .i64 r] 3)) := hB0.alloc (Nat.le_refl _) _
  have hIa := Lib.hid (hI'.out.below hB0)
  have hIb := Lib.hid (hI'.out.below hB1)
  have hSd := Lib.hid hS.out.drew
  have hSl := Lib.hid (hS.out.drew.lit 3 #[.int .i64 r] (by simp [maxLen]))
  clear hB0 hB1
  have hcut : ∀ (a : Act) (w6 : World) (g cap : Nat), Fm 146 a [.pointer (some ⟨b, 0, none⟩), .int .i64 r, .pointer (some ⟨C, 0, none⟩), .pointer (some ⟨Rr, 0, none⟩), .pointer (some ⟨M, 0, none⟩), .string x.to, .string nm, .slice (some ⟨g, 0, none⟩) (xs0.length + 1) cap] →
      Sep w0 w6 (.sl 3 1 (.slice (some ⟨g, 0, none⟩) (xs0.length + 1) cap) (xs0.length + 1) (xs0.map (.int .i64) ++ [.int .i64 r]) :: .box M 3 #[.int .i64 (N : Int)] :: .box Rr 3 #[.int .i64 r] :: .box C 43 #[.pointer (some ⟨b, 0, none⟩)] :: .box b 48 #[.slice (some ⟨gA, 0, none⟩) N cA, .slice (some ⟨gN, 0, none⟩) N cN, .int .i64 k] :: insR (.slice (some ⟨gA, 0, none⟩) N cA) acts :: .sl 33 1 (.slice (some ⟨gN, 0, none⟩) N cN) N vs :: (List.zipWith intsR vs xss ++ R)) → K1 a w6 := by
    intro a w6 g cap hF hS6
    clear hIa hIb hSd hSl hS g1 g2 g3 g4 hI' keep'
    apply hK1
    exact cut_from4 k r N hal hxl hk hr hx' hx0' hm hrl' hl0 hnm hv hF hS6
  go_region_held3 (fun w' => w'.cell? ⟨C, 0, none⟩ = some (.pointer (some ⟨b, 0, none⟩)) ∧ w'.cell? ⟨b, 1, none⟩ = some (.slice (some ⟨gN, 0, none⟩) N cN) ∧ w'.cell? ⟨Rr, 0, none⟩ = some (.int .i64 r) ∧ w'.cell? ⟨gN, r, none⟩ = some (.slice A0 xs0.length c0))
    (first | (exact keep'.out 1 _ _ hSc.out rfl rfl rfl rfl) | (exact keep'.out 1 _ _ (hSa.out.alloc _) rfl rfl rfl rfl) | (exact keep'.out 1 _ _ hSa.out rfl rfl rfl rfl) | (exact keep'.out 2 _ _ hSa.out rfl rfl rfl rfl) | (exact keep'.out 0 _ _ (hSd.out.alloc _) rfl rfl rfl rfl) | go_keep)
    (first
      | (go_at_call 42; refine (clone_ints_any hIa.out (by omega)).mono ?_; rintro e w5 ⟨v5, rfl, hSx⟩; have hSa := Lib.hid (hSd.out.join hSx); clear hSx)
      | (go_at_call 42; refine (clone_ints_any hIb.out (by omega)).mono ?_; rintro e w5 ⟨v5, rfl, hSx⟩; have hSa := Lib.hid (hSl.out.join hSx); clear hSx)
      | ((refine step_append_sep 0 (by rfl) _ _ 33 (by rfl) 3 i0 (.int .i64 0) 1 8 Tryz.underlying33 hinf hz0 hz1 hz2 rfl (by decide) (hSa.out.alloc (.cells #[.int .i64 r] 3)) v5 xs0.length (xs0.map (.int .i64)) (by rfl) (by rfl) ⟨w5.heap.size, 0, none⟩ 1 1 [.int .i64 r] (by rfl) (by rfl) (cell_one_new _ _ _) (by simp [Value.oneCell']) (by decide) (by unfold maxLen; omega) (by omega) ?_); intro g cap w6 hSc hzc; simp only [List.singleton_append, List.set_cons_zero] at hSc; replace hSc := Lib.hid hSc; clear hzc)
      | ((refine step_append_sep 0 (by rfl) _ _ 33 (by rfl) 3 i0 (.int .i64 0) 1 8 Tryz.underlying33 hinf hz0 hz1 hz2 rfl (by decide) hSa.out v5 xs0.length (xs0.map (.int .i64)) (by rfl) (by rfl) ⟨w4.heap.size, 0, none⟩ 1 1 [.int .i64 r] (by rfl) (by rfl) (Rd.news (hSa.out.rd 1 rfl)) (by simp [Value.oneCell']) (by decide) (by unfold maxLen; omega) (by omega) ?_); intro g cap w6 hSc0 hzc; have hSc := Lib.hid (Sep.drop 1 (Sep.sel [1, 0] hSc0 (by decide) (by simp))); clear hSc0 hzc)
      | fail)
  · refine hcut _ _ _ _ ⟨rfl, rfl, rfl⟩ hSc.out
  · refine hcut _ _ _ _ ⟨rfl, rfl, rfl⟩ hSc.out
end Go.Proofs.YtioonfceamgpmaaGreatDoor
