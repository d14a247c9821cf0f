/- cut's closure mend, walked. -/
import Derived.Test.YtioonfceamgpmaaDoorFirst
import Derived.Test.YtioonfceamgpmaaDoorApp
namespace Go.Proofs.YtioonfceamgpmaaDoor
open Go.RowKit Go.Shelf
set_option linter.unusedVariables false

theorem info_rows : (Tryd.prog.info? 27).map (fun i => (i.zero, i.size, i.bytes)) = some (some (.slice none 0 0), 1, 24) := by kernel_rfl

theorem set_perm {α : Type} : ∀ (L : List α) (k : Nat) (X Y : α), L[k]? = some Y → (X :: L).Perm (Y :: L.set k X)
  | [], k, _, _, h => by simp at h
  | y :: L, 0, X, Y, h => by
    simp at h
    subst h
    exact List.Perm.swap _ _ _
  | y :: L, k + 1, X, Y, h => by
    have h' : L[k]? = some Y := by simpa using h
    exact (List.Perm.swap _ _ _).trans (((set_perm L k X Y h').cons y).trans (List.Perm.swap _ _ _))
/-- A part takes another one's place. -/
theorem Sep.inplace {w0 w : World} {L : List Asn} {X Y : Asn} (k : Nat) (h : Sep w0 w (X :: L)) (hk : L[k]? = some Y) : Sep w0 w (L.set k X) :=
  Sep.drop 1 (h.perm (set_perm L k X Y hk))

/-- What mend leaves: r is out, more is in. -/
def mendL (r more : Int) (l : List Int) : List Int := l.filter (fun k => decide (k ≠ r)) ++ [more]

/-- The cutter, its captures, its needs laid open. -/
def cutAs (b C Rr M : Nat) (va vn : Value) (k r more : Int) (N : Nat) (vs : List Value) (xss : List (List Int)) (R : List Asn) : List Asn :=
  .sl 27 1 vn N vs :: .box b 41 #[va, vn, .int .i64 k] :: .box C 36 #[.pointer (some ⟨b, 0, none⟩)] :: .box Rr 3 #[.int .i64 r] :: .box M 3 #[.int .i64 more] :: (List.zipWith intsR vs xss ++ R)

set_option maxRecDepth 100000 in
set_option maxHeartbeats 1000000 in
theorem mend_any {w0 w : World} {R : List Asn} {b C Rr M gN cN : Nat} {va : Value} {k : Int} (r more : Int) {vs : List Value} {xss : List (List Int)} (hv : vs.length = xss.length)
    (hS : Sep w0 w (cutAs b C Rr M va (.slice (some ⟨gN, 0, none⟩) xss.length cN) k r more xss.length vs xss R)) (i : Nat) (xs : List Int) (hi : xss[i]? = some xs) (hl : xs.length ≤ 1048576) :
    Calls Tryd.prog 29 #[.int .i64 i, .pointer (some ⟨C, 0, none⟩), .pointer (some ⟨Rr, 0, none⟩), .pointer (some ⟨M, 0, none⟩)] w fun e w' => e = .returned (.tuple #[]) ∧
      ∃ u, Sep w0 w' (cutAs b C Rr M va (.slice (some ⟨gN, 0, none⟩) xss.length cN) k r more xss.length (vs.set i u) (xss.set i (mendL r more xs)) R) := by
  have hlt : i < xss.length := (List.getElem?_eq_some_iff.1 hi).1
  obtain ⟨i0, hinf, hz0, hz1, hz2⟩ := info_parts info_int
  obtain ⟨u0, hu0⟩ : ∃ u, vs[i]? = some u := ⟨_, List.getElem?_eq_getElem (by omega)⟩
  have hrow : (cutAs b C Rr M va (.slice (some ⟨gN, 0, none⟩) xss.length cN) k r more xss.length vs xss R)[i + 5]? = some (intsR u0 xs) := by
    show (List.zipWith intsR vs xss ++ R)[i]? = _
    rw [List.getElem?_append_left (by simp; omega)]
    exact zip_some hu0 hi
  have hI := hS.ints (i + 5) hrow
  obtain ⟨A0, c0, rfl, hm0⟩ := hI.shape
  have hc1 : w.cell? ⟨C, 0, none⟩ = some (.pointer (some ⟨b, 0, none⟩)) := by rw [hS.box_cell 2 rfl 0]; rfl
  have hc2 : w.cell? ⟨b, 1, none⟩ = some (.slice (some ⟨gN, 0, none⟩) xss.length cN) := by rw [hS.box_cell 1 rfl 1]; rfl
  have hc3 : w.cell? ⟨gN, i, none⟩ = some (.slice A0 xs.length c0) := (hS.cellAt 0 rfl i (by omega)).trans hu0
  have q0 : (0 : Int) ≤ (i : Int) := by omega
  have q1 : (i : Int) < (xss.length : Int) := by omega
  have hS' := Lib.hid hS
  have hrow' := Lib.hid hrow
  have hu0' := Lib.hid hu0
  have hi' := Lib.hid hi
  clear hS hrow hu0 hi
  go_enter Tryd.func29, Tryd.ntmps29
  go_wp2_with fail
  have hT0 := Lib.hid (intsR_nil hS'.out)
  go_loopw [5, 17] (fun lv jv wr => ∃ (j : Nat) (pre : List Int) (A : Option Addr) (c : Nat), j ≤ xs.length ∧ jv = .int .i64 j ∧ lv = .slice A pre.length c ∧ pre = (xs.take j).filter (fun k => decide (k ≠ r)) ∧ Sep w0 wr (intsR (.slice A pre.length c) pre :: cutAs b C Rr M va (.slice (some ⟨gN, 0, none⟩) xss.length cN) k r more xss.length vs xss R)) (fun _ jv _ => xs.length - (intOf jv).toNat)
  case atStart => exact ⟨0, [], none, 0, Nat.zero_le _, rfl, rfl, rfl, hT0.out⟩
  case round =>
    obtain ⟨j, pre, A, c, hj, rfl, rfl, hpre, hS⟩ := hrel
    by_cases hjl : j < xs.length
    · obtain ⟨ad, c', e, h3⟩ := (hS.ints (i + 6) hrow'.out).at_ hjl
      cases e
      have hcR : wr.cell? ⟨Rr, 0, none⟩ = some (.int .i64 r) := by rw [hS.box_cell 4 rfl 0]; rfl
      have b1 : (j : Int) < (xs.length : Int) := by omega
      have b2 : (0 : Int) ≤ (j : Int) := by omega
      have hpl : pre.length ≤ j := by rw [hpre]; exact Nat.le_trans (List.length_filter_le _ _) (by rw [List.length_take]; omega)
      have hnext : (xs.take (j + 1)).filter (fun k => decide (k ≠ r)) = if xs[j] = r then pre else pre ++ [xs[j]] := by
        rw [List.take_add_one, List.getElem?_eq_getElem hjl, Option.toList, List.filter_append, ← hpre]
        by_cases e : xs[j] = r <;> simp [e]
      generalize xs[j] = y at h3 hnext
      have hpre' := Lib.hid hpre
      have hSr := Lib.hid hS
      by_cases e : y = r
      · rw [if_pos e] at hnext
        subst e
        have hnext' := Lib.hid hnext
        have b3 : (y != y) = false := by simp
        clear hnext hpre hS
        go_wp2_with fail
        all_goals exact ⟨⟨j + 1, pre, A, c, by omega, by go_num, rfl, hnext'.out.symm, hSr.out⟩, by simp [intOf]; omega⟩
      · rw [if_neg e] at hnext
        have hnext' := Lib.hid hnext
        have b3 : (y != r) = true := by simpa using e
        clear hnext hpre hS
        go_wp2_with (first
          | (at_builtin; refine wpList_append_sep 0 rfl _ _ 27 rfl 3 i0 (.int .i64 0) 1 8 Tryd.underlying27 hinf hz0 hz1 hz2 rfl (by decide) (hSr.out.alloc (.cells #[.int .i64 y] 3)) _ _ _ rfl rfl ⟨wr.heap.size, 0, none⟩ 1 1 [.int .i64 y] rfl rfl (cell_one_new _ _ _) (by simp [Value.oneCell']) (by decide) (by unfold maxLen; omega) (by omega) ?_)
          | fail)
        intro g cap w1 hS2 hsz
        have hS3 : Sep w0 w1 (intsR (.slice (some ⟨g, 0, none⟩) (pre ++ [y]).length cap) (pre ++ [y]) :: cutAs b C Rr M va (.slice (some ⟨gN, 0, none⟩) xss.length cN) k r more xss.length vs xss R) := by
          simpa [intsR] using hS2
        have hS3' := Lib.hid hS3
        clear hS2 hS3 hsz hSr
        go_wp2_with fail
        all_goals exact ⟨⟨j + 1, pre ++ [y], _, cap, by omega, by go_num, by simp, hnext'.out.symm, hS3'.out⟩, by simp [intOf]; omega⟩
    · obtain rfl : j = xs.length := by omega
      rw [List.take_length] at hpre
      have hpl : pre.length ≤ xs.length := by rw [hpre]; exact List.length_filter_le _ _
      have hpre' := Lib.hid hpre
      have hSr := Lib.hid hS
      have k1 : wr.cell? ⟨C, 0, none⟩ = some (.pointer (some ⟨b, 0, none⟩)) := by rw [hS.box_cell 3 rfl 0]; rfl
      have k2 : wr.cell? ⟨b, 1, none⟩ = some (.slice (some ⟨gN, 0, none⟩) xss.length cN) := by rw [hS.box_cell 2 rfl 1]; rfl
      have k3 : wr.cell? ⟨M, 0, none⟩ = some (.int .i64 more) := by rw [hS.box_cell 5 rfl 0]; rfl
      have hS2 := Lib.hid (hS.drew.alloc (.cells #[.int .i64 more] 3))
      have keep : ∀ (As : List Asn) (w' : World), Sep w0 w' As → As[2]? = some (.box b 41 #[va, .slice (some ⟨gN, 0, none⟩) xss.length cN, .int .i64 k]) → As[3]? = some (.box C 36 #[.pointer (some ⟨b, 0, none⟩)]) → As[5]? = some (.box M 3 #[.int .i64 more]) →
          w'.cell? ⟨C, 0, none⟩ = some (.pointer (some ⟨b, 0, none⟩)) ∧ w'.cell? ⟨b, 1, none⟩ = some (.slice (some ⟨gN, 0, none⟩) xss.length cN) ∧ w'.cell? ⟨M, 0, none⟩ = some (.int .i64 more) := by
        intro As w' h h2 h3 h5
        exact ⟨by rw [h.box_cell 3 h3 0]; rfl, by rw [h.box_cell 2 h2 1]; rfl, by rw [h.box_cell 5 h5 0]; rfl⟩
      have keep' := Lib.hid keep
      clear keep hS hpre
      go_wp2_with fail
      go_region_held3 (fun w' => w'.cell? ⟨C, 0, none⟩ = some (.pointer (some ⟨b, 0, none⟩)) ∧ w'.cell? ⟨b, 1, none⟩ = some (.slice (some ⟨gN, 0, none⟩) xss.length cN) ∧ w'.cell? ⟨M, 0, none⟩ = some (.int .i64 more))
        (first | (exact keep'.out _ _ (hSa.out.stored 1 rfl i _) rfl rfl rfl) | (exact keep'.out _ _ hSa.out rfl rfl rfl) | (exact keep'.out _ _ hS2.out rfl rfl rfl) | go_keep)
        (first
          | ((refine step_append_sep 0 (by rfl) _ _ 27 (by rfl) 3 i0 (.int .i64 0) 1 8 Tryd.underlying27 hinf hz0 hz1 hz2 rfl (by decide) hS2.out (.slice A pre.length c) pre.length (pre.map (.int .i64)) (by rfl) (by rfl) ⟨wr.heap.size, 0, none⟩ 1 1 [.int .i64 more] (by rfl) (by rfl) (cell_one_new _ _ _) (by simp [Value.oneCell']) (by decide) (by unfold maxLen; omega) (by omega) ?_); intro g cap w2 hSa hza; have r1 := hSa.cellAt 1 rfl i (by omega); rw [hu0'.out] at r1; have r2 := hSa.frozenAt 1 rfl i; replace hSa := Lib.hid hSa; clear hza)
          | fail)
      go_wp2_with fail
      go_end0
      refine ⟨rfl, .slice (some ⟨g, 0, none⟩) (pre.length + 1) cap, ?_⟩
      have h1 := hSa.out.stored 1 rfl i (.slice (some ⟨g, 0, none⟩) (pre.length + 1) cap)
      have e : intsR (.slice (some ⟨g, 0, none⟩) (pre.length + 1) cap) (mendL r more xs) = .sl 3 1 (.slice (some ⟨g, 0, none⟩) (pre.length + 1) cap) (pre.length + 1) (pre.map (.int .i64) ++ [.int .i64 more]) := by
        rw [mendL, ← hpre'.out]
        unfold intsR
        rw [List.map_append, List.length_append]
        rfl
      unfold cutAs at h1 ⊢
      rw [zip_set, e]
      have h2 := Sep.inplace (i + 5) h1 hrow'.out
      rw [← List.set_append_left _ _ (by simp; omega)]
      exact h2
end Go.Proofs.YtioonfceamgpmaaDoor
