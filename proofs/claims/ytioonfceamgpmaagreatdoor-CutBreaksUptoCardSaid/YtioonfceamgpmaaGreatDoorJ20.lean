/- Mend, CutPlain, laid together. -/
import Derived.Test.YtioonfceamgpmaaGreatDoorJ19
import Derived.Test.YtioonfceamgpmaaGreatDoorJ13
import Derived.Test.YtioonfceamgpmaaGreatDoorJ15
namespace Go.Proofs.YtioonfceamgpmaaGreatDoor
open Go.RowKit Go.Shelf
set_option linter.unusedVariables false

theorem info_rows : (Tryz.prog.info? 33).map (fun i => (i.zero, i.size, i.bytes)) = some (some (.slice none 0 0), 1, 24) := by kernel_rfl

theorem set_perm {α : Type} : ∀ (L : List α) (k : Nat) (X Y : α), L[k]? = some Y → (X :: L).Perm (Y :: L.set k X)
  | [], k, _, _, h => by simp at h
  | y :: L, 0, X, Y, h => by
    simp at h
    subst h
    exact List.Perm.swap _ _ _
  | y :: L, k + 1, X, Y, h => by
    have h' : L[k]? = some Y := by simpa using h
    exact (List.Perm.swap _ _ _).trans (((set_perm L k X Y h').cons y).trans (List.Perm.swap _ _ _))
/-- A part takes another one's place. -/
theorem Sep.inplace {w0 w : World} {L : List Asn} {X Y : Asn} (k : Nat) (h : Sep w0 w (X :: L)) (hk : L[k]? = some Y) : Sep w0 w (L.set k X) :=
  Sep.drop 1 (h.perm (set_perm L k X Y hk))

/-- What mend leaves: r is out, more is in. -/
def mendL (r more : Int) (l : List Int) : List Int := l.filter (fun k => decide (k ≠ r)) ++ [more]

/-- The cutter, its captures, its needs laid open. -/
def cutAs (b C Rr M : Nat) (va vn : Value) (k r more : Int) (N : Nat) (vs : List Value) (xss : List (List Int)) (R : List Asn) : List Asn :=
  .sl 33 1 vn N vs :: .box b 48 #[va, vn, .int .i64 k] :: .box C 43 #[.pointer (some ⟨b, 0, none⟩)] :: .box Rr 3 #[.int .i64 r] :: .box M 3 #[.int .i64 more] :: (List.zipWith intsR vs xss ++ R)

set_option maxRecDepth 100000 in
set_option maxHeartbeats 1000000 in
theorem mend_any {w0 w : World} {R : List Asn} {b C Rr M gN cN : Nat} {va : Value} {k : Int} (r more : Int) {vs : List Value} {xss : List (List Int)} (hv : vs.length = xss.length)
    (hS : Sep w0 w (cutAs b C Rr M va (.slice (some ⟨gN, 0, none⟩) xss.length cN) k r more xss.length vs xss R)) (i : Nat) (xs : List Int) (hi : xss[i]? = some xs) (hl : xs.length ≤ 1048576) :
    Calls Tryz.prog 43 #[.int .i64 i, .pointer (some ⟨C, 0, none⟩), .pointer (some ⟨Rr, 0, none⟩), .pointer (some ⟨M, 0, none⟩)] w fun e w' => e = .returned (.tuple #[]) ∧
      ∃ u, Sep w0 w' (cutAs b C Rr M va (.slice (some ⟨gN, 0, none⟩) xss.length cN) k r more xss.length (vs.set i u) (xss.set i (mendL r more xs)) R) := by
  have hlt : i < xss.length := (List.getElem?_eq_some_iff.1 hi).1
  obtain ⟨i0, hinf, hz0, hz1, hz2⟩ := info_parts info_int
  obtain ⟨u0, hu0⟩ : ∃ u, vs[i]? = some u := ⟨_, List.getElem?_eq_getElem (by omega)⟩
  have hrow : (cutAs b C Rr M va (.slice (some ⟨gN, 0, none⟩) xss.length cN) k r more xss.length vs xss R)[i + 5]? = some (intsR u0 xs) := by
    show (List.zipWith intsR vs xss ++ R)[i]? = _
    rw [List.getElem?_append_left (by simp; omega)]
    exact zip_some hu0 hi
  have hI := hS.ints (i + 5) hrow
  obtain ⟨A0, c0, rfl, hm0⟩ := hI.shape
  have hc1 : w.cell? ⟨C, 0, none⟩ = some (.pointer (some ⟨b, 0, none⟩)) := by rw [hS.box_cell 2 rfl 0]; rfl
  have hc2 : w.cell? ⟨b, 1, none⟩ = some (.slice (some ⟨gN, 0, none⟩) xss.length cN) := by rw [hS.box_cell 1 rfl 1]; rfl
  have hc3 : w.cell? ⟨gN, i, none⟩ = some (.slice A0 xs.length c0) := (hS.cellAt 0 rfl i (by omega)).trans hu0
  have q0 : (0 : Int) ≤ (i : Int) := by omega
  have q1 : (i : Int) < (xss.length : Int) := by omega
  have hS' := Lib.hid hS
  have hrow' := Lib.hid hrow
  have hu0' := Lib.hid hu0
  have hi' := Lib.hid hi
  clear hS hrow hu0 hi
  go_enter Tryz.func43, Tryz.ntmps43
  go_wp2_with fail
  have hT0 := Lib.hid (intsR_nil hS'.out)
  go_loopw [5, 17] (fun lv jv wr => ∃ (j : Nat) (pre : List Int) (A : Option Addr) (c : Nat), j ≤ xs.length ∧ jv = .int .i64 j ∧ lv = .slice A pre.length c ∧ pre = (xs.take j).filter (fun k => decide (k ≠ r)) ∧ Sep w0 wr (intsR (.slice A pre.length c) pre :: cutAs b C Rr M va (.slice (some ⟨gN, 0, none⟩) xss.length cN) k r more xss.length vs xss R)) (fun _ jv _ => xs.length - (intOf jv).toNat)
  case atStart => exact ⟨0, [], none, 0, Nat.zero_le _, rfl, rfl, rfl, hT0.out⟩
  case round =>
    obtain ⟨j, pre, A, c, hj, rfl, rfl, hpre, hS⟩ := hrel
    by_cases hjl : j < xs.length
    · obtain ⟨ad, c', e, h3⟩ := (hS.ints (i + 6) hrow'.out).at_ hjl
      cases e
      have hcR : wr.cell? ⟨Rr, 0, none⟩ = some (.int .i64 r) := by rw [hS.box_cell 4 rfl 0]; rfl
      have b1 : (j : Int) < (xs.length : Int) := by omega
      have b2 : (0 : Int) ≤ (j : Int) := by omega
      have hpl : pre.length ≤ j := by rw [hpre]; exact Nat.le_trans (List.length_filter_le _ _) (by rw [List.length_take]; omega)
      have hnext : (xs.take (j + 1)).filter (fun k => decide (k ≠ r)) = if xs[j] = r then pre else pre ++ [xs[j]] := by
        rw [List.take_add_one, List.getElem?_eq_getElem hjl, Option.toList, List.filter_append, ← hpre]
        by_cases e : xs[j] = r <;> simp [e]
      generalize xs[j] = y at h3 hnext
      have hpre' := Lib.hid hpre
      have hSr := Lib.hid hS
      by_cases e : y = r
      · rw [if_pos e] at hnext
        subst e
        have hnext' := Lib.hid hnext
        have b3 : (y != y) = false := by simp
        clear hnext hpre hS
        go_wp2_with fail
        all_goals exact ⟨⟨j + 1, pre, A, c, by omega, by go_num, rfl, hnext'.out.symm, hSr.out⟩, by simp [intOf]; omega⟩
      · rw [if_neg e] at hnext
        have hnext' := Lib.hid hnext
        have b3 : (y != r) = true := by simpa using e
        clear hnext hpre hS
        go_wp2_with (first
          | (at_builtin; refine wpList_append_sep 0 rfl _ _ 33 rfl 3 i0 (.int .i64 0) 1 8 Tryz.underlying33 hinf hz0 hz1 hz2 rfl (by decide) (hSr.out.alloc (.cells #[.int .i64 y] 3)) _ _ _ rfl rfl ⟨wr.heap.size, 0, none⟩ 1 1 [.int .i64 y] rfl rfl (cell_one_new _ _ _) (by simp [Value.oneCell']) (by decide) (by unfold maxLen; omega) (by omega) ?_)
          | fail)
        intro g cap w1 hS2 hsz
        have hS3 : Sep w0 w1 (intsR (.slice (some ⟨g, 0, none⟩) (pre ++ [y]).length cap) (pre ++ [y]) :: cutAs b C Rr M va (.slice (some ⟨gN, 0, none⟩) xss.length cN) k r more xss.length vs xss R) := by
          simpa [intsR] using hS2
        have hS3' := Lib.hid hS3
        clear hS2 hS3 hsz hSr
        go_wp2_with fail
        all_goals exact ⟨⟨j + 1, pre ++ [y], _, cap, by omega, by go_num, by simp, hnext'.out.symm, hS3'.out⟩, by simp [intOf]; omega⟩
    · obtain rfl : j = xs.length := by omega
      rw [List.take_length] at hpre
      have hpl : pre.length ≤ xs.length := by rw [hpre]; exact List.length_filter_le _ _
      have hpre' := Lib.hid hpre
      have hSr := Lib.hid hS
      have k1 : wr.cell? ⟨C, 0, none⟩ = some (.pointer (some ⟨b, 0, none⟩)) := by rw [hS.box_cell 3 rfl 0]; rfl
      have k2 : wr.cell? ⟨b, 1, none⟩ = some (.slice (some ⟨gN, 0, none⟩) xss.length cN) := by rw [hS.box_cell 2 rfl 1]; rfl
      have k3 : wr.cell? ⟨M, 0, none⟩ = some (.int .i64 more) := by rw [hS.box_cell 5 rfl 0]; rfl
      have hS2 := Lib.hid (hS.drew.alloc (.cells #[.int .i64 more] 3))
      have keep : ∀ (As : List Asn) (w' : World), Sep w0 w' As → As[2]? = some (.box b 48 #[va, .slice (some ⟨gN, 0, none⟩) xss.length cN, .int .i64 k]) → As[3]? = some (.box C 43 #[.pointer (some ⟨b, 0, none⟩)]) → As[5]? = some (.box M 3 #[.int .i64 more]) →
          w'.cell? ⟨C, 0, none⟩ = some (.pointer (some ⟨b, 0, none⟩)) ∧ w'.cell? ⟨b, 1, none⟩ = some (.slice (some ⟨gN, 0, none⟩) xss.length cN) ∧ w'.cell? ⟨M, 0, none⟩ = some (.int .i64 more) := by
        intro As w' h h2 h3 h5
        exact ⟨by rw [h.box_cell 3 h3 0]; rfl, by rw [h.box_cell 2 h2 1]; rfl, by rw [h.box_cell 5 h5 0]; rfl⟩
      have keep' := Lib.hid keep
      clear keep hS hpre
      go_wp2_with fail
      go_region_held3 (fun w' => w'.cell? ⟨C, 0, none⟩ = some (.pointer (some ⟨b, 0, none⟩)) ∧ w'.cell? ⟨b, 1, none⟩ = some (.slice (some ⟨gN, 0, none⟩) xss.length cN) ∧ w'.cell? ⟨M, 0, none⟩ = some (.int .i64 more))
        (first | (exact keep'.out _ _ (hSa.out.stored 1 rfl i _) rfl rfl rfl) | (exact keep'.out _ _ hSa.out rfl rfl rfl) | (exact keep'.out _ _ hS2.out rfl rfl rfl) | go_keep)
        (first
          | ((refine step_append_sep 0 (by rfl) _ _ 33 (by rfl) 3 i0 (.int .i64 0) 1 8 Tryz.underlying33 hinf hz0 hz1 hz2 rfl (by decide) hS2.out (.slice A pre.length c) pre.length (pre.map (.int .i64)) (by rfl) (by rfl) ⟨wr.heap.size, 0, none⟩ 1 1 [.int .i64 more] (by rfl) (by rfl) (cell_one_new _ _ _) (by simp [Value.oneCell']) (by decide) (by unfold maxLen; omega) (by omega) ?_); intro g cap w2 hSa hza; have r1 := hSa.cellAt 1 rfl i (by omega); rw [hu0'.out] at r1; have r2 := hSa.frozenAt 1 rfl i; replace hSa := Lib.hid hSa; clear hza)
          | fail)
      go_wp2_with fail
      go_end0
      refine ⟨rfl, .slice (some ⟨g, 0, none⟩) (pre.length + 1) cap, ?_⟩
      have h1 := hSa.out.stored 1 rfl i (.slice (some ⟨g, 0, none⟩) (pre.length + 1) cap)
      have e : intsR (.slice (some ⟨g, 0, none⟩) (pre.length + 1) cap) (mendL r more xs) = .sl 3 1 (.slice (some ⟨g, 0, none⟩) (pre.length + 1) cap) (pre.length + 1) (pre.map (.int .i64) ++ [.int .i64 more]) := by
        rw [mendL, ← hpre'.out]
        unfold intsR
        rw [List.map_append, List.length_append]
        rfl
      unfold cutAs at h1 ⊢
      rw [zip_set, e]
      have h2 := Sep.inplace (i + 5) h1 hrow'.out
      rw [← List.set_append_left _ _ (by simp; omega)]
      exact h2
end Go.Proofs.YtioonfceamgpmaaGreatDoor

namespace Go.Proofs.YtioonfceamgpmaaGreatDoor
set_option linter.unusedVariables false

/-- Whether an action looks for a name. -/
def wantsX (x : Ins) : Bool := (decide (x.op = 4) || decide (x.op = 7)) || decide (x.op = 8)
def mendB (a : Ins) (to : ByteArray) (r : Int) (l : List Int) : Bool := (wantsX a && decide (a.path = to)) && decide (r ∈ l)
/-- The needs, those of the first i actions mended. -/
def mendTo (acts : List Ins) (to : ByteArray) (r more : Int) (xss : List (List Int)) : Nat → List (List Int)
  | 0 => xss
  | i + 1 => match acts[i]?, xss[i]? with
    | some a, some l => if mendB a to r l then (mendTo acts to r more xss i).set i (mendL r more l) else mendTo acts to r more xss i
    | _, _ => mendTo acts to r more xss i
def cutActs (acts : List Ins) (x : Ins) (k r : Nat) : List Ins := (acts ++ [Ins.mk 3 (tempS k) x.to 0 0]).set r { x with to := tempS k }
def cutRows (xss : List (List Int)) (r : Nat) (l : List Int) : List (List Int) := (xss ++ [normL (l ++ [(r : Int)])]).set r []

section
variable {acts : List Ins} {to : ByteArray} {r more : Int} {xss : List (List Int)}
theorem mendTo_len (i : Nat) : (mendTo acts to r more xss i).length = xss.length := by
  induction i with
  | zero => rfl
  | succ i ih =>
    unfold mendTo
    split
    · split
      · rw [List.length_set, ih]
      · exact ih
    · exact ih
theorem mendTo_step {i : Nat} {a : Ins} {l : List Int} (ha : acts[i]? = some a) (hl : xss[i]? = some l) : mendTo acts to r more xss (i + 1) = if mendB a to r l then (mendTo acts to r more xss i).set i (mendL r more l) else mendTo acts to r more xss i := by
  rw [mendTo, ha, hl]
theorem mendTo_late {i j : Nat} (h : i ≤ j) : (mendTo acts to r more xss i)[j]? = xss[j]? := by
  induction i with
  | zero => rfl
  | succ i ih =>
    unfold mendTo
    split
    · split
      · rw [List.getElem?_set_ne (by omega)]
        exact ih (by omega)
      · exact ih (by omega)
    · exact ih (by omega)
/-- Each row is the old one, or the old one mended. -/
theorem mendTo_row (i : Nat) : ∀ {j : Nat} {l : List Int}, (mendTo acts to r more xss i)[j]? = some l → ∃ m, xss[j]? = some m ∧ (l = m ∨ (l = mendL r more m ∧ r ∈ m)) := by
  induction i with
  | zero => exact fun h => ⟨_, h, .inl rfl⟩
  | succ i ih =>
    intro j l h
    unfold mendTo at h
    split at h
    · rename_i a m ha hm
      split at h
      · rename_i hb
        by_cases hj : i = j
        · subst hj
          rw [List.getElem?_set_self'] at h
          obtain ⟨y, hy, e⟩ : ∃ y, (mendTo acts to r more xss i)[i]? = some y ∧ mendL r more m = l := by
            cases hy : (mendTo acts to r more xss i)[i]? with
            | none => rw [hy] at h; cases h
            | some y => rw [hy] at h; exact ⟨y, rfl, by simpa using h⟩
          refine ⟨m, hm, .inr ⟨e.symm, ?_⟩⟩
          unfold mendB at hb
          simp at hb
          exact hb.2
        · rw [List.getElem?_set_ne hj] at h
          exact ih h
      · exact ih h
    · exact ih h
end

/-- Needs in order: each row rises, within the numbers there are. -/
def Okay (xss : List (List Int)) : Prop := ∀ l ∈ xss, l.Pairwise (· < ·) ∧ ∀ y ∈ l, 0 ≤ y ∧ y < (xss.length : Int)

theorem str_beq (a b : ByteArray) : (a.toList == b.toList) = decide (a = b) := by
  rw [Lib.toList_data, Lib.toList_data]
  obtain ⟨⟨x⟩⟩ := a
  obtain ⟨⟨y⟩⟩ := b
  rw [Bool.eq_iff_iff]
  simp
theorem cut_next {vs : List Value} {xss : List (List Int)} {n : Nat} (hv : vs.length = n) (hx : xss.length = n) (A B C D E : Asn) {X Y : Asn} {R : List Asn} (h : X = Y) : (A :: B :: C :: D :: E :: (List.zipWith intsR vs xss ++ X :: R))[n + 5]? = some Y := by
  show (List.zipWith intsR vs xss ++ X :: R)[n]? = some Y
  have e : (List.zipWith intsR vs xss).length = n := by rw [List.length_zipWith, hv, hx, Nat.min_self]
  rw [List.getElem?_append_right (by omega), e, Nat.sub_self, ← h]
  rfl
theorem cut_row {vs : List Value} {xss : List (List Int)} {i : Nat} {u : Value} {l : List Int} (hu : vs[i]? = some u) (hl : xss[i]? = some l) (A B C D E : Asn) {R : List Asn} : (A :: B :: C :: D :: E :: (List.zipWith intsR vs xss ++ R))[i + 5]? = some (intsR u l) := by
  show (List.zipWith intsR vs xss ++ R)[i]? = some _
  have h1 := (List.getElem?_eq_some_iff.1 hu).1
  have h2 := (List.getElem?_eq_some_iff.1 hl).1
  rw [List.getElem?_append_left (by rw [List.length_zipWith]; omega)]
  exact zip_some hu hl
theorem cut_perm {α : Type} (S B C P M I : α) (Z R : List α) : (S :: B :: C :: P :: M :: (Z ++ I :: R)).Perm (C :: P :: M :: B :: I :: S :: (Z ++ R)) := by
  have h1 : (S :: B :: C :: P :: M :: (Z ++ I :: R)).Perm (S :: B :: C :: P :: M :: I :: (Z ++ R)) := ((((List.perm_middle.cons M).cons P).cons C).cons B).cons S
  have h2 : (C :: P :: M :: B :: I :: (Z ++ R)).Perm (B :: C :: P :: M :: I :: (Z ++ R)) := List.perm_middle (l₁ := [C, P, M]) (l₂ := I :: (Z ++ R)) (a := B)
  have h3 : (C :: P :: M :: B :: I :: S :: (Z ++ R)).Perm (S :: C :: P :: M :: B :: I :: (Z ++ R)) := List.perm_middle (l₁ := [C, P, M, B, I]) (l₂ := Z ++ R) (a := S)
  exact h1.trans ((h2.symm.cons S).trans h3.symm)
theorem cut_perm2 {α : Type} (M P C B I S : α) (Z R : List α) : (M :: P :: C :: B :: I :: S :: (Z ++ R)).Perm (S :: B :: C :: P :: M :: (Z ++ I :: R)) := by
  have h1 : (S :: B :: C :: P :: M :: (Z ++ I :: R)).Perm (S :: B :: C :: P :: M :: I :: (Z ++ R)) := ((((List.perm_middle.cons M).cons P).cons C).cons B).cons S
  have h2 : (M :: P :: C :: B :: I :: S :: (Z ++ R)).Perm (S :: M :: P :: C :: B :: I :: (Z ++ R)) := List.perm_middle (l₁ := [M, P, C, B, I]) (l₂ := Z ++ R) (a := S)
  have h3 : (M :: P :: C :: B :: I :: (Z ++ R)).Perm (B :: M :: P :: C :: I :: (Z ++ R)) := List.perm_middle (l₁ := [M, P, C]) (l₂ := I :: (Z ++ R)) (a := B)
  have h4 : (M :: P :: C :: I :: (Z ++ R)).Perm (C :: M :: P :: I :: (Z ++ R)) := List.perm_middle (l₁ := [M, P]) (l₂ := I :: (Z ++ R)) (a := C)
  exact h2.trans ((((h3.trans ((h4.trans ((List.Perm.swap P M _).cons C)).cons B)).cons S)).trans h1.symm)
theorem insCells_set {xs : List Ins} {i : Nat} {x : Ins} {s : ByteArray} (h : xs[i]? = some x) : (insCells xs).set (i * 5 + 2) (.string s) = insCells (xs.set i { x with to := s }) := by
  induction xs generalizing i with
  | nil => simp at h
  | cons y xs ih =>
    cases i with
    | zero =>
      simp at h
      subst h
      rfl
    | succ i =>
      have h' : xs[i]? = some x := by simpa using h
      have e : (i + 1) * 5 + 2 = y.cells.length + (i * 5 + 2) := by rw [Ins.cells_len]; omega
      unfold insCells at ih ⊢
      rw [List.flatMap_cons, List.set_cons_succ, List.flatMap_cons, ← ih h', e, List.set_append_right _ _ (by omega), Nat.add_sub_cancel_left]
theorem cutRows_len {xss : List (List Int)} {r : Nat} {l0 : List Int} {b : Nat} (h : ∀ l ∈ xss, l.length ≤ b) (hl : xss[r]? = some l0) : ∀ l ∈ cutRows xss r l0, l.length ≤ b + 1 := by
  intro l hm
  unfold cutRows at hm
  rcases List.mem_or_eq_of_mem_set hm with hm | rfl
  · rcases List.mem_append.1 hm with hm | hm
    · have := h l hm; omega
    · rw [List.mem_singleton] at hm
      subst hm
      have h1 := normL_len (l0 ++ [(r : Int)])
      have h2 := h l0 (List.mem_of_getElem? hl)
      rw [List.length_append] at h1
      simp at h1
      omega
  · simp
theorem up_len {l : List Int} {n : Nat} (hp : l.Pairwise (· < ·)) (hb : ∀ y ∈ l, 0 ≤ y ∧ y < (n : Int)) : l.length ≤ n := by
  have hn : (l.map Int.toNat).Nodup := by
    rw [List.nodup_iff_pairwise_ne, List.pairwise_map]
    refine List.Pairwise.imp_of_mem ?_ hp
    intro a b ha hb' hab
    have := hb a ha
    have := hb b hb'
    omega
  have hs : l.map Int.toNat ⊆ List.range n := by
    intro x hx
    obtain ⟨y, hy, rfl⟩ := List.mem_map.1 hx
    have := hb y hy
    rw [List.mem_range]
    omega
  have := List.Nodup.length_le_of_subset hn hs
  simpa using this
theorem Okay.len {xss : List (List Int)} (h : Okay xss) {l : List Int} (hl : l ∈ xss) : l.length ≤ xss.length := up_len (h l hl).1 (h l hl).2

theorem mendL_up {r more : Int} {l : List Int} (hp : l.Pairwise (· < ·)) (hb : ∀ y ∈ l, y < more) : (mendL r more l).Pairwise (· < ·) := by
  unfold mendL
  rw [List.pairwise_append]
  refine ⟨hp.filter _, by simp, fun a ha b hb' => ?_⟩
  rw [List.mem_singleton] at hb'
  subst hb'
  exact hb a (List.mem_filter.1 ha).1
theorem mendL_mem {r more y : Int} {l : List Int} : y ∈ mendL r more l ↔ (y ∈ l ∧ y ≠ r) ∨ y = more := by
  unfold mendL
  simp

/-- What a cut leaves is in order again. -/
theorem cut_okay {acts : List Ins} {xss : List (List Int)} {to : ByteArray} {r : Nat} {l : List Int} (h : Okay xss) (hl : xss[r]? = some l) (i : Nat) : Okay (mendTo acts to r xss.length (cutRows xss r l) i) := by
  have hr : r < xss.length := (List.getElem?_eq_some_iff.1 hl).1
  have hlen : (mendTo acts to r xss.length (cutRows xss r l) i).length = xss.length + 1 := by rw [mendTo_len, cutRows]; simp
  have base : ∀ (j : Nat) (m : List Int), (cutRows xss r l)[j]? = some m → m.Pairwise (· < ·) ∧ (∀ y ∈ m, 0 ≤ y ∧ y < (xss.length : Int)) := by
    intro j m hm
    unfold cutRows at hm
    by_cases hj : r = j
    · subst hj
      rw [List.getElem?_set_self (by simp; omega)] at hm
      obtain rfl : [] = m := by simpa using hm
      simp
    · rw [List.getElem?_set_ne hj] at hm
      rcases Nat.lt_or_ge j xss.length with h1 | h1
      · rw [List.getElem?_append_left h1] at hm
        have h2 := h m (List.mem_of_getElem? hm)
        exact ⟨h2.1, h2.2⟩
      · rw [List.getElem?_append_right h1] at hm
        rcases hx : j - xss.length with _ | q
        · rw [hx] at hm
          obtain rfl : normL (l ++ [(r : Int)]) = m := by simpa using hm
          refine ⟨normL_up _, fun y hy => ?_⟩
          rw [normL_mem, List.mem_append, List.mem_singleton] at hy
          rcases hy with hy | rfl
          · have h2 := (h l (List.mem_of_getElem? hl)).2 y hy
            exact h2
          · omega
        · rw [hx] at hm
          simp at hm
  intro m hm
  obtain ⟨j, hj⟩ := List.mem_iff_getElem?.1 hm
  rw [hlen]
  obtain ⟨m0, h1, h2⟩ := mendTo_row i hj
  obtain ⟨b1, b2⟩ := base j m0 h1
  rcases h2 with rfl | ⟨rfl, _⟩
  · exact ⟨b1, fun y hy => by have := b2 y hy; omega⟩
  · refine ⟨mendL_up b1 fun y hy => (b2 y hy).2, fun y hy => ?_⟩
    rcases mendL_mem.1 hy with ⟨hy, _⟩ | rfl
    · have := b2 y hy; omega
    · omega
theorem norm_okay {xss : List (List Int)} (h : ∀ l ∈ xss, ∀ y ∈ l, 0 ≤ y ∧ y < (xss.length : Int)) : Okay (xss.map normL) := by
  intro m hm
  obtain ⟨l, hl, rfl⟩ := List.mem_map.1 hm
  rw [List.length_map]
  exact ⟨normL_up _, fun y hy => h l hl y ((normL_mem l y).1 hy)⟩
end Go.Proofs.YtioonfceamgpmaaGreatDoor
