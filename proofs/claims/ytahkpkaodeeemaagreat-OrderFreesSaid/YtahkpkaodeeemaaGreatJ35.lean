/- OrderW, laid together. -/
import Derived.Test.YtahkpkaodeeemaaGreatJ33
import Derived.Test.YtahkpkaodeeemaaGreatJ34
namespace Go.Proofs.YtahkpkaodeeemaaGreat
open Go.RowKit
set_option linter.unusedVariables false

theorem info_rowsQ : (Tryz.prog.info? 27).map (fun i => (i.zero, i.size, i.bytes)) = some (some (.slice none 0 0), 1, 24) := by kernel_rfl

/-- The state of the work. -/
def ordAs (q gw gu m : Nat) (vr : Value) (ready wait : List Int) (us : List Value) (users : List (List Int)) (R : List Asn) : List Asn :=
  .box q 51 (queueCells vr) :: intsR vr ready :: .sl 3 1 (.slice (some ⟨gw, 0, none⟩) m m) m (wait.map (.int .i64)) :: .sl 27 1 (.slice (some ⟨gu, 0, none⟩) m m) m us :: (List.zipWith intsR us users ++ R)

section
variable {w0 w w' : World} {A0 : Asn} {q gw gu m : Nat} {vr : Value} {ready wait : List Int} {us : List Value} {users : List (List Int)} {R : List Asn}
theorem ord_at {k : Nat} {u : Value} {l : List Int} (hu : us[k]? = some u) (hl : users[k]? = some l) : (A0 :: ordAs q gw gu m vr ready wait us users R)[k + 5]? = some (intsR u l) := by
  show (List.zipWith intsR us users ++ R)[k]? = some _
  have h1 := (List.getElem?_eq_some_iff.1 hu).1
  have h2 := (List.getElem?_eq_some_iff.1 hl).1
  rw [List.getElem?_append_left (by rw [List.length_zipWith]; omega)]
  exact zip_some hu hl
/-- A number's users are turned. -/
theorem ord_user {k : Nat} {u : Value} {l : List Int} (hk : k < us.length) (hk2 : k < users.length) (h : Sep w0 w ((A0 :: ordAs q gw gu m vr ready wait us users R).set (k + 5) (intsR u l))) :
    Sep w0 (w.setCell ⟨gu, k, none⟩ u) (A0 :: ordAs q gw gu m vr ready wait (us.set k u) (users.set k l) R) := by
  have h1 : Sep w0 w (A0 :: .box q 51 (queueCells vr) :: intsR vr ready :: .sl 3 1 (.slice (some ⟨gw, 0, none⟩) m m) m (wait.map (.int .i64)) :: .sl 27 1 (.slice (some ⟨gu, 0, none⟩) m m) m us :: ((List.zipWith intsR us users ++ R).set k (intsR u l))) := h
  rw [List.set_append_left _ _ (by rw [List.length_zipWith]; omega), ← zip_set] at h1
  exact h1.stored 4 rfl k u
end
theorem ord_out {q gw gu m : Nat} {vr : Value} {ready wait : List Int} {us : List Value} {users : List (List Int)} (X : Asn) (h : us.length = users.length) : (ordAs q gw gu m vr ready wait us users [X])[us.length + 4]? = some X := by
  show (List.zipWith intsR us users ++ [X])[us.length]? = some X
  have e : (List.zipWith intsR us users).length = us.length := by rw [List.length_zipWith, h, Nat.min_self]
  rw [List.getElem?_append_right (by omega), e, Nat.sub_self]
  rfl
theorem ord_at0 {q gw gu m : Nat} {vr : Value} {ready wait : List Int} {us : List Value} {users : List (List Int)} {R : List Asn} {k : Nat} {u : Value} {l : List Int} (hu : us[k]? = some u) (hl : users[k]? = some l) : (ordAs q gw gu m vr ready wait us users R)[k + 4]? = some (intsR u l) := by
  show (List.zipWith intsR us users ++ R)[k]? = some _
  have h1 := (List.getElem?_eq_some_iff.1 hu).1
  have h2 := (List.getElem?_eq_some_iff.1 hl).1
  rw [List.getElem?_append_left (by rw [List.length_zipWith]; omega)]
  exact zip_some hu hl
theorem ord_outs {w0 w : World} {q gw gu m g c : Nat} {x : Int} {vr u : Value} {ready wait out : List Int} {us : List Value} {users : List (List Int)} {X : Asn} (h : us.length = users.length) (e : X = .sl 3 1 (.slice (some ⟨g, 0, none⟩) (out.length + 1) c) (out.length + 1) (out.map (.int .i64) ++ [.int .i64 x]))
    (hS : Sep w0 w ((ordAs q gw gu m vr ready wait us users [intsR u out]).set (us.length + 4) X)) : Sep w0 w (ordAs q gw gu m vr ready wait us users [intsR (.slice (some ⟨g, 0, none⟩) (out.length + 1) c) (out ++ [x])]) := by
  have el : (List.zipWith intsR us users).length = us.length := by rw [List.length_zipWith, h, Nat.min_self]
  have h1 : Sep w0 w (.box q 51 (queueCells vr) :: intsR vr ready :: .sl 3 1 (.slice (some ⟨gw, 0, none⟩) m m) m (wait.map (.int .i64)) :: .sl 27 1 (.slice (some ⟨gu, 0, none⟩) m m) m us :: ((List.zipWith intsR us users ++ [intsR u out]).set us.length X)) := hS
  rw [List.set_append_right _ _ (by omega), el, Nat.sub_self, List.set_cons_zero, e] at h1
  have e2 : intsR (.slice (some ⟨g, 0, none⟩) (out.length + 1) c) (out ++ [x]) = .sl 3 1 (.slice (some ⟨g, 0, none⟩) (out.length + 1) c) (out.length + 1) (out.map (.int .i64) ++ [.int .i64 x]) := by
    unfold intsR
    rw [List.map_append, List.length_append]
    rfl
  rw [e2]
  exact h1
theorem ord_wait {w0 w : World} {q gw gu m : Nat} {vr : Value} {ready wait : List Int} {us : List Value} {users : List (List Int)} {R : List Asn} {x : Int} {k : Nat} (h : Sep w0 w (ordAs q gw gu m vr ready wait us users R)) : Sep w0 (w.setCell ⟨gw, k, none⟩ (.int .i64 x)) (ordAs q gw gu m vr ready (wait.set k x) us users R) := by
  have h1 := h.stored 2 rfl k (.int .i64 x)
  unfold ordAs
  rw [List.map_set]
  exact h1
theorem Sep.last {w0 w : World} {As : List Asn} {X : Asn} {n : Nat} (h : Sep w0 w As) (hn : As[n]? = some X) : Sep w0 w [X] := by
  obtain ⟨e1, _⟩ := split_at hn
  rw [e1] at h
  have h1 := (h.perm List.perm_middle).perm (List.perm_append_singleton _ _).symm
  have h2 := Sep.drop (As.take n ++ As.drop (n + 1)).length h1
  rwa [List.drop_left] at h2
theorem addU_snoc (i k : Int) (ks : List Int) (us : List (List Int)) : addU i (ks ++ [k]) us = (addU i ks us).set k.toNat ((addU i ks us).getD k.toNat [] ++ [i]) := by
  induction ks generalizing us with
  | nil => rfl
  | cons a ks ih =>
    rw [List.cons_append]
    unfold addU
    exact ih _

theorem addU_rows (i : Int) {B : Nat} (ks : List Int) : ∀ (us : List (List Int)), (∀ l ∈ us, l.length ≤ B) → ∀ l ∈ addU i ks us, l.length ≤ B + ks.length := by
  induction ks generalizing B with
  | nil => intro us h l hl; exact Nat.le_trans (h l hl) (by simp)
  | cons k ks ih =>
    intro us h l hl
    unfold addU at hl
    have := ih (B := B + 1) _ (fun l' hl' => ?_) l hl
    · simp only [List.length_cons]; omega
    · rcases List.mem_or_eq_of_mem_set hl' with hl' | rfl
      · have := h l' hl'; omega
      · rw [List.length_append]
        have : (us.getD k.toNat []).length ≤ B := by
          rw [List.getD_eq_getElem?_getD]
          cases hx : us[k.toNat]? with
          | none => simp
          | some y => exact h y (List.mem_of_getElem? hx)
        rw [List.length_singleton]
        omega
theorem usersQ_rows {xss : List (List Int)} (h : ∀ l ∈ xss, l.length ≤ 1024) (i : Nat) : ∀ l ∈ usersQ xss i, l.length ≤ i * 1024 := by
  induction i with
  | zero => intro l hl; simp [usersQ] at hl; simp [hl.2]
  | succ i ih =>
    intro l hl
    unfold usersQ at hl
    have h1 := addU_rows _ _ _ ih l hl
    have h2 := normL_len (xss.getD i [])
    have h3 : (xss.getD i []).length ≤ 1024 := by
      rw [List.getD_eq_getElem?_getD]
      cases hx : xss[i]? with
      | none => simp
      | some y => exact h y (List.mem_of_getElem? hx)
    omega

theorem ord_start {w0 W : World} {q gw gu m : Nat} {xss : List (List Int)} {X Y Z : Asn} (hm : xss.length = m)
    (h0 : Sep w0 W [.box q 51 (queueCells (.slice none 0 0)), .sl 3 1 (.slice none 0 0) 0 [], .sl 27 1 (.slice (some ⟨gu, 0, none⟩) m m) m (List.replicate m (.slice none 0 0)), .sl 3 1 (.slice (some ⟨gw, 0, none⟩) m m) m (List.replicate m (.int .i64 0)), X, Y, Z]) :
    Sep w0 W (ordAs q gw gu m (.slice none 0 0) (readyQ xss 0) (waitQ xss 0) (List.replicate m (.slice none 0 0)) (usersQ xss 0) []) := by
  have h1 : Sep w0 W [.box q 51 (queueCells (.slice none 0 0)), .sl 3 1 (.slice none 0 0) 0 [], .sl 3 1 (.slice (some ⟨gw, 0, none⟩) m m) m (List.replicate m (.int .i64 0)), .sl 27 1 (.slice (some ⟨gu, 0, none⟩) m m) m (List.replicate m (.slice none 0 0))] := Sep.drop 3 (h0.sel [4, 5, 6, 0, 1, 3, 2] (by decide) (by simp))
  have h := h1.nils m
  unfold ordAs
  have e1 : (waitQ xss 0).map (Value.int .i64) = List.replicate m (.int .i64 0) := by
    apply List.ext_getElem
    · simp [waitQ, hm]
    · intro j h1 h2
      simp [waitQ]
  rw [e1, List.append_nil]
  unfold usersQ
  rw [hm]
  exact h

set_option maxRecDepth 100000 in
set_option maxHeartbeats 4000000 in
theorem order_any {xss : List (List Int)} {w : World} {vn : Value} {Aa : Option Addr} {m ca : Nat} (hn : RowsAt w vn xss) (hm : xss.length = m) (hm9 : m ≤ 1000) (hx : refused xss = 0) (hr : roundRows xss = []) {T : List Int} (hT : orderQ xss = some T) :
    Calls Tryz.prog 7 #[treeE, .slice Aa m ca, vn, .slice none 0 0, .bool false] w fun e w' => ∃ v, e = .returned (.tuple #[v, .int .i64 0]) ∧ Sep w w' [intsR v T] := by
  have hlo := fun W => loose_none W
  have hro := fun W (hW : Below w.heap.size w W) => round_any (hn.below hW)
  rw [hx, hr] at hro
  obtain ⟨An, cn, rfl, hmn⟩ := hn.shape
  have hro' := Lib.hid hro
  obtain ⟨i0, hif, hz0, hz1, hz2⟩ := info_parts info_int
  obtain ⟨i1, hj, hy0, hy1, hy2⟩ := info_parts info_rowsQ
  have hmk1 := fun W : World => run_make_n (P := Tryz.prog) 27 3 i0 (.int .i64 0) 8 Tryz.underlying27 hif hz0 hz1 hz2 rfl .i64 .i64 m (by omega) (by unfold maxLen; omega) W
  have hmk2 := fun W : World => run_make_n (P := Tryz.prog) 24 27 i1 (.slice none 0 0) 24 Tryz.underlying24 hj hy0 hy1 hy2 rfl .i64 .i64 m (by omega) (by unfold maxLen; omega) W
  have hS0 := (((Sep.nil w).box_new 34 #[.slice none 0 0, .slice none 0 0]).box_new 23 #[.slice Aa m ca]).box_new 37 #[.slice none 0 0]
  simp only [World.size_alloc] at hS0
  have hS0' := Lib.hid hS0
  have hB0' := Lib.hid hS0.below
  have hn' := Lib.hid hn
  have hx' := Lib.hid hx
  have hT' := Lib.hid hT
  have hmeq := Lib.hid hm
  have b1 : ((xss.length : Int) != (m : Int)) = false := by simp; omega
  unfold treeE at *
  clear hro hn hS0 hx hr hT
  rw [hm] at b1 ⊢
  clear hm
  go_enter Tryz.func7, Tryz.ntmps7
  go_wp2_with (first
    | (go_at_call 10; refine (hlo _).mono ?_; rintro e w1 ⟨rfl, hb1⟩; have hS1 := Lib.hid (hS0'.out.pure hb1); have hb1' := Lib.hid hS1.out.below; clear hb1)
    | (go_at_call 11; refine (hmeq.out ▸ hro'.out _ hb1'.out).mono ?_; rintro e w2 ⟨v, rfl, hR⟩; obtain ⟨A9, c9, rfl⟩ := hR.len0; have hS2 := hS1.out.pure hR.below; (have d6 : w2.cell? ⟨w.heap.size + 1, 0, none⟩ = some (.slice Aa m ca) := by rw [hS2.box_cell 1 rfl 0]; rfl); have hS3 := hS2.made 3 (.int .i64 0) m (by unfold maxLen; omega); (have d7 : (w2.alloc (.cells (madeCells #[.int .i64 0] m) 3)).cell? ⟨w.heap.size + 1, 0, none⟩ = some (.slice Aa m ca) := by rw [hS3.box_cell 2 rfl 0]; rfl); have hS3' := Lib.hid hS3; clear hR hS2 hS3))
  have hS5 := ((hS3'.out.made 27 (.slice none 0 0) m (by unfold maxLen; omega)).sl_nil 3 1).box_new 51 (queueCells (.slice none 0 0))
  simp only [World.size_alloc] at hS5
  have hS8 := ord_start hmeq.out hS5
  generalize w2.heap.size + 1 + 1 = q at hS8 ⊢
  generalize w2.heap.size + 1 = gu at hS8 ⊢
  generalize w2.heap.size = gw at hS8 ⊢
  have hS9 := Lib.hid hS8
  clear hS5 hS8 d6 d7 hmk1 hmk2 hS3' hS1 hS0'
  go_loopw [68] (fun iv wr => ∃ (i : Nat) (vr : Value) (us : List Value), i ≤ m ∧ iv = .int .i64 i ∧ us.length = m ∧ Sep w wr (ordAs q gw gu m vr (readyQ xss i) (waitQ xss i) us (usersQ xss i) [])) (fun iv _ => m - (intOf iv).toNat)
  case atStart => exact ⟨0, _, List.replicate m (.slice none 0 0), Nat.zero_le _, rfl, by simp, hS9.out⟩
  case round =>
    obtain ⟨i, vr, us, hi, rfl, hul, hS⟩ := hrel
    by_cases hlt : i < m
    · have q1 : (0 : Int) ≤ (i : Int) := by omega
      have q2 : (i : Int) < (m : Int) := by omega
      obtain ⟨ad, c', ur, e, h3, h4⟩ := (hn'.out.below hS.below).at_ (k := i) (by rw [hmeq.out]; exact hlt)
      rw [hmeq.out] at e
      cases e
      obtain ⟨Ar, cr, rfl, hmr⟩ := h4.shape
      have hrl : (xss[i]'(by rw [hmeq.out]; exact hlt)).length ≤ 1024 := (refused_zero hx'.out).2.1 i _
      have hgood : ∀ y ∈ xss[i]'(by rw [hmeq.out]; exact hlt), 0 ≤ y ∧ y < (m : Int) := by
        intro y hy
        obtain ⟨a2, h2, rfl⟩ := List.mem_iff_getElem.1 hy
        have := (refused_zero hx'.out).2.2 i (by rw [hmeq.out]; exact hlt) a2 h2
        have e := hmeq.out
        omega
      have hgd : xss.getD i [] = xss[i]'(by rw [hmeq.out]; exact hlt) := by rw [List.getD_eq_getElem?_getD, List.getElem?_eq_getElem]; rfl
      generalize xss[i]'(by rw [hmeq.out]; exact hlt) = xs at h3 h4 hrl hgood hgd hmr
      have hso := fun W (hb : Below wr.heap.size wr W) => sorted_any (w := W.alloc (.cells #[.slice Ar xs.length cr] 27)) (Bs := W.heap.size) (cap := cr) (A := Ar) (xs := xs) (by omega) (by simp) (Boxed.new W 27 (.slice Ar xs.length cr)).cell (h4.below (hb.trans ((Below.new W _).mono hb.size)))
      have hso' := Lib.hid (hso wr (Below.refl _ _))
      have hS' := Lib.hid hS
      have hgd' := Lib.hid hgd
      have hgood' := Lib.hid hgood
      have hul' := Lib.hid hul
      clear hso hS hgd hgood hul h4
      go_wp2_with (first
        | (go_at_call 15; refine (values_any Ar xs.length cr _).mono ?_; rintro e w4 ⟨rfl, rfl⟩)
        | (go_at_call 14; refine hso'.out.mono ?_; rintro e w5 ⟨v5, rfl, hS5⟩; (have hO5 := (hS'.out.alloc (.cells #[.slice Ar xs.length cr] 27)).join hS5); (have hco5 := Lib.hid (compact_any 0 hO5 rfl (by rw [(sortL_perm xs).length_eq]; omega))); clear hS5 hO5)
        | (go_at_call 13; refine hco5.out.mono ?_; rintro e w6 ⟨v6, rfl, hO6⟩; obtain ⟨A6, c6, rfl, _⟩ := (hO6.ints 0 rfl).shape; have hO6' := Lib.hid hO6; clear hO6))
      obtain ⟨L, hL⟩ : ∃ L, L = normL xs := ⟨_, rfl⟩
      have hLg : ∀ y ∈ L, 0 ≤ y ∧ y < (m : Int) := fun y hy => hgood'.out y ((normL_mem xs y).1 (by rw [← hL]; exact hy))
      have hLl : L.length ≤ 1024 := by rw [hL]; have := normL_len xs; omega
      have hO7 : Sep w w6 (intsR (.slice A6 L.length c6) L :: ordAs q gw gu m vr (readyQ xss i) (waitQ xss i) us (usersQ xss i) []) := by rw [hL]; exact hO6'.out
      have e0 : Lib.compact (sortL xs) = L := by rw [hL]; rfl
      rw [e0]
      have hO7' := Lib.hid hO7
      have hL' := Lib.hid hL
      have hLg' := Lib.hid hLg
      clear hO6' hO7 hL hLg e0 hco5 hso' hS'
      go_loopw [79] (fun jv wr2 => ∃ (j : Nat) (us2 : List Value), j ≤ L.length ∧ jv = .int .i64 j ∧ us2.length = m ∧ Sep w wr2 (intsR (.slice A6 L.length c6) L :: ordAs q gw gu m vr (readyQ xss i) (waitQ xss i) us2 (addU i (L.take j) (usersQ xss i)) [])) (fun jv _ => L.length - (intOf jv).toNat)
      case atStart => exact ⟨0, us, Nat.zero_le _, rfl, hul'.out, by rw [List.take_zero]; exact hO7'.out⟩
      case round =>
        obtain ⟨j, us2, hj2, rfl, hul2, hS2⟩ := hrel
        by_cases hjl : j < L.length
        · obtain ⟨k, hk⟩ : ∃ k : Nat, L[j] = (k : Int) := ⟨(L[j]).toNat, by have := (hLg'.out _ (List.getElem_mem hjl)).1; omega⟩
          have hkm : k < m := by have := (hLg'.out _ (List.getElem_mem hjl)).2; omega
          obtain ⟨g6, c6', e, _⟩ := hS2.sl_form 0 rfl (by omega)
          cases e
          have d0 : wr.cell? ⟨g6, j, none⟩ = some (.int .i64 k) := by
            rw [hS2.cellAt 0 rfl j (by omega), List.getElem?_map, List.getElem?_eq_getElem hjl, hk]
            rfl
          have hulen : (addU i (L.take j) (usersQ xss i)).length = m := by rw [addU_len, usersQ_len, hmeq.out]
          have hrows : ∀ l ∈ addU i (L.take j) (usersQ xss i), l.length ≤ 2000000 := by
            intro l hl
            have h1 := addU_rows _ _ _ (usersQ_rows (fun l hl => by obtain ⟨a, ha, rfl⟩ := List.mem_iff_getElem.1 hl; exact (refused_zero hx'.out).2.1 a ha) i) l hl
            rw [List.length_take] at h1
            omega
          have hsnoc := addU_snoc i (L[j]) (L.take j) (usersQ xss i)
          have htk : L.take (j + 1) = L.take j ++ [L[j]] := by rw [List.take_add_one, List.getElem?_eq_getElem hjl]; rfl
          rw [← htk, hk, Int.toNat_natCast] at hsnoc
          obtain ⟨users, husers⟩ : ∃ u, u = addU i (L.take j) (usersQ xss i) := ⟨_, rfl⟩
          rw [← husers] at hS2 hulen hrows hsnoc
          obtain ⟨l0, hl0⟩ : ∃ l, users[k]? = some l := ⟨_, List.getElem?_eq_getElem (by omega)⟩
          obtain ⟨u0, hu0⟩ : ∃ u, us2[k]? = some u := ⟨_, List.getElem?_eq_getElem (by omega)⟩
          have hl0' := hrows l0 (List.mem_of_getElem? hl0)
          rw [List.getD_eq_getElem?_getD, hl0, Option.getD_some] at hsnoc
          have hrow := ord_at (A0 := intsR (.slice (some ⟨g6, 0, none⟩) L.length c6) L) (q := q) (gw := gw) (gu := gu) (m := m) (vr := vr) (ready := readyQ xss i) (wait := waitQ xss i) (R := []) hu0 hl0
          obtain ⟨A0, k0, rfl, _⟩ := (hS2.ints (k + 5) hrow).shape
          have d1 : wr.cell? ⟨gu, k, none⟩ = some (.slice A0 l0.length k0) := (hS2.cellAt 4 rfl k (by omega)).trans hu0
          have hSa := Lib.hid (hS2.alloc (.cells #[.int .i64 i] 3))
          have q3 : (0 : Int) ≤ (j : Int) := by omega
          have q4 : (j : Int) < (L.length : Int) := by omega
          have q5 : (0 : Int) ≤ (k : Int) := by omega
          have q6 : (k : Int) < (m : Int) := by omega
          have hrow' := Lib.hid hrow
          have hsnoc' := Lib.hid hsnoc
          have hul2' := Lib.hid hul2
          have hulen' := Lib.hid hulen
          have hu0' := Lib.hid hu0
          clear hS2 hrow hsnoc hul2 hulen hu0 hl0 hrows husers htk hk
          go_wp2_with (first
            | (at_builtin; refine wpList_append_sep (k + 5) rfl _ _ 27 rfl 3 i0 (.int .i64 0) 1 8 Tryz.underlying27 hif hz0 hz1 hz2 rfl (by decide) hSa.out _ l0.length (l0.map (.int .i64)) hrow'.out rfl ⟨wr.heap.size, 0, none⟩ 1 1 [.int .i64 i] rfl rfl (cell_one_new _ _ _) (by simp [Value.oneCell']) (by decide) (by unfold maxLen; omega) (by omega) ?_)
            | fail)
          intro g9 c9 w9 hS9 hz9
          have e9 : (.sl 3 1 (.slice (some ⟨g9, 0, none⟩) (l0.length + 1) c9) (l0.length + 1) (l0.map (.int .i64) ++ [.int .i64 i]) : Asn) = intsR (.slice (some ⟨g9, 0, none⟩) (l0.length + 1) c9) (l0 ++ [(i : Int)]) := by
            unfold intsR
            rw [List.map_append, List.length_append]
            rfl
          rw [e9] at hS9
          have hfin := ord_user (by rw [hul2'.out]; exact hkm) (by rw [hulen'.out]; exact hkm) hS9
          rw [← hsnoc'.out] at hfin
          have f0 : w9.cell? ⟨gu, k, none⟩ = some (.slice A0 l0.length k0) := by
            have hi4 : ((intsR (.slice (some ⟨g6, 0, none⟩) L.length c6) L :: ordAs q gw gu m vr (readyQ xss i) (waitQ xss i) us2 users []).set (k + 5) (intsR (.slice (some ⟨g9, 0, none⟩) (l0.length + 1) c9) (l0 ++ [(i : Int)])))[4]? = some (.sl 27 1 (.slice (some ⟨gu, 0, none⟩) m m) m us2) := rfl
            exact (hS9.cellAt 4 hi4 k (by omega)).trans hu0'.out
          have f1 : w9.frozen? ⟨gu, k, none⟩ = false := hS9.frozenAt 4 rfl k
          have hfin' := Lib.hid hfin
          clear hS9 hz9 hfin e9 hSa
          go_wp2_with fail
          exact ⟨⟨j + 1, us2.set k (.slice (some ⟨g9, 0, none⟩) (l0.length + 1) c9), by omega, by go_num, by rw [List.length_set]; exact hul2'.out, hfin'.out⟩, by simp [intOf]; omega⟩
        · obtain rfl : j = L.length := by omega
          rw [List.take_length] at hS2
          have hun : addU i L (usersQ xss i) = usersQ xss (i + 1) := by
            rw [hL'.out, ← hgd'.out]
            rfl
          rw [hun] at hS2
          have hS3 := Sep.drop 1 hS2
          have hS4 := hS3.stored 2 rfl i (.int .i64 (L.length : Int))
          have hwt := waitQ_set (xss := xss) (i := i) (by rw [hmeq.out]; exact hlt)
          rw [hgd'.out, ← hL'.out] at hwt
          have hS5 : Sep w (wr.setCell ⟨gw, i, none⟩ (.int .i64 (L.length : Int))) (ordAs q gw gu m vr (readyQ xss i) (waitQ xss (i + 1)) us2 (usersQ xss (i + 1)) []) := by
            rw [← hwt]
            unfold ordAs
            rw [List.map_set]
            exact hS4
          have d0 : (wr.setCell ⟨gw, i, none⟩ (.int .i64 (L.length : Int))).cell? ⟨gw, i, none⟩ = some (.int .i64 (L.length : Int)) := by
            rw [hS5.cellAt 2 rfl i (by omega), ← hwt, List.map_set, List.getElem?_set_self (by rw [List.length_map, waitQ_len, hmeq.out]; exact hlt)]
          have d1 : wr.frozen? ⟨gw, i, none⟩ = false := hS3.frozenAt 2 rfl i
          have d2 : wr.cell? ⟨gw, i, none⟩ = some (((waitQ xss i).map (Value.int .i64))[i]'(by rw [List.length_map, waitQ_len, hmeq.out]; exact hlt)) := by
            rw [hS3.cellAt 2 rfl i (by omega)]
            exact List.getElem?_eq_getElem _
          generalize ((waitQ xss i).map (Value.int .i64))[i]'(by rw [List.length_map, waitQ_len, hmeq.out]; exact hlt) = wv at d2
          have hrq : readyQ xss (i + 1) = if L.length = 0 then readyQ xss i ++ [(i : Int)] else readyQ xss i := by
            rw [hL'.out, ← hgd'.out]
            rfl
          have hlen1 := readyQ_len xss i
          have hrlt := readyQ_lt xss i
          by_cases h0 : L.length = 0
          · rw [if_pos h0] at hrq
            have b0 : ((L.length : Int) == 0) = true := by rw [h0]; rfl
            have hpu := put_any hS5 (i : Int) (by omega) hrlt (by omega)
            have hpu' := Lib.hid hpu
            have hrq' := Lib.hid hrq
            have hul2' := Lib.hid hul2
            clear hS2 hS3 hS4 hS5 hpu hrq hwt hun h0 hul2
            go_wp2_with (go_at_call 16; refine hpu'.out.mono ?_; rintro e w9 ⟨rfl, v9, hP⟩; have hP' := Lib.hid hP; clear hP)
            exact ⟨⟨i + 1, v9, us2, by omega, by go_num, hul2'.out, by rw [hrq'.out]; exact hP'.out⟩, by simp [intOf]; omega⟩
          · rw [if_neg h0] at hrq
            have b0 : ((L.length : Int) == 0) = false := by rw [beq_eq_false_iff_ne]; omega
            have hS5' := Lib.hid hS5
            have hrq' := Lib.hid hrq
            have hul2' := Lib.hid hul2
            clear hS2 hS3 hS4 hS5 hrq hwt hun h0 hul2
            go_wp2_with fail
            exact ⟨⟨i + 1, vr, us2, by omega, by go_num, hul2'.out, by rw [hrq'.out]; exact hS5'.out⟩, by simp [intOf]; omega⟩
    · obtain rfl : i = m := by omega
      have hS' := Lib.hid hS
      have hul' := Lib.hid hul
      clear hS hul
      go_wp2_with fail
      have hst : Sep w wr (ordAs q gw gu i vr (readyQ xss i) (waitQ xss i) us (usersQ xss i) [intsR (.slice none 0 0) []]) := by
        have h1 := (hS'.out.sl_nil 3 1).perm (List.perm_append_singleton _ _).symm
        unfold ordAs at h1 ⊢
        rw [show intsR (.slice none 0 0) [] = Asn.sl 3 1 (.slice none 0 0) 0 [] from rfl]
        simpa using h1
      have hrun : runQ i (usersQ xss i) (waitQ xss i) (readyQ xss i) [] = some T := by
        have := hT'.out
        unfold orderQ at this
        rwa [hmeq.out] at this
      have huw : (usersQ xss i).length = i ∧ (waitQ xss i).length = i := by rw [usersQ_len, waitQ_len, hmeq.out]; exact ⟨rfl, rfl⟩
      obtain ⟨hu1, hw1⟩ := huw
      generalize usersQ xss i = users at hst hrun hu1
      have hst' := Lib.hid hst
      have hrun' := Lib.hid hrun
      have hu1' := Lib.hid hu1
      have hw1' := Lib.hid hw1
      clear hst hrun hu1 hw1 hS'
      go_loopg [23] i (fun g ov wr3 => ∃ (f : Nat) (vr : Value) (ready wait out : List Int), Hid (g = f) ∧ Hid (runQ f users wait ready out = some T) ∧ Hid (wait.length = i) ∧ Sep w wr3 (ordAs q gw gu i vr ready wait us users [intsR ov out]))
      case atStart => exact ⟨i, vr, readyQ xss i, waitQ xss i, [], rfl, hrun'.out, hw1'.out, hst'.out⟩
      case round =>
        obtain ⟨f, vr, ready, wait, out, hg, hrun, hwl, hS⟩ := hrel
        cases ready with
        | nil =>
          have hout : T = out := by
            have h := hrun.out
            cases f <;> (unfold runQ at h; exact (Option.some.inj h).symm)
          obtain ⟨Av, cv, rfl, _⟩ := (hS.ints 1 rfl).shape
          have d0 : wr.cell? ⟨q, 0, none⟩ = some (.slice Av 0 cv) := by rw [hS.box_cell 0 rfl 0]; rfl
          have hS' := Lib.hid hS
          have hout' := Lib.hid hout
          clear hS hout
          go_wp2_with fail
          go_ret2
          refine ⟨_, rfl, ?_⟩
          rw [hout'.out]
          exact hS'.out.last (n := us.length + 4) (ord_out _ (by rw [hul'.out, hu1'.out]))
        | cons x r =>
          obtain ⟨f, rfl⟩ : ∃ f', f = f' + 1 := by
            cases f with
            | zero => have h := hrun.out; unfold runQ at h; cases h
            | succ f => exact ⟨f, rfl⟩
          have h := hrun.out
          unfold runQ at h
          split at h
          case isFalse => cases h
          rename_i hgd
          obtain ⟨g1, g2, g3, g4, g5⟩ := hgd
          obtain ⟨k, rfl⟩ : ∃ k : Nat, x = (k : Int) := ⟨x.toNat, by omega⟩
          rw [Int.toNat_natCast] at g2 g3 h
          rw [hu1'.out] at g2
          obtain ⟨L, hL⟩ : ∃ L, users[k]? = some L := ⟨_, List.getElem?_eq_getElem (by rw [hu1'.out]; exact g2)⟩
          rw [List.getD_eq_getElem?_getD, hL, Option.getD_some] at g3 h
          cases hd : decQ L wait r with
          | none => rw [hd] at h; cases h
          | some sr =>
          rw [hd] at h
          simp only at h
          obtain ⟨u0, hu0⟩ : ∃ u, us[k]? = some u := ⟨_, List.getElem?_eq_getElem (by rw [hul'.out]; exact g2)⟩
          obtain ⟨gv, cv, rfl, _⟩ := hS.sl_form 1 rfl (by simp)
          have d0 : wr.cell? ⟨q, 0, none⟩ = some (.slice (some ⟨gv, 0, none⟩) ((k : Int) :: r).length cv) := by rw [hS.box_cell 0 rfl 0]; rfl
          have hpos : (0 : Int) < ((((k : Int) :: r).length : Nat) : Int) := by rw [List.length_cons]; omega
          have hta := take_any hS
          have hta' := Lib.hid hta
          have hS' := Lib.hid hS
          have hrun2 := Lib.hid h
          have hd' := Lib.hid hd
          have hL' := Lib.hid hL
          have hu0' := Lib.hid hu0
          have q1 : (0 : Int) ≤ (k : Int) := by omega
          have q2 : (k : Int) < (i : Int) := by omega
          clear hta hS h hd hL hu0
          generalize ((k : Int) :: r).length = rl at d0 hpos
          go_wp2_with (first
            | (go_at_call 20; refine hta'.out.mono ?_; rintro e w3 ⟨rfl, v3, hP⟩; (have hS3 := hP.alloc (.cells #[.int .i64 k] 3)); (have hS3' := Lib.hid hS3); (have hP' := Lib.hid hP); clear hS3 hP)
            | (at_builtin; refine wpList_append_sep (us.length + 4) rfl _ _ 27 rfl 3 i0 (.int .i64 0) 1 8 Tryz.underlying27 hif hz0 hz1 hz2 rfl (by decide) hS3'.out _ out.length (out.map (.int .i64)) (ord_out _ (by rw [hul'.out, hu1'.out])) rfl ⟨w3.heap.size, 0, none⟩ 1 1 [.int .i64 k] rfl rfl (cell_one_new _ _ _) (by simp [Value.oneCell']) (by decide) (by unfold maxLen; omega) (by omega) ?_)
            | fail)
          intro g9 c9 w9 hS9 _
          have hS10 := Lib.hid (ord_outs (by rw [hul'.out, hu1'.out]) (e := rfl) hS9)
          clear hS9 hS3' hP' hta' d0 hpos
          obtain ⟨Au, cu, rfl, hml⟩ := (hS10.out.ints (k + 4) (ord_at0 hu0'.out hL'.out)).shape
          have d1 : w9.cell? ⟨gu, k, none⟩ = some (.slice Au L.length cu) := (hS10.out.cellAt 3 rfl k (by omega)).trans hu0'.out
          go_wp2_with fail
          clear d1
          go_loopw [165] (fun jv wr5 => ∃ (j : Nat) (vr5 : Value) (ready5 wait5 : List Int), j ≤ L.length ∧ jv = .int .i64 j ∧ Hid (decQ (L.drop j) wait5 ready5 = some sr) ∧ Hid (wait5.length = i) ∧ Sep w wr5 (ordAs q gw gu i vr5 ready5 wait5 us users [intsR (.slice (some ⟨g9, 0, none⟩) (out.length + 1) c9) (out ++ [(k : Int)])])) (fun jv _ => L.length - (intOf jv).toNat)
          case atStart => exact ⟨0, v3, r, wait, Nat.zero_le _, rfl, hd'.out, hwl.out, hS10.out⟩
          case round =>
            obtain ⟨j, vr5, ready5, wait5, hj5, rfl, hdq, hwl5, hS5⟩ := hrel
            by_cases hjl : j < L.length
            · have h5 := hdq.out
              rw [List.drop_eq_getElem_cons hjl] at h5
              unfold decQ at h5
              split at h5
              case isFalse => cases h5
              rename_i hgd
              obtain ⟨y1, y2, y3, y4, y5⟩ := hgd
              obtain ⟨gl, cl, e, _⟩ := hS5.sl_form (k + 4) (ord_at0 hu0'.out hL'.out) (by omega)
              cases e
              have d0 : wr.cell? ⟨gl, j, none⟩ = some (.int .i64 L[j]) := by
                rw [hS5.cellAt (k + 4) (ord_at0 hu0'.out hL'.out) j (by omega), List.getElem?_map, List.getElem?_eq_getElem hjl]
                rfl
              obtain ⟨y, hy⟩ : ∃ y : Nat, L[j] = (y : Int) := ⟨(L[j]).toNat, by omega⟩
              rw [hy] at d0 h5 y1 y2 y3 y4 y5
              rw [Int.toNat_natCast] at y2 y3 y4 h5
              rw [hwl5.out] at y2
              obtain ⟨wv, hwv⟩ : ∃ v, wait5[y]? = some v := ⟨_, List.getElem?_eq_getElem (by rw [hwl5.out]; exact y2)⟩
              rw [List.getD_eq_getElem?_getD, hwv, Option.getD_some] at y3 y4 h5
              have d1 : wr.cell? ⟨gw, y, none⟩ = some (.int .i64 wv) := by
                rw [hS5.cellAt 2 rfl y (by omega), List.getElem?_map, hwv]
                rfl
              have d2 : wr.frozen? ⟨gw, y, none⟩ = false := hS5.frozenAt 2 rfl y
              have hS6 := ord_wait (x := wv - 1) hS5 (k := y)
              have d3 : (wr.setCell ⟨gw, y, none⟩ (.int .i64 (wv - 1))).cell? ⟨gw, y, none⟩ = some (.int .i64 (wv - 1)) := by
                rw [hS6.cellAt 2 rfl y (by omega), List.getElem?_map, List.getElem?_set_self (by rw [hwl5.out]; exact y2)]
                rfl
              have z1 : (0 : Int) ≤ (j : Int) := by omega
              have z2 : (j : Int) < (L.length : Int) := by omega
              have z3 : (y : Int) < (i : Int) := by omega
              have hwl6 : (wait5.set y (wv - 1)).length = i := by rw [List.length_set]; exact hwl5.out
              have hwl6' := Lib.hid hwl6
              have hy' := Lib.hid hy
              by_cases h1 : wv = 1
              · subst h1
                rw [if_pos rfl] at h5
                split at h5
                case isFalse => cases h5
                rename_i hrd
                have b0 : (((1 : Int) - 1) == 0) = true := rfl
                have hpu := put_any hS6 (y : Int) (by omega) hrd.1 (by omega)
                have hpu' := Lib.hid hpu
                have h5' := Lib.hid h5
                clear hS5 hS6 hpu h5 hwv hy hrd hwl6
                go_wp2_with (go_at_call 16; refine hpu'.out.mono ?_; rintro e w7 ⟨rfl, v7, hP7⟩; have hP7' := Lib.hid hP7; clear hP7)
                exact ⟨⟨j + 1, v7, ready5 ++ [(y : Int)], wait5.set y 0, by omega, by go_num, h5'.out, hwl6'.out, hP7'.out⟩, by simp [intOf]; omega⟩
              · rw [if_neg h1] at h5
                have b0 : ((wv - 1) == 0) = false := by rw [beq_eq_false_iff_ne]; omega
                have h5' := Lib.hid h5
                have hS6' := Lib.hid hS6
                clear hS5 hS6 h5 hwv hy hwl6
                go_wp2_with fail
                exact ⟨⟨j + 1, vr5, ready5, wait5.set y (wv - 1), by omega, by go_num, h5'.out, hwl6'.out, hS6'.out⟩, by simp [intOf]; omega⟩
            · obtain rfl : j = L.length := by omega
              have h5 := hdq.out
              rw [List.drop_length] at h5
              simp only [decQ, Option.some.injEq] at h5
              subst h5
              have hS5' := Lib.hid hS5
              clear hS5
              go_wp2_with fail
              go_roundg f
              case measure => rw [hg.out]; omega
              case rel => exact ⟨f, vr5, ready5, wait5, out ++ [(k : Int)], rfl, hrun2.out, hwl5.out, by simpa using hS5'.out⟩
end Go.Proofs.YtahkpkaodeeemaaGreat
