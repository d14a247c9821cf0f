/- BreaksM, Laid, laid together. -/
import Derived.Test.YtioonfceamgpmaaGreatDoorJ35
import Derived.Test.YtioonfceamgpmaaGreatDoorRows
import Derived.Deep.DeepHandedRow
import Derived.Lib.LaidTab
namespace Go.Proofs.YtioonfceamgpmaaGreatDoor
open Go.RowKit
set_option linter.unusedVariables false

theorem rd_front {w : World} {sz n m c : Nat} {A : Option Addr} {cs ds : List Value} (h : Rd w sz (.slice A (n + m) c) (n + m) (cs ++ ds)) (hl : cs.length = n * sz) : Rd w sz (.slice A n c) n cs := by
  obtain ⟨h0, A', c', e, h1, h2, h3⟩ := h
  simp only [Value.slice.injEq] at e
  obtain ⟨rfl, _, rfl⟩ := e
  refine ⟨hl, A, c, rfl, by omega, h2, fun hn => ?_⟩
  obtain ⟨ad, e, hb, hc⟩ := h3 (by omega)
  refine ⟨ad, e, hb, fun j u hu => hc j u ?_⟩
  rw [List.getElem?_append_left (List.getElem?_eq_some_iff.1 hu).1]
  exact hu
theorem aliveA_path : ∀ x ∈ aliveA, x.path.size ≤ 4611686018427387904 := by intro x hx; simp [aliveA] at hx; rcases hx with rfl | rfl <;> simp [ByteArray.size]
theorem cut3 : (cutActs aliveA (aliveA.getD 0 insZ) 0 0).length = 3 := by rw [cutActs_len]; rfl
/-- The list that is lent, with one more. -/
def lAs (g c : Nat) (acts : List Ins) : Asn := .sl 29 5 (.slice (some ⟨g, 0, none⟩) (acts.length + 1) c) (acts.length + 1) (insCells acts ++ [.int .i64 (-71), .string ⟨#[]⟩, .string ⟨#[]⟩, .int .i64 0, .int .i64 0])
theorem l_front {w0 w : World} {A B : Asn} {g c : Nat} {acts : List Ins} (h : Sep w0 w [A, B, lAs g c acts]) : InsAt w (.slice (some ⟨g, 0, none⟩) acts.length c) acts :=
  rd_front (n := acts.length) (m := 1) (h.rd 2 rfl) (insCells_len acts)
theorem l_last {w0 w : World} {A B : Asn} {g c : Nat} {acts : List Ins} (h : Sep w0 w [A, B, lAs g c acts]) : w.cell? ⟨g, acts.length * 5, none⟩ = some (.int .i64 (-71)) := by
  rw [h.cellAt 2 rfl (acts.length * 5) (by omega), List.getElem?_append_right (by rw [insCells_len]; omega), insCells_len, Nat.sub_self]
  rfl
theorem litS {w : World} (b : Nat) (hb : w.heap.size = b) : ∃ W, W = (((w.alloc (.cells #[.int .i64 3, .string ⟨#[97]⟩, .string ⟨#[98]⟩, .int .i64 0, .int .i64 0, .int .i64 3, .string ⟨#[98]⟩, .string ⟨#[97]⟩, .int .i64 0, .int .i64 0] 29)).alloc (.cells #[.int .i64 1] 3)).alloc (.cells #[.int .i64 0] 3)).alloc (.cells #[.slice (some ⟨b + 1, 0, none⟩) 1 1, .slice (some ⟨b + 1 + 1, 0, none⟩) 1 1] 33) ∧
    Below w.heap.size w W ∧ InsAt W (.slice (some ⟨b, 0, Option.none⟩) 2 2) aliveA ∧ RowsAt W (.slice (some ⟨b + 1 + 1 + 1, 0, Option.none⟩) 2 2) (longX 2 true) := by
  subst hb
  have hS := ((((Sep.nil w).litN 29 5 2 #[.int .i64 3, .string ⟨#[97]⟩, .string ⟨#[98]⟩, .int .i64 0, .int .i64 0, .int .i64 3, .string ⟨#[98]⟩, .string ⟨#[97]⟩, .int .i64 0, .int .i64 0] rfl (by simp [maxLen])).lit 3 #[.int .i64 1] (by simp [maxLen])).lit 3 #[.int .i64 0] (by simp [maxLen])).lit 33 #[.slice (some ⟨w.heap.size + 1, 0, none⟩) 1 1, .slice (some ⟨w.heap.size + 1 + 1, 0, none⟩) 1 1] (by simp [maxLen])
  simp only [World.size_alloc, List.size_toArray, List.length_cons, List.length_nil, Nat.reduceAdd] at hS
  obtain ⟨hA, hN⟩ := alive_args hS
  exact ⟨_, rfl, hS.below, hA, hN⟩

set_option maxRecDepth 100000 in
set_option maxHeartbeats 4000000 in
theorem breaks_any {acts : List Ins} {xss : List (List Int)} {w : World} {va vn : Value} (ha : InsAt w va acts) (hn : RowsAt w vn xss) (hr : ∀ j (hj : j < xss.length), xss[j].length ≤ 1048576) (hp : ∀ x ∈ acts, x.path.size ≤ 4611686018427387904) :
    Calls Tryz.prog 3 #[va, vn] w fun e w' => e = .returned (.bool true) ∧ Below w.heap.size w w' := by
  by_cases hm : muchB xss = true ∨ longB acts = true ∨ 40 < xss.length
  · exact breaks_much ha hn hm
  obtain ⟨hmb, hlb, hxl⟩ : muchB xss = false ∧ longB acts = false ∧ xss.length ≤ 40 := by
    refine ⟨?_, ?_, ?_⟩
    · cases h : muchB xss with
      | false => rfl
      | true => exact absurd (.inl h) hm
    · cases h : longB acts with
      | false => rfl
      | true => exact absurd (.inr (.inl h)) hm
    · exact Nat.le_of_not_lt fun h => hm (.inr (.inr h))
  have hal := longB_len hlb
  clear hm
  obtain ⟨A, cA, rfl, _⟩ := ha.shape
  obtain ⟨B, cB, rfl, _⟩ := hn.shape
  obtain ⟨j0, hjf, hj0, hj1, hj2⟩ := info_parts info_ins
  have hn' := Lib.hid hn
  have ha' := Lib.hid ha
  have hr' := Lib.hid hr
  have hp' := Lib.hid hp
  clear hn ha hr hp
  have hali := Lib.hid (alive15_any w)
  have b1 : (xss.length : Int) ≤ 40 := by omega
  have b2 : (acts.length : Int) ≤ 60 := by omega
  have b3 : decide ((40 : Int) < (xss.length : Int)) = false := by simp; omega
  obtain ⟨T, hT⟩ : ∃ T, breakT acts xss = T := ⟨_, rfl⟩
  go_enter Tryz.func3, Tryz.ntmps3
  go_wp2_with (first
    | (go_at_call 4; refine hali.out.mono ?_; rintro e w1 ⟨rfl, hb1⟩; (have hmu := much_any (hn'.out.below hb1)); rw [hmb] at hmu; (have hlo := long15_any (ha'.out.below hb1)); rw [hlb] at hlo; (have hb1' := Lib.hid hb1); clear hb1)
    | (go_at_call 5; refine hmu.mono ?_; rintro e w2 ⟨rfl, rfl⟩)
    | (go_at_call 6; refine hlo.mono ?_; rintro e w2 ⟨rfl, hb2⟩; (have hb2' := Lib.hid (hb1'.out.trans (hb2.mono hb1'.out.size))); clear hb2 hb1' hlo hmu)
    | (go_at_call 7; refine (lent_any (by omega) hr'.out (hn'.out.below hb2'.out)).mono ?_; rintro e w3 ⟨fv, vs, last, rfl, hvl, hS⟩; (have hvl' := Lib.hid hvl); (have hS3 := Lib.hid hS); clear hvl hS)
    | (at_builtin; refine wpList_append_any_sep 0 rfl _ _ 22 rfl 29 j0 _ 5 56 Tryz.underlying22 hjf hj0 hj1 hj2 rfl (by decide) (hS3.out.sl_nil 29 5) (.slice none 0 0) 0 [] rfl rfl (.slice A acts.length cA) acts.length (insCells acts) rfl ((ha'.out.below hb2'.out).below hS3.out.below) (fun u hu => insCells_one hu) (by unfold maxLen; omega) (by omega) ?_; intro v4 w4 hS4 hz4; simp only [List.set_cons_zero] at hS4; replace hS4 := Lib.hid (hS4.alloc (.cells #[.int .i64 (-71), .string ⟨#[]⟩, .string ⟨#[]⟩, .int .i64 0, .int .i64 0] 29)); clear hz4)
    | (at_builtin; refine wpList_append_sep 0 rfl _ _ 22 rfl 29 j0 _ 5 56 Tryz.underlying22 hjf hj0 hj1 hj2 rfl (by decide) hS4.out v4 (0 + acts.length) ([] ++ insCells acts) rfl rfl ⟨w4.heap.size, 0, none⟩ 1 1 [.int .i64 (-71), .string ⟨#[]⟩, .string ⟨#[]⟩, .int .i64 0, .int .i64 0] rfl rfl (cells_new _ _ _ _ rfl) (by simp [Value.oneCell']) (by decide) (by unfold maxLen; omega) (by omega) ?_; intro g5 c5 w5 hS5 hz5; simp only [List.set_cons_zero] at hS5; obtain ⟨_, _, e9, _, _, k1, k2⟩ := hS5.sl_form 0 rfl (by omega); cases e9; unfold maxLen at k2; have k3 : (acts.length : Int) ≤ (c5 : Int) := (by omega); have k4 : (c5 : Int) ≤ 9223372036854775807 := (by omega); have hI5 := rd_front (n := acts.length) (m := 1) (by have h0 := hS5.rd 0 rfl; rw [Nat.zero_add] at h0; exact h0) (by rw [List.nil_append]; exact insCells_len acts); rw [List.nil_append] at hI5; have hbr := Lib.hid (break_any (acts := acts) hI5 (lent_rows hvl'.out (R := []) (by simpa using Sep.drop 1 hS5)) (by omega) (by omega) hp'.out); replace hS5 := Lib.hid hS5; clear hz5 hI5 k1 k2)
    | (go_at_call 8; refine hbr.out.mono ?_; rintro e w6 ⟨av, wv, rfl, hS⟩; clear hbr; have hS6 := Lib.hid (hS5.out.join hS); clear hS hS5)
    | fail)
  obtain ⟨W7, hW7, hbW7, hA7, hN7⟩ := litS (w := w6) w6.heap.size rfl
  rw [← hW7]
  have hb7 := break_any hA7 hN7 (by simp [longX]) (by simp [aliveA]) aliveA_path
  rw [alive_ring] at hb7
  have hb7' := Lib.hid hb7
  have hS7 := Lib.hid (hS6.out.pure hbW7)
  clear hb7 hA7 hN7 hbW7 hW7 hS6
  refine hb7'.out.mono ?_
  rintro e w8 ⟨bv, vv, rfl, hS⟩
  have hins : insR bv (cutActs aliveA (aliveA.getD 0 insZ) 0 0) = .sl 29 5 bv 3 (insCells (cutActs aliveA (aliveA.getD 0 insZ) 0 0)) := by unfold insR; rw [cut3]
  obtain ⟨gb, cb, rfl, _⟩ := hS.sl_form (e := 29) (sz := 5) (n := 3) 0 (by show some (insR bv _) = _; rw [hins]) (by omega)
  rw [hins] at hS
  have hS8 := Lib.hid (hS7.out.join hS)
  clear hb7' hS7 hS hins
  go_wp2_with fail
  refine cb_wipe (n := 3) (g := gb) (c := cb) (by omega) ⟨rfl, rfl, rfl, rfl, trivial⟩ (by rw [insCells_len, cut3]) hS8.out ?_
  clear hS8
  intro ac9 w9 cs9 ht hsz hdf hS9
  have hF := fm_of0 hdf hsz ht rfl
  obtain ⟨f9, rfl⟩ := Fm.lit (m := 116) hF rfl
  clear hF ht hsz hdf
  simp only [lits, Nat.reduceAdd, List.take_succ_cons, List.take_zero, List.cons_append, List.nil_append]
  have hS10 : Sep w2 w9 (rowsR vv (cutRows (longX 2 true) 0 [1]) :: ([insR av T.acts, rowsR wv T.needs, lAs g5 c5 acts] ++ lentAll fv vs last xss)) := by
    rw [← hT]
    have h9 := Sep.drop 1 hS9
    rw [Nat.zero_add, List.nil_append] at h9
    exact h9
  have hS10' := Lib.hid hS10
  clear hS9 hS10
  go_wp2_with (first
    | (go_at_call 9; refine (wipe_any hS10'.out).mono ?_; rintro e w11 ⟨rfl, zss, hS⟩; have hS11 := Lib.hid ((Sep.drop 1 hS).perm (List.perm_append_comm (l₁ := [insR av T.acts, rowsR wv T.needs, lAs g5 c5 acts]) (l₂ := lentAll fv vs last xss))); clear hS hS10')
    | (go_at_call 10; refine (stay_any (by omega) hr'.out hvl'.out hS11.out ((hn'.out.below hb2'.out).below hS11.out.below)).mono ?_; rintro e _ ⟨rfl, m, rfl⟩; have hS12 := Lib.hid (hS11.out.drewN m); have hI12 := Lib.hid (l_front (Sep.snd hS12.out)); clear hS11; generalize w11.drewN m = w12 at hS12 hI12 ⊢)
    | (go_at_call 11; refine (sameins_any hI12.out ((ha'.out.below hb2'.out).below hS12.out.below)).mono ?_; rintro e _ ⟨rfl, m2, rfl⟩; have hS13 := Lib.hid (hS12.out.drewN m2); have c13 := l_last (Sep.snd hS13.out); clear hI12 hS12; generalize w12.drewN m2 = w13 at hS13 c13 ⊢)
    | (go_at_call 12; refine (refbreak_any ((ha'.out.below hb2'.out).below hS13.out.below) ((hn'.out.below hb2'.out).below hS13.out.below) (by omega) (by omega) hp'.out).mono ?_; rintro e w14 ⟨xv, yv, rfl, hS⟩; rw [hT] at hS ⊢; have hS14 := Lib.hid ((Sep.snd hS13.out).join hS); clear hS hS13)
    | (go_at_call 13; refine (num_any15 _ _).mono ?_; rintro e w15 ⟨rfl, hw15⟩; have hw16 := hw15.symm; clear hw15; subst hw16)
    | fail)
  refine (sameins_any (hS14.out.ins 2 rfl) (hS14.out.ins 0 rfl)).mono ?_
  rintro e _ ⟨rfl, m3, rfl⟩
  have hS15 := Lib.hid (hS14.out.drewN m3)
  clear hS14
  generalize w15.drewN m3 = w16 at hS15 ⊢
  have hsn := same_any (hS15.out.rows 3 rfl) (hS15.out.rows 1 rfl)
  rw [decide_eq_true (show T.needs = T.needs from rfl)] at hsn
  have hsn' := Lib.hid hsn
  clear hsn
  go_wp2_with (first
    | (go_at_call 14; refine hsn'.out.mono ?_; rintro e _ ⟨rfl, m4, rfl⟩; clear hsn'; have hS17 := Lib.hid (hS15.out.drewN m4); clear hS15; generalize w16.drewN m4 = w17 at hS17 ⊢)
    | fail)
  go_ret
  exact ⟨rfl, hb2'.out.trans (hS17.out.below.mono hb2'.out.size)⟩
end Go.Proofs.YtioonfceamgpmaaGreatDoor

namespace Go.Proofs.YtioonfceamgpmaaGreatDoor
noncomputable def laidWorld (os : Os) : World :=
  { World.holding Tryz.prog os ⟨#[], #[], []⟩ with heap := (((((((World.holding Tryz.prog os ⟨#[], #[], []⟩).heap).modify 1 fun
      | .cells _ t frozen => .cells #[.int .u64 1, .int .u64 10, .int .u64 100, .int .u64 1000, .int .u64 10000, .int .u64 100000, .int .u64 1000000, .int .u64 10000000, .int .u64 100000000, .int .u64 1000000000, .int .u64 10000000000, .int .u64 100000000000, .int .u64 1000000000000, .int .u64 10000000000000, .int .u64 100000000000000, .int .u64 1000000000000000, .int .u64 10000000000000000, .int .u64 100000000000000000, .int .u64 1000000000000000000, .int .u64 10000000000000000000] t frozen
      | o => o)).modify 2 fun
      | .cells _ t frozen => .cells #[.int .u8 0, .int .u8 1, .int .u8 28, .int .u8 2, .int .u8 29, .int .u8 14, .int .u8 24, .int .u8 3, .int .u8 30, .int .u8 22, .int .u8 20, .int .u8 15, .int .u8 25, .int .u8 17, .int .u8 4, .int .u8 8, .int .u8 31, .int .u8 27, .int .u8 13, .int .u8 23, .int .u8 21, .int .u8 19, .int .u8 16, .int .u8 7, .int .u8 26, .int .u8 12, .int .u8 18, .int .u8 6, .int .u8 11, .int .u8 5, .int .u8 10, .int .u8 9] t frozen
      | o => o)).modify 3 fun
      | .cells _ t frozen => .cells #[.int .u8 0, .int .u8 1, .int .u8 56, .int .u8 2, .int .u8 57, .int .u8 49, .int .u8 28, .int .u8 3, .int .u8 61, .int .u8 58, .int .u8 42, .int .u8 50, .int .u8 38, .int .u8 29, .int .u8 17, .int .u8 4, .int .u8 62, .int .u8 47, .int .u8 59, .int .u8 36, .int .u8 45, .int .u8 43, .int .u8 51, .int .u8 22, .int .u8 53, .int .u8 39, .int .u8 33, .int .u8 30, .int .u8 24, .int .u8 18, .int .u8 12, .int .u8 5, .int .u8 63, .int .u8 55, .int .u8 48, .int .u8 27, .int .u8 60, .int .u8 41, .int .u8 37, .int .u8 16, .int .u8 46, .int .u8 35, .int .u8 44, .int .u8 21, .int .u8 52, .int .u8 32, .int .u8 23, .int .u8 11, .int .u8 54, .int .u8 26, .int .u8 40, .int .u8 15, .int .u8 34, .int .u8 20, .int .u8 31, .int .u8 10, .int .u8 25, .int .u8 14, .int .u8 19, .int .u8 9, .int .u8 13, .int .u8 8, .int .u8 7, .int .u8 6] t frozen
      | o => o) }
end Go.Proofs.YtioonfceamgpmaaGreatDoor
