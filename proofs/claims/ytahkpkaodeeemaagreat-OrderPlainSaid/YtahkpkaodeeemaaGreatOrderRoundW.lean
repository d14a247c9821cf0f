/- shuntlaw16.OrderRound, walked. -/
import Derived.Test.YtahkpkaodeeemaaGreatAlive16
import Derived.IntWalk
namespace Go.Proofs.YtahkpkaodeeemaaGreat
open Go.RowKit
set_option linter.unusedVariables false

theorem set_perm {α : Type} : ∀ (L : List α) (k : Nat) (X Y : α), L[k]? = some Y → (X :: L).Perm (Y :: L.set k X)
  | [], k, _, _, h => by simp at h
  | y :: L, 0, X, Y, h => by
    simp at h
    subst h
    exact List.Perm.swap _ _ _
  | y :: L, k + 1, X, Y, h => by
    have h' : L[k]? = some Y := by simpa using h
    exact (List.Perm.swap _ _ _).trans (((set_perm L k X Y h').cons y).trans (List.Perm.swap _ _ _))
theorem Sep.inplace {w0 w : World} {L : List Asn} {X Y : Asn} (k : Nat) (h : Sep w0 w (X :: L)) (hk : L[k]? = some Y) : Sep w0 w (L.set k X) :=
  Sep.drop 1 (h.perm (set_perm L k X Y hk))

/-- The ring's needs as far as the first i. -/
def ringTo (n i : Nat) : List (List Int) := (List.range n).map fun j => if j < i then [((j + 1) % n : Nat)] else []
theorem ringTo_len (n i : Nat) : (ringTo n i).length = n := by simp [ringTo]
theorem ringTo_zero (n : Nat) : ringTo n 0 = List.replicate n [] := by
  apply List.ext_getElem
  · simp [ringTo]
  · intro j h1 h2
    simp [ringTo]
theorem ringTo_set {n i : Nat} : (ringTo n i).set i [(((i + 1) % n : Nat) : Int)] = ringTo n (i + 1) := by
  apply List.ext_getElem
  · simp [ringTo]
  · intro j h1 h2
    rw [List.getElem_set]
    by_cases e : i = j
    · subst e
      simp [ringTo]
    · have e2 : j < i + 1 ↔ j < i := by omega
      simp [ringTo, e, e2]
theorem ringTo_full (n : Nat) : ringTo n n = longX n true := by
  apply List.ext_getElem
  · simp [ringTo, longX]
  · intro j h1 h2
    have hj : j < n := by simpa [ringTo] using h1
    simp only [ringTo, longX, List.getElem_map, List.getElem_range, hj, if_true]
    by_cases e : j + 1 < n
    · rw [Nat.mod_eq_of_lt e]
      simp [e]
    · have e2 : j + 1 = n := by omega
      simp [e2]

theorem run_make_any {P : Program} (t e : TypeId) (i : TypeInfo) (z : Value) (sz bytes : Nat) (h1 : P.underlying t = some (.slice e)) (h2 : P.info? e = some i) (h3 : i.zero = some z) (h4 : i.size = sz) (h5 : i.bytes = bytes)
    (kl kc : IntKind) (n : Nat) (b2 : bytes * n ≤ 281474976710656) (b3 : n ≤ maxLen) (W : World) :
    (Instr.makeSlice t (.int kl (n : Int)) (.int kc (n : Int))).run P W = .ok (.slice (some ⟨W.heap.size, 0, none⟩) n n) (W.alloc (.cells (madeCells z.cells (n * sz)) e)) := by
  have h63' : (n : Int) ≤ 9223372036854775807 := by
    have h := b3
    simp [maxLen] at h
    omega
  have hb' : (i.bytes : Int) * (n : Int) ≤ 281474976710656 := by
    have h : ((i.bytes * n : Nat) : Int) ≤ 281474976710656 := by rw [h5]; omega
    rwa [Int.natCast_mul] at h
  have hr := run_make (P := P) W t e i z h1 h2 h3 kl kc n n (by omega) (Int.le_refl _) hb' h63'
  simpa [h4] using hr
theorem Sep.made5 {w0 w : World} {As : List Asn} (h : Sep w0 w As) (e : TypeId) (zs : Array Value) (sz n : Nat) (b3 : n ≤ maxLen) : Sep w0 (w.alloc (.cells (madeCells zs (n * sz)) e)) (.sl e sz (.slice (some ⟨w.heap.size, 0, none⟩) n n) n (madeCells zs (n * sz)).toList :: As) := by
  have hown := World.ownsRow_lit (base := 0) (e := e) (size := sz) w (madeCells zs (n * sz)) n (Nat.zero_le _) b3 (by rw [size_madeCells])
  exact h.new (F := [w.heap.size]) ((Below.refl _ _).alloc (Nat.le_refl _) _) ⟨hown, rfl⟩ (by simp)
theorem made_len (zs : Array Value) (k : Nat) : (madeCells zs k).toList.length = k := by rw [Array.length_toList, size_madeCells]

theorem one_store {w0 w : World} {A : Asn} {R : List Asn} {e : TypeId} {g n c sz : Nat} {cs : List Value} (h : Sep w0 w (A :: .sl e sz (.slice (some ⟨g, 0, none⟩) n c) n cs :: R)) (hl : cs.length = n * sz) (o : Nat) (ho : o < n * sz) (v : Value) :
    w.frozen? ⟨g, o, none⟩ = false ∧ (∃ z, w.cell? ⟨g, o, none⟩ = some z) ∧ Sep w0 (w.setCell ⟨g, o, none⟩ v) (A :: .sl e sz (.slice (some ⟨g, 0, none⟩) n c) n (cs.set o v) :: R) := by
  refine ⟨h.frozenAt 1 rfl o, ⟨cs[o]'(by omega), ?_⟩, h.stored 1 rfl o v⟩
  rw [h.cellAt 1 rfl o ho]
  exact List.getElem?_eq_getElem _

theorem at_some {w : World} {p : Addr} {l : List Value} {k : Nat} (h : w.cell? p = l[k]?) (hk : k < l.length) : ∃ z, w.cell? p = some z := ⟨l[k], h.trans (List.getElem?_eq_getElem _)⟩
theorem rows_front {w : World} {A : Option Addr} {n c k : Nat} {xss : List (List Int)} (h : RowsAt w (.slice A n c) xss) (hk : k ≤ n) : RowsAt w (.slice A k c) (xss.take k) := by
  obtain ⟨vs, ⟨hl, A', c', e, h1, h2, h3⟩, hz⟩ := h
  cases e
  have hlk : (xss.take k).length = k := by rw [List.length_take]; omega
  refine ⟨vs.take k, ?_, fun j u xs hu hx => ?_⟩
  · rw [hlk]
    refine ⟨by rw [List.length_take]; omega, A, c, rfl, by omega, h2, fun h0 => ?_⟩
    obtain ⟨ad, e1, e2, e3⟩ := h3 (by omega)
    refine ⟨ad, e1, e2, fun j u hu => e3 j u ?_⟩
    rw [List.getElem?_take] at hu
    split at hu
    · exact hu
    · cases hu
  · rw [List.getElem?_take] at hu hx
    split at hu
    · rename_i hjk
      rw [if_pos hjk] at hx
      exact hz j u xs hu hx
    · cases hu

theorem ring_in {w0 w : World} {A : Asn} {g n i : Nat} {vs : List Value} {rows : List (List Int)} {x : Int} (hvl : vs.length = n) (hrl : rows.length = n) (hi : i < n)
    (h : Sep w0 w (.sl 27 1 (.slice (some ⟨g, 0, none⟩) n n) n vs :: A :: List.zipWith intsR vs rows)) :
    Sep w0 ((w.alloc (.cells #[.int .i64 x] 3)).setCell ⟨g, i, none⟩ (.slice (some ⟨w.heap.size, 0, none⟩) 1 1))
      (.sl 27 1 (.slice (some ⟨g, 0, none⟩) n n) n (vs.set i (.slice (some ⟨w.heap.size, 0, none⟩) 1 1)) :: A :: List.zipWith intsR (vs.set i (.slice (some ⟨w.heap.size, 0, none⟩) 1 1)) (rows.set i [x])) := by
  have h1 := h.lit 3 #[.int .i64 x] (by simp [maxLen])
  have h2 := h1.stored 1 rfl i (.slice (some ⟨w.heap.size, 0, none⟩) 1 1)
  rw [zip_set]
  have hz : (List.zipWith intsR vs rows)[i]? = some (intsR (vs[i]'(by omega)) (rows[i]'(by omega))) := zip_some (List.getElem?_eq_getElem _) (List.getElem?_eq_getElem _)
  have h3 := Sep.inplace (L := .sl 27 1 (.slice (some ⟨g, 0, none⟩) n n) n (vs.set i (.slice (some ⟨w.heap.size, 0, none⟩) 1 1)) :: A :: List.zipWith intsR vs rows) (i + 2) h2 (show _ = _ from hz)
  exact h3

theorem ring_bad {n : Nat} (h1 : 1 ≤ n) (hn : n ≤ 50) : orderE (longX n true) n = 33 := by
  obtain ⟨l, rest, hr⟩ := ring_head h1 (by omega : n ≤ 1024)
  unfold orderE
  rw [ring_ok h1 (by omega), if_neg (by simp), if_neg (by rw [longX_len]; simp), hr, if_pos (by simp)]
theorem ring_short {n : Nat} (h1 : 1 ≤ n) (hn : n ≤ 50) : orderE ((longX n true).take (n - 1)) n = 1 := by
  have hl : ((longX n true).take (n - 1)).length = n - 1 := by rw [List.length_take, longX_len]; omega
  have hno : refused ((longX n true).take (n - 1)) ≠ 2 := by
    have hz := (refused_zero (ring_ok h1 (by omega : n ≤ 1024))).2.1
    unfold refused
    rw [if_neg (by omega), any_long_false (fun j hj => ?_)]
    · simp only [Bool.false_eq_true, if_false]
      split <;> simp
    · rw [List.getElem_take]
      exact hz j (by rw [hl] at hj; rw [longX_len]; omega)
  unfold orderE
  rcases refused_cases ((longX n true).take (n - 1)) with h | h | h
  · rw [if_neg (by simpa using h), if_pos (by omega)]
  · rw [if_pos (by rw [h]; decide), h]
  · exact absurd h hno

theorem setCell_size (w : World) (a : Addr) (v : Value) : (w.setCell a v).heap.size = w.heap.size := by simp [World.setCell]
theorem oround_out {n : Int} {w : World} (h : n < 1 ∨ 50 < n) :
    Calls Tryz.prog 3 #[.int .i64 n] w fun e w' => e = .returned (.bool true) ∧ Below w.heap.size w w' := by
  have hal := Lib.hid (alive16_any w)
  rcases h with h | h
  · go_enter Tryz.func3, Tryz.ntmps3
    go_wp2_with (go_at_call 6; refine hal.out.mono ?_; rintro e w1 ⟨rfl, hb1⟩)
    go_ret
    exact ⟨rfl, hb1⟩
  · have h2 : ¬ n < 1 := by omega
    go_enter Tryz.func3, Tryz.ntmps3
    go_wp2_with (go_at_call 6; refine hal.out.mono ?_; rintro e w1 ⟨rfl, hb1⟩)
    go_ret
    exact ⟨rfl, hb1⟩


set_option maxRecDepth 100000 in
set_option maxHeartbeats 2000000 in
theorem oround_any {n : Nat} {w : World} (h1 : 1 ≤ n) (hn : n ≤ 50) :
    Calls Tryz.prog 3 #[.int .i64 n] w fun e w' => e = .returned (.bool true) ∧ Below w.heap.size w w' := by
  have hal := Lib.hid (alive16_any w)
  obtain ⟨i0, hinf, hz0, hz1, hz2⟩ := info_parts info_ins
  obtain ⟨i1, hi1, hz10, hz11, hz12⟩ := info_parts info_rowsQ
  have b1 : (1 : Int) ≤ (n : Int) := by omega
  have b2 : (n : Int) ≤ 50 := by omega
  have hmk0 := fun W : World => run_make_n (P := Tryz.prog) 24 27 i1 (.slice none 0 0) 24 Tryz.underlying24 hi1 hz10 hz11 hz12 rfl .i64 .i64 n (by omega) (by unfold maxLen; omega) W
  have hmk1 := fun W : World => run_make_any (P := Tryz.prog) 23 26 i0 _ 5 56 Tryz.underlying23 hinf hz0 hz1 hz2 .i64 .i64 n (by omega) (by unfold maxLen; omega) W
  go_enter Tryz.func3, Tryz.ntmps3
  go_wp2_with (go_at_call 6; refine hal.out.mono ?_; rintro e w1 ⟨rfl, hb1⟩; (have hb1' := Lib.hid hb1); clear hb1)
  have hS1 := ((((Sep.nil w).pure hb1'.out).made5 26 #[.int .i64 0, .string ⟨#[]⟩, .string ⟨#[]⟩, .int .i64 0, .int .i64 0] 5 n (by unfold maxLen; omega)).made 27 (.slice none 0 0) n (by unfold maxLen; omega)).nils n
  simp only [World.size_alloc] at hS1
  have hcl := made_len #[.int .i64 0, .string ⟨#[]⟩, .string ⟨#[]⟩, .int .i64 0, .int .i64 0] (n * 5)
  generalize (madeCells #[.int .i64 0, .string ⟨#[]⟩, .string ⟨#[]⟩, .int .i64 0, .int .i64 0] (n * 5)).toList = cs0 at hS1 hcl
  rw [← ringTo_zero] at hS1
  have hS1' := Lib.hid hS1
  have hcl' := Lib.hid hcl
  clear hS1 hcl
  generalize w1.heap.size + 1 = gN at hS1' ⊢
  generalize w1.heap.size = gA at hS1' ⊢
  go_loopg [6] n (fun g ii wr => ∃ (i : Nat) (vs cs : List Value), i ≤ n ∧ Hid (g = n - i) ∧ ii = .int .i64 i ∧ Hid (vs.length = n) ∧ Hid (cs.length = n * 5) ∧ Sep w wr (.sl 27 1 (.slice (some ⟨gN, 0, none⟩) n n) n vs :: .sl 26 5 (.slice (some ⟨gA, 0, none⟩) n n) n cs :: List.zipWith intsR vs (ringTo n i)))
  case atStart => exact ⟨0, _, cs0, by omega, rfl, rfl, by simp [Hid], hcl', hS1'.out⟩
  case round =>
    obtain ⟨i, vs, cs, hi, hm, rfl, hvl, hcsl, hS⟩ := hrel
    by_cases hlt : i < n
    case pos =>
      have c1 : (0 : Int) ≤ (i : Int) := by omega
      have c2 : (i : Int) < (n : Int) := by omega
      have c3 : (0 : Int) < (n : Int) := by omega
      obtain ⟨f0, ⟨z0, d0⟩, S0⟩ := one_store hS hcsl.out (i * 5) (by omega) (.int .i64 5)
      obtain ⟨f1, ⟨z1, d1⟩, S1⟩ := one_store S0 (by simpa using hcsl.out) (i * 5 + 1) (by omega) (.string ⟨#[97]⟩)
      obtain ⟨f2, ⟨z2, d2⟩, S2⟩ := one_store S1 (by simpa using hcsl.out) (i * 5 + 2) (by omega) (.string ⟨#[]⟩)
      obtain ⟨f3, ⟨z3, d3⟩, S3⟩ := one_store S2 (by simpa using hcsl.out) (i * 5 + 3) (by omega) (.int .i64 0)
      obtain ⟨f4, ⟨z4, d4⟩, S4⟩ := one_store S3 (by simpa using hcsl.out) (i * 5 + 4) (by omega) (.int .i64 0)
      have hcl4 : Hid ((((((cs.set (i * 5) (.int .i64 5)).set (i * 5 + 1) (.string ⟨#[97]⟩)).set (i * 5 + 2) (.string ⟨#[]⟩)).set (i * 5 + 3) (.int .i64 0)).set (i * 5 + 4) (.int .i64 0)).length = n * 5) := by have := hcsl.out; simpa [Hid] using this
      have S4' := Lib.hid S4
      have a0 := S4.frozenAt 0 rfl i
      have a1 := at_some (S4.cellAt 0 rfl i (by omega)) (by have := hvl.out; omega)
      have a2 := (S4.alloc (.cells #[.int .i64 (((i : Int) + 1) % (n : Int))] 3)).frozenAt 0 rfl i
      have a3 := at_some ((S4.alloc (.cells #[.int .i64 (((i : Int) + 1) % (n : Int))] 3)).cellAt 0 rfl i (by omega)) (by have := hvl.out; omega)
      obtain ⟨y1, a1⟩ := a1
      obtain ⟨y3, a3⟩ := a3
      clear hS S0 S1 S2 S3 S4
      go_wp2_with fail
      have hS5 := ring_in (i := i) (x := ((i : Int) + 1) % (n : Int)) hvl.out (ringTo_len n i) hlt S4'.out
      have e9 : ((i : Int) + 1) % (n : Int) = (((i + 1) % n : Nat) : Int) := rfl
      rw [e9, ringTo_set] at hS5
      simp only [setCell_size] at hS5
      have hS5' := Lib.hid hS5
      clear hS5 S4' hmk0 hmk1
      go_roundg (n - (i + 1))
      case measure => rw [hm.out]; omega
      case rel => exact ⟨i + 1, _, _, by omega, rfl, by go_num, Lib.hid (by rw [List.length_set]; exact hvl.out), hcl4, hS5'.out⟩
    case neg =>
      have e : i = n := by omega
      subst e
      have hS2 : Sep w wr [rowsR (.slice (some ⟨gN, 0, none⟩) i i) (longX i true)] := by
        rw [ringTo_full] at hS
        have hS0 := Sep.drop 1 (hS.perm (List.Perm.swap _ _ _))
        refine Sep.list_shut (vs := vs) (by rw [longX_len]; exact hvl.out) ?_
        rw [longX_len]
        simpa using hS0
      have hb2 := Lib.hid hS2.below
      have hN := hS2.rows 0 rfl
      have q1 := Lib.hid (fun W (hW : Below wr.heap.size wr W) => order_bad (Aa := some ⟨gA, 0, none⟩) (ca := i) (m := i) false (hN.below hW) (by omega) (by rw [ring_bad h1 hn]; decide))
      have q2 := Lib.hid (fun W (hW : Below wr.heap.size wr W) => order_bad (Aa := some ⟨gA, 0, none⟩) (ca := i) (m := i) true ((rows_front hN (k := i - 1) (by omega)).below hW) (by omega) (by rw [ring_short h1 hn]; decide))
      have e1 := ring_bad h1 hn
      have e2 := ring_short h1 hn
      rw [e1] at q1
      rw [e2] at q2
      clear hS hS2 hN hmk0 hmk1 e1 e2
      unfold treeE at *
      have d1 : (i : Int) - 1 = ((i - 1 : Nat) : Int) := by omega
      go_wp2_with (first
        | (go_at_call 7; refine (q1.out _ (Below.refl _ _)).mono ?_; clear q1; rintro e w2 ⟨rfl, hb3⟩; have hb3' := Lib.hid hb3; clear hb3)
        | (go_at_call 7; refine (q2.out _ hb3'.out).mono ?_; rintro e w4 ⟨rfl, hb4⟩; have hb4' := Lib.hid hb4; clear hb4)
        | (go_at_call 8; refine (num_any16 _ _).mono ?_; rintro e w3 ⟨rfl, rfl⟩))
      go_ret
      exact ⟨rfl, hb2.out.trans ((hb3'.out.trans (hb4'.out.mono hb3'.out.size)).mono hb2.out.size)⟩
end Go.Proofs.YtahkpkaodeeemaaGreat
