/- Vals, Norm, Finds, Shelf, laid together. -/
import Derived.Test.YtahkpkaodeeemaaGreatJ15
import Derived.RangeFuncNested
import Derived.RangeFuncBound
import Derived.RangeFuncCalls
import Derived.RangeFuncLeaves
import Derived.RangeFuncBox
import Derived.Shelf.Abstract
import Derived.OwnWalkIn
import Derived.TacticsInMore
import Derived.LoopNIn
import Derived.LoopIn
import Derived.Maps.AppendAt
import Derived.Lib.SlicesCompact
import Derived.Shelf.SlLaysF
import Derived.Ground.SlsfProg
import Derived.Test.YtahkpkaodeeemaaGreatProg
namespace Go.Proofs.YtahkpkaodeeemaaGreat
open Go.RowKit Go.Shelf
set_option linter.unusedVariables false
attribute [local go_sem] Oper.semAt_some

/-- The cells of a slice of ints, in a block below n₀. -/
def CellsLow (n₀ : Nat) (W : World) (A : Option Addr) (xs : List Int) : Prop := ∀ k (hk : k < xs.length), ∃ ad, A = some ad ∧ ad.block < n₀ ∧ W.cell? (ad.add k) = some (.int .i64 xs[k])
theorem CellsLow.below {n₀ : Nat} {W W' : World} {A : Option Addr} {xs : List Int} (h : CellsLow n₀ W A xs) (hb : Below n₀ W W') : CellsLow n₀ W' A xs := fun k hk => by
  obtain ⟨ad, e, hl, hc⟩ := h k hk
  refine ⟨ad, e, hl, (hb.cell (p := ad.add k) ?_).trans hc⟩
  rw [block_of_add]
  exact hl

set_option maxRecDepth 100000 in
set_option maxHeartbeats 2000000 in
theorem vals1_in (F : Fence) (n : Nat) (h7 : F.fn 32) (hro : F.round = none) (hn : 1 ≤ n) (l Bs n₀ cap : Nat) (A : Option Addr) (xs : List Int) (hreach : xs.length ≤ maxLen) (J Jx : List Int → World → Prop)
    (hY : ∀ pre x W, J pre W → pre.length < xs.length → YieldAt F (n - 1) Tryz.prog l #[.int .i64 x] W fun e W' =>
      (e = .returned (.bool true) ∧ J (pre ++ [x]) W' ∧ Below n₀ W W') ∨ (e = .returned (.bool false) ∧ Jx (pre ++ [x]) W'))
    (W : World) (hBs : W.cell? ⟨Bs, 0, none⟩ = some (.slice A xs.length cap)) (hc : CellsLow n₀ W A xs) (h0 : J [] W) :
    CallsIn F n Tryz.prog 32 #[.func (.yield l) #[] #[], .pointer (some ⟨Bs, 0, none⟩)] W fun e W' => (∃ v, e = .returned v) ∧
      ((∃ ys, ys = xs ∧ J ys W') ∨ (∃ pre, pre <+: xs ∧ Jx pre W')) := by
  unfold maxLen at hreach
  refine callsIn_of_wp Tryz.func32 rfl h7 ?_ hro
  simp only [Tryz.ntmps32, List.size_toArray, List.length_cons, List.length_nil, Nat.reduceAdd, Nat.reduceSub, Array.replicate_succ, Array.replicate_zero, List.push_toArray, List.append_toArray, List.nil_append, List.cons_append]
  have hm : (xs.length : Int) ≤ 9223372036854775807 := by omega
  gi_wp2
  gi_loopw [7] (fun i wr => ∃ k : Nat, k ≤ xs.length ∧ i = .int .i64 k ∧ J (xs.take k) wr ∧ Below n₀ W wr)
    (fun i _ => xs.length - (intOf i).toNat)
  case atStart => exact ⟨0, Nat.zero_le _, rfl, by simpa using h0, Below.refl _ _⟩
  case round =>
    obtain ⟨k, hk, rfl, hJs, hnx⟩ := hrel
    by_cases hlt : k < xs.length
    · obtain ⟨ad, rfl, hl, hcx⟩ := (hc.below hnx) k hlt
      obtain ⟨fn, tmps, assign, body, hy, hR⟩ := hY _ xs[k] wr hJs (by rw [List.length_take]; omega)
      have hb1 : (0 : Int) ≤ (k : Int) := by omega
      have hb2 : (k : Int) < (xs.length : Int) := by omega
      gi_wp2
      refine hR.mono ?_
      rintro e W3 (⟨rfl, hJ3, hk3⟩ | ⟨rfl, hJx3⟩)
      · gi_wp2
        go_roundw
        case rel => exact ⟨k + 1, by omega, by simp, by rw [List.take_add_one, List.getElem?_eq_getElem hlt]; exact hJ3, hnx.trans hk3⟩
        case measure => simp [intOf]; omega
      · gi_wp2
        refine bodyPost_ret (results_none rfl _ _ _) rfl ?_
        exact ⟨⟨_, rfl⟩, .inr ⟨_, by
          have e : xs.take k ++ [xs[k]] = xs.take (k + 1) := by rw [List.take_add_one, List.getElem?_eq_getElem hlt]; rfl
          rw [e]
          exact List.take_prefix _ _, hJx3⟩⟩
    · obtain rfl : k = xs.length := by omega
      gi_wp2
      go_end0
      exact ⟨⟨_, rfl⟩, .inl ⟨_, rfl, by rw [List.take_length] at hJs; exact hJs⟩⟩

theorem vals_stops (F : Fence) (n : Nat) (h7 : F.fn 32) (hro : F.round = none) (hn : 1 ≤ n) (Bs n₀ cap : Nat) (A : Option Addr) (xs : List Int) (hreach : xs.length ≤ maxLen) (w : World) (hBs : Bs < w.heap.size) (hn₀ : n₀ ≤ w.heap.size)
    (hc : w.cell? ⟨Bs, 0, none⟩ = some (.slice A xs.length cap)) (hI : CellsLow n₀ w A xs) :
    SeqStopsK F n Tryz.prog 32 #[.pointer (some ⟨Bs, 0, none⟩)] (fun x : Int => #[Value.int .i64 x]) (Below n₀) (fun ys => ys = xs) (fun pre => pre <+: xs) xs.length w := fun l J Jx W hW _ _ hY h0 => by
  have hc' := (hW.cell (p := ⟨Bs, 0, none⟩) hBs).trans hc
  exact vals1_in F n h7 hro hn l Bs n₀ cap A xs hreach J Jx hY W hc' (hI.below (hW.mono hn₀)) h0

theorem values_any (A : Option Addr) (n c : Nat) (w : World) :
    Calls Tryz.prog 15 #[.slice A n c] w fun e w' => e = .returned (.func (.func 32) #[] #[.pointer (some ⟨w.heap.size, 0, none⟩)]) ∧ w' = w.alloc (.cells #[.slice A n c] 27) := by
  go_enter Tryz.func15, Tryz.ntmps15
  go_wp2
  go_ret
  exact ⟨rfl, rfl⟩

set_option maxRecDepth 100000 in
set_option maxHeartbeats 2000000 in
/-- slices.AppendSeq(nil, slices.Values(xs)). -/
theorem appendSeq_in (F : Fence) (n : Nat) (h3 : F.fn 50) (h5 : F.fn 32) (hro : F.round = none) (hn : 3 ≤ n) (Bs cap : Nat) (A : Option Addr) (xs : List Int) (hlen : xs.length ≤ maxLen) (hbytes : xs.length * 8 ≤ 140737488355328) (w : World)
    (hBs : Bs < w.heap.size) (hc : w.cell? ⟨Bs, 0, none⟩ = some (.slice A xs.length cap)) (hI : CellsLow w.heap.size w A xs) :
    CallsIn F n Tryz.prog 50 #[.slice none 0 0, .func (.func 32) #[] #[.pointer (some ⟨Bs, 0, none⟩)]] w fun e W' => ∃ v, e = .returned v ∧ W'.ownsRow w.heap.size 3 1 v xs.length (xs.map (Value.int .i64)) ∧ Below w.heap.size w W' := by
  have h1 : 1 ≤ n := by omega
  obtain ⟨i0, hi, hz0, hz1, hz2⟩ := info_parts info_int
  refine callsIn_of_wp_marks Tryz.func50 rfl h3 ?_ hro
  simp only [Tryz.ntmps50, List.size_toArray, List.length_cons, List.length_nil, Nat.reduceAdd, Nat.reduceSub, Array.replicate_succ, Array.replicate_zero, List.push_toArray, List.append_toArray, List.nil_append, List.cons_append]
  gi_wp2
  have bO := Boxed.new w 27 (.slice none 0 0)
  have hB0 : Below w.heap.size w (w.alloc (.cells #[.slice none 0 0] 27)) := (Below.refl _ w).alloc (Nat.le_refl _) _
  refine wpIn_rangeFunc_ownG hro h1 (gf := 32) (lb := #[.pointer (some ⟨Bs, 0, none⟩)]) rfl h5 (enters_of Tryz.func32 (by kernel_rfl) rfl)
    (vals_stops F (n - 1) h5 hro (by omega) Bs w.heap.size cap A xs hlen _ (by simp; omega) (by simp) ((hB0.cell (p := ⟨Bs, 0, none⟩) hBs).trans hc) (hI.below hB0)) belowK_t (belowK_b (by simp)) (Below.refl _ _) (fun _ => rfl)
    (fun pre W => (∃ v, Boxed W w.heap.size 27 v ∧ W.ownsRow w.heap.size 3 1 v pre.length (pre.map (Value.int .i64)) ∧ True) ∧ Below w.heap.size w W)
    (fun _ _ _ => False)
    (OwnFrom.and (Own.from (holdsRow_own w.heap.size w.heap.size 27 3 1 (fun pre : List Int => pre.length) (fun pre => pre.map (Value.int .i64)) (fun _ _ => True)) _) (ownFrom_below (Nat.le_refl _) (by simp)))
    (fun _ _ _ _ _ hs _ _ => hs)
    ⟨⟨_, bO, World.ownsRow_nil _ _ _ _, trivial⟩, hB0⟩
    (fun x => { tmps := #[.slice none 0 0, .func (.func 32) #[] #[.pointer (some ⟨Bs, 0, none⟩)], .pointer (some ⟨w.heap.size, 0, none⟩), undef, .slice none 0 0, .int .i64 x, .func (.func 32) #[] #[.pointer (some ⟨Bs, 0, none⟩)], .int .i64 x, undef, undef, undef, undef, undef], defers := [] }) ?assign ?body ?done ?stop
  case assign =>
    intro l x W K hK
    gi_wp2
    exact hK
  case body =>
    rintro l pre x W ⟨⟨v, hv, hrow, _⟩, hB⟩ hlt
    have hcv := hv.cell
    gi_wp2_with (gi_at_builtin; refine wpListIn_append_own _ rfl _ _ 27 rfl w.heap.size 3 i0 (.int .i64 0) 1 8 Tryz.underlying27 hi hz0 hz1 hz2 rfl (by decide) _ _ _ rfl (hrow.alloc _) ⟨W.heap.size, 0, none⟩ 1 1 [.int .i64 x] rfl rfl (cell_one_new _ _ _) (by simp [Value.oneCell']) (by omega) (by omega) (by have := hB.size; simp; omega) ?_; intro v' w1 hown' hgrow _; obtain ⟨g', cap', rfl⟩ := ownsRow_succ hown'; obtain ⟨hv1, hv2, hr2, hk2, hb2⟩ := hv.appended (by decide) hrow hB.size (Nat.le_refl _) hown' hgrow; have hc1 := hv1.cell; have hf1 := hv1.frozen)
    exact ⟨hk2.from _, hb2, ⟨_, hv2, by simpa using hr2, trivial⟩, hB.trans hb2⟩
  case done =>
    rintro D ys W hD rfl ⟨⟨v, hv, hrow, _⟩, hB⟩ hK
    have hcv := hv.cell
    gi_wp2
    refine ⟨by simp, .inl ⟨_, _, rfl, run_takeDeferred hK, ?_⟩⟩
    exact ⟨_, results_tmp rfl _ _ _, v, rfl, ownsRow_putObj hrow _ hK rfl, hB.trans (belowK_b (w := w) (Nat.le_refl _) W D _ _ (by simp at hD; omega) hK rfl rfl)⟩
  case stop =>
    rintro D c pre W _ _ h _
    exact h.elim
end Go.Proofs.YtahkpkaodeeemaaGreat

namespace Go.Proofs.YtahkpkaodeeemaaGreat
set_option linter.unusedVariables false

/-- A list in order. -/
def sortL (zs : List Int) : List Int := zs.mergeSort fun x y => decide (x ≤ y)
theorem sortL_perm (zs : List Int) : (sortL zs).Perm zs := List.mergeSort_perm _ _
theorem sortL_up (zs : List Int) : (sortL zs).Pairwise (· ≤ ·) := by
  have h := List.pairwise_mergeSort (le := fun x y : Int => decide (x ≤ y)) (fun a b c h1 h2 => by simp at *; omega) (fun a b => by simp; omega) zs
  exact h.imp fun h => by simpa using h
/-- .. each number once. -/
def normL (zs : List Int) : List Int := Lib.compact (sortL zs)

theorem compact_mem (zs : List Int) (x : Int) : x ∈ Lib.compact zs ↔ x ∈ zs := by
  unfold Lib.compact Lib.compactUpTo
  rw [List.mem_map]
  constructor
  · rintro ⟨j, hj, rfl⟩
    rw [List.mem_filter, List.mem_range] at hj
    rw [getElem!_pos _ j (by simpa using hj.1)]
    simp
  · intro hx
    obtain ⟨m, hm, rfl⟩ := List.mem_iff_getElem.1 hx
    have key : ∀ m, (hm : m < zs.length) → ∃ j, j ∈ (List.range zs.length).filter (Lib.keeps zs.toArray) ∧ zs.toArray[j]! = zs[m] := by
      intro m
      induction m with
      | zero =>
        intro hm
        refine ⟨0, ?_, ?_⟩
        · rw [List.mem_filter, List.mem_range]
          exact ⟨hm, Lib.keeps_lt_one _ 0 (by omega)⟩
        · rw [getElem!_pos _ 0 (by simpa using hm)]
          simp
      | succ m ih =>
        intro hm
        have e1 : zs.toArray[m + 1]! = zs[m + 1] := by rw [getElem!_pos _ _ (by simpa using hm)]; simp
        have e2 : zs.toArray[m]! = zs[m] := by rw [getElem!_pos _ _ (by simpa using (show m < zs.length by omega))]; simp
        by_cases e : zs[m + 1] = zs[m]
        · obtain ⟨j, h1, h2⟩ := ih (by omega)
          exact ⟨j, h1, h2.trans e.symm⟩
        · refine ⟨m + 1, ?_, e1⟩
          rw [List.mem_filter, List.mem_range]
          exact ⟨hm, Lib.keeps_pos (by rw [e1, Nat.add_sub_cancel, e2]; exact e)⟩
    exact key m hm
theorem compact_up {zs : List Int} (h : zs.Pairwise (· ≤ ·)) : (Lib.compact zs).Pairwise (· < ·) := by
  unfold Lib.compact Lib.compactUpTo
  rw [List.pairwise_map]
  have hr : ((List.range zs.length).filter (Lib.keeps zs.toArray)).Pairwise (· < ·) := List.Pairwise.filter _ List.pairwise_lt_range
  refine List.Pairwise.imp_of_mem (R := (· < ·)) ?_ hr
  intro i j hi hj hij
  rw [List.mem_filter, List.mem_range] at hi hj
  have hle := List.pairwise_iff_getElem.1 h
  have e : ∀ k (hk : k < zs.length), zs.toArray[k]! = zs[k] := fun k hk => by rw [getElem!_pos _ _ (by simpa using hk)]; simp
  have hne : zs[j]'hj.1 ≠ zs[j - 1]'(by omega) := by
    intro heq
    have := Lib.keeps_neg (d := zs.toArray) (m := j) (by omega) (by rw [e j hj.1, e (j - 1) (by omega)]; exact heq)
    rw [this] at hj
    exact absurd hj.2 (by decide)
  rw [e i hi.1, e j hj.1]
  have h1 : zs[j - 1]'(by omega) ≤ zs[j]'hj.1 := hle (j - 1) j (by omega) hj.1 (by omega)
  by_cases hij2 : i = j - 1
  · subst hij2; omega
  · have h2 : zs[i]'hi.1 ≤ zs[j - 1]'(by omega) := hle i (j - 1) hi.1 (by omega) (by omega)
    omega
theorem compact_len (zs : List Int) : (Lib.compact zs).length ≤ zs.length := by
  unfold Lib.compact Lib.compactUpTo
  rw [List.length_map]
  have := List.length_filter_le (Lib.keeps zs.toArray) (List.range zs.length)
  simpa using this
theorem normL_up (zs : List Int) : (normL zs).Pairwise (· < ·) := compact_up (sortL_up zs)
theorem normL_mem (zs : List Int) (x : Int) : x ∈ normL zs ↔ x ∈ zs := by
  unfold normL
  rw [compact_mem]
  exact (sortL_perm zs).mem_iff
theorem normL_len (zs : List Int) : (normL zs).length ≤ zs.length := by
  have h1 := compact_len (sortL zs)
  have h2 := (sortL_perm zs).length_eq
  unfold normL
  omega
/-- A list that rises is told by what it holds. -/
theorem up_unique {l m : List Int} (hl : l.Pairwise (· < ·)) (hm : m.Pairwise (· < ·)) (h : ∀ x, x ∈ l ↔ x ∈ m) : l = m := by
  have n1 : l.Nodup := hl.imp fun h => by omega
  have n2 : m.Nodup := hm.imp fun h => by omega
  exact List.Perm.eq_of_pairwise (le := (· < ·)) (fun a b _ _ h1 h2 => by omega) hl hm ((List.perm_ext_iff_of_nodup n1 n2).2 h)
theorem normL_of {l zs : List Int} (hl : l.Pairwise (· < ·)) (h : ∀ x, x ∈ l ↔ x ∈ zs) : normL zs = l :=
  up_unique (normL_up zs) hl fun x => (normL_mem zs x).trans (h x).symm
theorem normL_self {l : List Int} (hl : l.Pairwise (· < ·)) : normL l = l := normL_of hl fun _ => Iff.rfl
end Go.Proofs.YtahkpkaodeeemaaGreat

namespace Go.Proofs.YtahkpkaodeeemaaGreat
open Go.RowKit
set_option linter.unusedVariables false

def idxI (x : Int) : List Int → Nat → Int
  | [], _ => -1
  | y :: l, k => if x = y then (k : Int) else idxI x l (k + 1)
theorem idxI_nonneg (x : Int) : ∀ (l : List Int) (k : Nat), (0 ≤ idxI x l k) ↔ x ∈ l := by
  intro l
  induction l with
  | nil => intro k; simp [idxI]
  | cons y l ih =>
    intro k
    by_cases e : x = y
    · subst e; simp [idxI]
    · simp [idxI, e, ih]

theorem index_any {xs : List Int} {w : World} {v : Value} (h : IntsAt w v xs) (x : Int) :
    Calls Tryz.prog 47 #[v, .int .i64 x] w fun e w' => e = .returned (.int .i64 (idxI x xs 0)) ∧ w = w' := by
  obtain ⟨A, c, rfl, hm⟩ := h.shape
  unfold maxLen at hm
  have hm' : (xs.length : Int) ≤ 9223372036854775807 := by omega
  go_enter Tryz.func47, Tryz.ntmps47
  go_wp2_with fail
  go_loop [8] (fun i => ∃ (k : Nat), k ≤ xs.length ∧ i = .int .i64 k ∧ Hid (idxI x xs 0 = idxI x (xs.drop k) k)) (fun i => xs.length - (intOf i).toNat)
  case atStart => exact ⟨0, Nat.zero_le _, rfl, rfl⟩
  case round =>
    obtain ⟨k, hk, rfl, hd⟩ := hrel
    by_cases hlt : k < xs.length
    · obtain ⟨ad, c', e, h3⟩ := h.at_ hlt
      cases e
      have b1 : (k : Int) < (xs.length : Int) := by omega
      have b2 : (0 : Int) ≤ (k : Int) := by omega
      have hd2 := hd.out
      rw [List.drop_eq_getElem_cons hlt, idxI] at hd2
      generalize xs[k] = y at h3 hd2
      by_cases e : x = y
      · subst e
        rw [if_pos rfl] at hd2
        have hd' := Lib.hid hd2
        clear hd hd2
        have b3 : (x == x) = true := by simp
        go_wp2_with fail
        go_ret
        exact ⟨by rw [hd'.out]; rfl, rfl⟩
      · rw [if_neg e] at hd2
        have hd' := Lib.hid hd2
        clear hd hd2
        have b3 : (x == y) = false := by simpa using e
        go_wp2_with fail
        all_goals exact ⟨⟨k + 1, by omega, by go_num, hd'⟩, by simp [intOf]; omega⟩
    · obtain rfl : k = xs.length := by omega
      have hd2 := hd.out
      rw [List.drop_length, idxI] at hd2
      have hd' := Lib.hid hd2
      clear hd hd2
      go_wp2_with fail
      go_ret
      exact ⟨by rw [hd'.out]; rfl, rfl⟩

theorem contains_any {xs : List Int} {w : World} {v : Value} (h : IntsAt w v xs) (x : Int) :
    Calls Tryz.prog 27 #[v, .int .i64 x] w fun e w' => e = .returned (.bool (xs.contains x)) ∧ w = w' := by
  have hi := index_any h x
  have e : decide (0 ≤ idxI x xs 0) = xs.contains x := by
    rw [Bool.eq_iff_iff]
    simp [idxI_nonneg]
  have e' := Lib.hid e
  clear e
  go_enter Tryz.func27, Tryz.ntmps27
  go_wp2_with (go_at_call 47; refine hi.mono ?_; rintro e w' ⟨rfl, rfl⟩)
  go_ret
  exact ⟨by rw [← e'.out]; rfl, rfl⟩

/-- The closure that Round sorts by. -/
theorem less_any {xs ys : List Int} {w : World} {v u : Value} (h1 : IntsAt w v xs) (h2 : IntsAt w u ys) (hx : 0 < xs.length) (hy : 0 < ys.length) (bx : 0 ≤ xs[0] ∧ xs[0] ≤ 1024) (by' : 0 ≤ ys[0] ∧ ys[0] ≤ 1024) :
    Calls Tryz.prog 29 #[v, u] w fun e w' => e = .returned (.int .i64 (xs[0] - ys[0])) ∧ ∃ n, w' = w.drewN n := by
  obtain ⟨ad, c, rfl, a1⟩ := h1.at_ hx
  obtain ⟨ad', c', rfl, a2⟩ := h2.at_ hy
  rw [add_zero'] at a1 a2
  have b1 : (0 : Int) < (xs.length : Int) := by omega
  have b2 : (0 : Int) < (ys.length : Int) := by omega
  generalize xs[0] = x at bx a1 ⊢
  generalize ys[0] = y at by' a2 ⊢
  obtain ⟨c1, c2⟩ := bx
  obtain ⟨c3, c4⟩ := by'
  clear h1 h2
  go_enter Tryz.func29, Tryz.ntmps29
  go_wp2_with fail
  go_quiet (fail)
  go_wp2_with fail
  go_ret
  exact ⟨rfl, nq, rfl⟩
end Go.Proofs.YtahkpkaodeeemaaGreat

namespace Go.Proofs
open Go.Shelf
def Tryz.sortRows_ren : Go.Shelf.Ren := ⟨fun | 6 => 28 | 15 => 49 | 14 => 48 | 28 => 76 | 29 => 77 | 20 => 68 | 21 => 69 | 22 => 70 | 23 => 71 | 24 => 72 | 25 => 73 | 26 => 74 | 27 => 75 | 46 => 100 | 47 => 101 | 48 => 102 | 49 => 103 | 50 => 104 | 57 => 124 | n => n, fun | 22 => 24 | 24 => 27 | 25 => 73 | 3 => 3 | 39 => 100 | 0 => 0 | 53 => 146 | 55 => 148 | 4 => 4 | 46 => 140 | 45 => 139 | 50 => 75 | 5 => 5 | 9 => 9 | 66 => 164 | 70 => 162 | 76 => 182 | 77 => 183 | n => n, fun | n => n⟩
theorem Tryz.sortRows : Go.Proofs.SlLaysF.n6 Tryz.prog Tryz.sortRows_ren := {
  mixed := by kernel_rfl
  f6 := ⟨Tryz.f28.name, by decide, Tryz.func28.trans (congrArg some (by kernel_rfl))⟩
  f14 := ⟨Tryz.f48.name, by decide, Tryz.func48.trans (congrArg some (by kernel_rfl))⟩
  f15 := Tryz.func49.trans (congrArg some (by kernel_rfl))
  f20 := ⟨Tryz.f68.name, by decide, Tryz.func68.trans (congrArg some (by kernel_rfl))⟩
  f21 := ⟨Tryz.f69.name, by decide, Tryz.func69.trans (congrArg some (by kernel_rfl))⟩
  f22 := ⟨Tryz.f70.name, by decide, Tryz.func70.trans (congrArg some (by kernel_rfl))⟩
  f23 := ⟨Tryz.f71.name, by decide, Tryz.func71.trans (congrArg some (by kernel_rfl))⟩
  f24 := ⟨Tryz.f72.name, by decide, Tryz.func72.trans (congrArg some (by kernel_rfl))⟩
  f25 := ⟨Tryz.f73.name, by decide, Tryz.func73.trans (congrArg some (by kernel_rfl))⟩
  f26 := ⟨Tryz.f74.name, by decide, Tryz.func74.trans (congrArg some (by kernel_rfl))⟩
  f27 := ⟨Tryz.f75.name, by decide, Tryz.func75.trans (congrArg some (by kernel_rfl))⟩
  f28 := Tryz.func76.trans (congrArg some (by kernel_rfl))
  f29 := Tryz.func77.trans (congrArg some (by kernel_rfl))
  f46 := ⟨Tryz.f100.name, by decide, Tryz.func100.trans (congrArg some (by kernel_rfl))⟩
  f47 := Tryz.func101.trans (congrArg some (by kernel_rfl))
  f48 := Tryz.func102.trans (congrArg some (by kernel_rfl))
  f49 := ⟨Tryz.f103.name, by decide, Tryz.func103.trans (congrArg some (by kernel_rfl))⟩
  f50 := ⟨Tryz.f104.name, by decide, Tryz.func104.trans (congrArg some (by kernel_rfl))⟩
  f57 := ⟨Tryz.f124.name, by decide, Tryz.func124.trans (congrArg some (by kernel_rfl))⟩
  t0 := Tryz.underlying0
  a0 := Tryz.isAgg0
  z0 := Tryz.sizeOf0
  v0 := Tryz.zeroValue0
  t3 := Tryz.underlying3
  a3 := Tryz.isAgg3
  z3 := Tryz.sizeOf3
  v3 := Tryz.zeroValue3
  t4 := Tryz.underlying4
  a4 := Tryz.isAgg4
  z4 := Tryz.sizeOf4
  v4 := Tryz.zeroValue4
  t5 := Tryz.underlying5
  a5 := Tryz.isAgg5
  z5 := Tryz.sizeOf5
  v5 := Tryz.zeroValue5
  t9 := Tryz.underlying9
  a9 := Tryz.isAgg9
  z9 := Tryz.sizeOf9
  v9 := Tryz.zeroValue9
  t22 := Tryz.underlying24
  a22 := Tryz.isAgg24
  z22 := Tryz.sizeOf24
  v22 := Tryz.zeroValue24
  a24 := Tryz.isAgg27
  z24 := Tryz.sizeOf27
  t25 := Tryz.underlying73
  a25 := Tryz.isAgg73
  z25 := Tryz.sizeOf73
  v25 := Tryz.zeroValue73
  t39 := Tryz.underlying100
  a39 := Tryz.isAgg100
  z39 := Tryz.sizeOf100
  v39 := Tryz.zeroValue100
  t45 := Tryz.underlying139
  a45 := Tryz.isAgg139
  z45 := Tryz.sizeOf139
  v45 := Tryz.zeroValue139
  t46 := Tryz.underlying140
  a46 := Tryz.isAgg140
  z46 := Tryz.sizeOf140
  v46 := Tryz.zeroValue140
  t50 := Tryz.underlying75
  a50 := Tryz.isAgg75
  z50 := Tryz.sizeOf75
  v50 := Tryz.zeroValue75
  t53 := Tryz.underlying146
  a53 := Tryz.isAgg146
  z53 := Tryz.sizeOf146
  v53 := Tryz.zeroValue146
  t55 := Tryz.underlying148
  a55 := Tryz.isAgg148
  z55 := Tryz.sizeOf148
  v55 := Tryz.zeroValue148
  t66 := Tryz.underlying164
  a66 := Tryz.isAgg164
  z66 := Tryz.sizeOf164
  v66 := Tryz.zeroValue164
  t70 := Tryz.underlying162
  a70 := Tryz.isAgg162
  z70 := Tryz.sizeOf162
  v70 := Tryz.zeroValue162
  t76 := Tryz.underlying182
  a76 := Tryz.isAgg182
  z76 := Tryz.sizeOf182
  v76 := Tryz.zeroValue182
  t77 := Tryz.underlying183
  a77 := Tryz.isAgg183
  z77 := Tryz.sizeOf183
  v77 := Tryz.zeroValue183 }
end Go.Proofs
