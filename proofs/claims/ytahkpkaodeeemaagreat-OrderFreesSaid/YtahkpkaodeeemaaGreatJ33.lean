/- RoundMore, OrderBad, Shelf16, Queue, laid together. -/
import Derived.Test.YtahkpkaodeeemaaGreatJ32
import Derived.Test.YtahkpkaodeeemaaGreatJ25
import Derived.Test.YtahkpkaodeeemaaGreatJ31
import Derived.Test.YtahkpkaodeeemaaGreatJ17
import Derived.Shelf.Lays2
import Derived.Ground.Names2Prog
import Derived.Test.YtahkpkaodeeemaaGreatProg
import Derived.Test.YtahkpkaodeeemaaGreatJ26
import Derived.Test.YtahkpkaodeeemaaGreatJ14
import Derived.Shelf.Slices.Delete
namespace Go.Proofs.YtahkpkaodeeemaaGreat
set_option linter.unusedVariables false

theorem ring_ok {n : Nat} (h1 : 1 ≤ n) (hn : n ≤ 1024) : refused (longX n true) = 0 := by
  refine refused_none (by rw [longX_len]; exact hn) (fun j hj => ?_) (fun j hj i hi => ?_)
  · rw [longX_at hj]
    split
    · simp
    · simp
  · rw [longX_len] at hj ⊢
    have e := longX_at (n := n) (round := true) (i := j) (by rw [longX_len]; exact hj)
    have hm := List.getElem_mem hi
    generalize (longX n true)[j][i] = y at hm ⊢
    rw [e] at hm
    split at hm
    · rw [List.mem_singleton] at hm
      omega
    · simp at hm
      omega
theorem ring_goes {n : Nat} (h1 : 1 ≤ n) : RP (longX n true) 0 0 := by
  by_cases h : n = 1
  · subst h
    exact ⟨0, (longX_adj (n := 1) (by omega) 0).2 (.inr ⟨rfl, rfl, rfl⟩), .refl _⟩
  · refine ⟨1, (longX_adj (by omega) 1).2 (.inl ⟨by omega, rfl⟩), ?_⟩
    have h2 := longX_reach (n := n) (round := true) (u := 1) (v := n - 1) (by omega) (by omega)
    exact h2.trans (Tarjan.Reach.edge ((longX_adj (by omega) 0).2 (.inr ⟨by omega, rfl, rfl⟩)))
theorem ring_head {n : Nat} (h1 : 1 ≤ n) (hn : n ≤ 1024) : ∃ l rest, roundRows (longX n true) = (0 :: l) :: rest := by
  have h0 : 0 ∈ roundL (longX n true) := roundL_iff.2 ⟨by rw [longX_len]; omega, rfl, ring_goes h1⟩
  have hs := roundL_sorted (xss := longX n true)
  rw [roundRows_ok (ring_ok h1 hn), round_rows]
  cases hl : roundL (longX n true) with
  | nil => rw [hl] at h0; cases h0
  | cons a t =>
    rw [hl] at h0 hs
    obtain rfl : a = 0 := by
      rcases List.mem_cons.1 h0 with e | h
      · exact e.symm
      · have := (List.pairwise_cons.1 hs).1 0 h; omega
    obtain ⟨l, e⟩ := mem_head (partsRep_isRep (longX n true)) (i := 0) (by rw [longX_len]; omega) rfl
    exact ⟨l.map fun (v : Nat) => (v : Int), _, by rw [List.map_cons, e]; rfl⟩
/-- Where each number needs lesser ones alone, by some count, nothing goes round. -/
theorem none_round {xss : List (List Int)} (f : Nat → Nat) (h : ∀ v, v < xss.length → ∀ u, u ∈ adjOf xss v → f u < f v) (hx : refused xss = 0) : roundRows xss = [] := by
  have hr : ∀ {u v : Nat}, Tarjan.Reach (adjOf xss) u v → u < xss.length → f v ≤ f u := by
    intro u v hr
    induction hr with
    | refl => intro _; omega
    | step h1 _ ih =>
      intro hu
      have := h _ hu _ h1
      have := ih (adj_lt hx hu h1)
      omega
  rw [roundRows_ok hx, round_rows]
  have : roundL xss = [] := by
    rw [List.eq_nil_iff_forall_not_mem]
    intro i hi
    obtain ⟨i1, _, u, hu, hui⟩ := roundL_iff.1 hi
    have := h i i1 u hu
    have := hr hui (adj_lt hx i1 hu)
    omega
  rw [this]
  rfl
theorem norm_one (x : Int) : normL [x] = [x] := normL_self (by simp)
theorem ring_norm (n : Nat) : (longX n true).map normL = longX n true := by
  apply List.ext_getElem (by simp)
  intro i h1 h2
  rw [List.getElem_map, longX_at h2]
  split
  · exact norm_one _
  · simp [norm_one]
end Go.Proofs.YtahkpkaodeeemaaGreat

namespace Go.Proofs.YtahkpkaodeeemaaGreat
open Go.RowKit
set_option linter.unusedVariables false

/-- The error that Order answers ahead of its work. -/
noncomputable def orderE (xss : List (List Int)) (m : Nat) : Int := if refused xss ≠ 0 then refused xss else if xss.length ≠ m then 1 else if roundRows xss ≠ [] then 33 else 0

theorem Sep.len0 {w0 w : World} {v : Value} (h : Sep w0 w [rowsR v []]) : ∃ A c, v = .slice A 0 c := by
  obtain ⟨A, c, rfl, _⟩ := (h.rows 0 rfl).shape
  exact ⟨A, c, rfl⟩

set_option maxRecDepth 100000 in
set_option maxHeartbeats 1000000 in
theorem order_bad {xss : List (List Int)} {w : World} {vn : Value} {Aa : Option Addr} {m ca : Nat} (b : Bool) (hn : RowsAt w vn xss) (hm : m ≤ 1048576) (he : orderE xss m ≠ 0) :
    Calls Tryz.prog 7 #[treeE, .slice Aa m ca, vn, .slice none 0 0, .bool b] w fun e w' => e = .returned (.tuple #[.slice none 0 0, .int .i64 (orderE xss m)]) ∧ Below w.heap.size w w' := by
  have hlo := fun W => loose_none W
  have hro := fun W (hW : Below w.heap.size w W) => round_any (hn.below hW)
  obtain ⟨An, cn, rfl, hmn⟩ := hn.shape
  have hro' := Lib.hid hro
  obtain ⟨E, hE⟩ : ∃ E, E = orderE xss m := ⟨_, rfl⟩
  rw [← hE] at he ⊢
  have hB0 : Below w.heap.size w (((w.alloc (.cells #[.slice none 0 0, .slice none 0 0] 34)).alloc (.cells #[.slice Aa m ca] 23)).alloc (.cells #[.slice none 0 0] 37)) := (((Below.refl _ _).alloc (Nat.le_refl _) _).alloc (by simp) _).alloc (by simp; omega) _
  have hB0' := Lib.hid hB0
  unfold treeE at *
  clear hro hn hB0
  by_cases hx : refused xss = 0
  case neg =>
    unfold orderE at hE
    rw [if_pos hx] at hE
    rw [← hE] at hro' hx
    have b1 : (E != 0) = true := by simpa using hx
    clear hE hx he
    go_enter Tryz.func7, Tryz.ntmps7
    go_wp2_with (first
      | (go_at_call 10; refine (hlo _).mono ?_; rintro e w1 ⟨rfl, hb1⟩; have hb1' := Lib.hid (hB0'.out.trans (hb1.mono hB0'.out.size)); clear hb1)
      | (go_at_call 11; refine (hro'.out _ hb1'.out).mono ?_; rintro e w2 ⟨v, rfl, hR⟩; have hb2' := Lib.hid (hb1'.out.trans (hR.below.mono hb1'.out.size)); clear hR))
    go_ret2
    exact ⟨rfl, hb2'.out⟩
  have hcell : ∀ W, Below (((w.alloc (.cells #[.slice none 0 0, .slice none 0 0] 34)).alloc (.cells #[.slice Aa m ca] 23)).alloc (.cells #[.slice none 0 0] 37)).heap.size (((w.alloc (.cells #[.slice none 0 0, .slice none 0 0] 34)).alloc (.cells #[.slice Aa m ca] 23)).alloc (.cells #[.slice none 0 0] 37)) W → W.cell? ⟨w.heap.size + 1, 0, none⟩ = some (.slice Aa m ca) := by
    intro W hW
    rw [hW.cell (p := ⟨w.heap.size + 1, 0, none⟩) (by simp), World.cell?_of_block ((Below.new _ _).block _ (by simp))]
    have h1 := heap_alloc_new (w.alloc (.cells #[.slice none 0 0, .slice none 0 0] 34)) (.cells #[.slice Aa m ca] 23)
    simp only [World.size_alloc] at h1
    exact cell_of_row _ _ 0 _ _ _ h1
  have hcell' := Lib.hid hcell
  clear hcell
  have hx' := Lib.hid hx
  by_cases hlen : xss.length = m
  case neg =>
    unfold orderE at hE
    rw [if_neg (by simpa using hx), if_pos hlen] at hE
    subst hE
    have b1 : ((xss.length : Int) != (m : Int)) = true := by simp; omega
    rw [hx] at hro'
    clear hx hlen he
    go_enter Tryz.func7, Tryz.ntmps7
    go_wp2_with (first
      | (go_at_call 10; refine (hlo _).mono ?_; rintro e w1 ⟨rfl, hb1⟩; have hb0' := Lib.hid hb1; have hb1' := Lib.hid (hB0'.out.trans (hb1.mono hB0'.out.size)); clear hb1)
      | (go_at_call 11; refine (hro'.out _ hb1'.out).mono ?_; rintro e w2 ⟨v, rfl, hR⟩; have d6 := hcell'.out _ (hb0'.out.trans (hR.below.mono hb0'.out.size)); have hb2' := Lib.hid (hb1'.out.trans (hR.below.mono hb1'.out.size)); clear hR))
    go_ret2
    exact ⟨rfl, hb2'.out⟩
  unfold orderE at hE
  rw [if_neg (by simpa using hx), if_neg (by simpa using hlen)] at hE
  have hr : roundRows xss ≠ [] := by
    intro h
    rw [h] at hE
    exact he hE
  rw [if_pos hr] at hE
  subst hE
  have b1 : ((xss.length : Int) != (m : Int)) = false := by simp; omega
  rw [hx] at hro'
  obtain ⟨rr, hrr⟩ : ∃ r, r = (roundRows xss).length := ⟨_, rfl⟩
  have hpos : (0 : Int) < (rr : Int) := by
    have := List.length_pos_iff.2 hr
    omega
  have hrr' := Lib.hid hrr
  clear hx hlen he hr hrr
  go_enter Tryz.func7, Tryz.ntmps7
  go_wp2_with (first
    | (go_at_call 10; refine (hlo _).mono ?_; rintro e w1 ⟨rfl, hb1⟩; have hb0' := Lib.hid hb1; have hb1' := Lib.hid (hB0'.out.trans (hb1.mono hB0'.out.size)); clear hb1)
    | (go_at_call 11; refine (hro'.out _ hb1'.out).mono ?_; rintro e w2 ⟨v, rfl, hR⟩; obtain ⟨A9, c9, rfl, _⟩ := (hR.rows 0 rfl).shape; rw [← hrr'.out]; have d6 := hcell'.out _ (hb0'.out.trans (hR.below.mono hb0'.out.size)); have hb2' := Lib.hid (hb1'.out.trans (hR.below.mono hb1'.out.size)); clear hR))
  go_ret2
  exact ⟨rfl, hb2'.out⟩
end Go.Proofs.YtahkpkaodeeemaaGreat

namespace Go.Proofs
open Go.Shelf
def Tryz.deleteInts_ren : Go.Shelf.Ren := ⟨fun | 23 => 38 | n => n, fun | 22 => 27 | 3 => 3 | 4 => 4 | 0 => 0 | n => n, fun | n => n⟩
theorem Tryz.deleteInts : Go.Proofs.Lays2.n23 Tryz.prog Tryz.deleteInts_ren := {
  mixed := by kernel_rfl
  f23 := Tryz.func38.trans (congrArg some (by kernel_rfl))
  t0 := Tryz.underlying0
  a0 := Tryz.isAgg0
  z0 := Tryz.sizeOf0
  v0 := Tryz.zeroValue0
  t3 := Tryz.underlying3
  a3 := Tryz.isAgg3
  z3 := Tryz.sizeOf3
  v3 := Tryz.zeroValue3
  t4 := Tryz.underlying4
  a4 := Tryz.isAgg4
  z4 := Tryz.sizeOf4
  v4 := Tryz.zeroValue4
  t22 := Tryz.underlying27
  a22 := Tryz.isAgg27
  z22 := Tryz.sizeOf27
  v22 := Tryz.zeroValue27
  i3 := by kernel_rfl }
end Go.Proofs

namespace Go.Proofs.YtahkpkaodeeemaaGreat
open Go.RowKit
set_option linter.unusedVariables false

theorem minus_any (a b : Int) (w : World) (ha : 0 ≤ a ∧ a ≤ 1048576) (hb : 0 ≤ b ∧ b ≤ 1048576) :
    Calls Tryz.prog 12 #[.int .i64 a, .int .i64 b] w fun e w' => e = .returned (.int .i64 (a - b)) ∧ w = w' := by
  obtain ⟨a1, a2⟩ := ha
  obtain ⟨b1, b2⟩ := hb
  go_enter Tryz.func12, Tryz.ntmps12
  go_wp2
  go_ret
  exact ⟨rfl, rfl⟩

set_option maxRecDepth 100000 in
set_option maxHeartbeats 1000000 in
/-- The place of a number greater than all. -/
theorem bsearch_any {xs : List Int} {w : World} {v : Value} (h : IntsAt w v xs) (x : Int) (hx : 0 ≤ x ∧ x ≤ 1048576) (hlt : ∀ y ∈ xs, 0 ≤ y ∧ y < x) (hl : xs.length ≤ 1048576) :
    Calls Tryz.prog 33 #[v, .int .i64 x, .func (.func 12) #[] #[]] w fun e w' => e = .returned (.tuple #[.int .i64 xs.length, .bool false]) ∧ w = w' := by
  obtain ⟨A, c, rfl, hm⟩ := h.shape
  unfold maxLen at hm
  have h' := Lib.hid h
  have hlt' := Lib.hid hlt
  clear h hlt
  go_enter Tryz.func33, Tryz.ntmps33
  go_wp2_with fail
  go_loopg [9, 10] xs.length (fun g lv hv wr => ∃ lo : Nat, lv = .int .i64 lo ∧ hv = .int .i64 xs.length ∧ lo ≤ xs.length ∧ Hid (g = xs.length - lo) ∧ w = wr)
  case atStart => exact ⟨0, rfl, rfl, Nat.zero_le _, Lib.hid (by omega), rfl⟩
  case round =>
    obtain ⟨lo, rfl, rfl, hlo, hg, rfl⟩ := hrel
    by_cases hc : lo < xs.length
    · have hmid : (lo + xs.length) / 2 < xs.length := by omega
      obtain ⟨ad, c', e, h3⟩ := h'.out.at_ hmid
      cases e
      have hy := hlt'.out _ (List.getElem_mem hmid)
      generalize xs[(lo + xs.length) / 2] = y at h3 hy
      have hcmp := minus_any y x w (by omega) hx
      obtain ⟨y1, y2⟩ := hy
      obtain ⟨x1, x2⟩ := hx
      have q1 : (0 : Int) ≤ (lo : Int) := by omega
      have q2 : (lo : Int) < (xs.length : Int) := by omega
      have q3 : (xs.length : Int) ≤ 1048576 := by omega
      have q4 : y - x < 0 := by omega
      go_wp2_with (go_at_call 12; refine hcmp.mono ?_; rintro e w' ⟨rfl, rfl⟩)
      go_roundg (xs.length - ((lo + xs.length) / 2 + 1))
      case measure => rw [hg.out]; omega
      case rel => exact ⟨(lo + xs.length) / 2 + 1, by rw [show ((lo : Int) + (xs.length : Int)) / 2 + 1 = (((lo + xs.length) / 2 + 1 : Nat) : Int) by omega], rfl, by omega, rfl, rfl⟩
    · obtain rfl : lo = xs.length := by omega
      go_wp2_with fail
      go_ret2
      exact ⟨rfl, rfl⟩

set_option maxRecDepth 100000 in
set_option maxHeartbeats 1000000 in
/-- slices.Insert at the end, one value. -/
theorem insert_end {w0 w : World} {As : List Asn} {v : Value} {xs : List Int} (k : Nat) (hS : Sep w0 w As) (hk : As[k]? = some (intsR v xs)) (x : Int) (g : Nat) (hg : w.cell? ⟨g, 0, none⟩ = some (.int .i64 x)) (hl : xs.length ≤ 1048576) :
    Calls Tryz.prog 34 #[v, .int .i64 xs.length, .slice (some ⟨g, 0, none⟩) 1 1] w fun e w' => ∃ v', e = .returned v' ∧ Sep w0 w' (As.set k (intsR v' (xs ++ [x]))) := by
  obtain ⟨i0, hinf, hz0, hz1, hz2⟩ := info_parts info_int
  obtain ⟨A, c, rfl, hm⟩ := (hS.ints k hk).shape
  unfold maxLen at hm
  obtain ⟨n, hn⟩ : ∃ n, xs.length = n := ⟨_, rfl⟩
  have hk2 : As[k]? = some (.sl 3 1 (.slice A n c) n (xs.map (.int .i64))) := by rw [hk, ← hn]; rfl
  have hcap : (n : Int) ≤ (c : Int) := by
    obtain ⟨A', c', e, h1, _⟩ := hS.sl_any k hk2
    cases e
    omega
  have hS' := Lib.hid hS
  have hk' := Lib.hid hk2
  rw [hn] at hm hl ⊢
  have hn' := Lib.hid hn
  clear hS hk hk2 hn
  have q1 : (0 : Int) ≤ (n : Int) := by omega
  have q2 : ((n : Int) == (n : Int)) = true := by simp
  have hcells : ∀ j u, [Value.int .i64 x][j]? = some u → w.cell? ((⟨g, 0, none⟩ : Addr).add j) = some u := by
    intro j u hu
    cases j with
    | zero => simp at hu; subst hu; exact hg
    | succ j => simp at hu
  have hcells' := Lib.hid hcells
  clear hcells
  go_enter Tryz.func34, Tryz.ntmps34
  go_wp2_with (first
    | (at_builtin; refine wpList_append_sep k rfl _ _ 27 rfl 3 i0 (.int .i64 0) 1 8 Tryz.underlying27 hinf hz0 hz1 hz2 rfl (by decide) hS'.out _ n (xs.map (.int .i64)) hk'.out rfl ⟨g, 0, none⟩ 1 1 [.int .i64 x] rfl rfl hcells'.out (by simp [Value.oneCell']) (by decide) (by unfold maxLen; omega) (by omega) ?_)
    | fail)
  all_goals
    intro g2 c2 w2 hS2 _
    have hS2' := Lib.hid hS2
    clear hS2
    go_wp2_with fail
    go_ret
    refine ⟨.slice (some ⟨g2, 0, none⟩) (n + 1) c2, rfl, ?_⟩
    have e : intsR (.slice (some ⟨g2, 0, none⟩) (n + 1) c2) (xs ++ [x]) = .sl 3 1 (.slice (some ⟨g2, 0, none⟩) (n + 1) c2) (n + 1) (xs.map (.int .i64) ++ [.int .i64 x]) := by
      unfold intsR
      rw [List.length_append, hn'.out, List.map_append]
      rfl
    rw [e]
    exact hS2'.out

/-- slices.Delete of the first. -/
theorem delete_any {w0 w : World} {As : List Asn} {v : Value} {xs : List Int} (k i : Nat) (h : Sep w0 w As) (hk : As[k]? = some (intsR v xs)) (hi : i < xs.length) :
    Calls Tryz.prog 38 #[v, .int .i64 i, .int .i64 (i + 1 : Nat)] w fun e w' => ∃ v', e = .returned v' ∧ Sep w0 w' (As.set k (intsR v' (xs.take i ++ xs.drop (i + 1)))) := by
  obtain ⟨g, c, rfl, _, hg, hc, hmax⟩ := h.sl_form k hk (by omega)
  have hH := ints_holds k h hk rfl
  have hcon := Go.Proofs.Any.slices_Delete_int Go.Proofs.Tryz.deleteInts g 0 c i (i + 1) xs w hH hc (by unfold maxLen at hmax; omega) (by omega) (by omega)
  change Calls Tryz.prog 38 _ _ _ at hcon
  refine hcon.mono ?_
  rintro e w' ⟨rfl, q, rfl⟩
  refine ⟨_, rfl, ?_⟩
  have hl : (xs.take i ++ xs.drop (i + 1)).length = xs.length - (i + 1 - i) := by rw [List.length_append, List.length_take, List.length_drop]; omega
  have hd : (xs.take i ++ xs.drop (i + 1) ++ List.replicate (i + 1 - i) 0).toArray.size = xs.length := by
    rw [List.size_toArray, List.length_append, hl, List.length_replicate]; omega
  have hS := h.sorted (α := Int) (Value.int .i64) k hk q (xs.take i ++ xs.drop (i + 1) ++ List.replicate (i + 1 - i) 0).toArray hd #[]
  have hlt : k < As.length := (List.getElem?_eq_some_iff.1 hk).1
  have hS2 := hS.sl_cut k (List.getElem?_set_self hlt) (xs.length - (i + 1 - i)) (by omega)
  rw [List.set_set] at hS2
  have e1 : intsR (.slice (some ⟨g, 0, none⟩) (xs.length - (i + 1 - i)) c) (xs.take i ++ xs.drop (i + 1)) = .sl 3 1 (.slice (some ⟨g, 0, none⟩) (xs.length - (i + 1 - i)) c) (xs.length - (i + 1 - i)) (((xs.take i ++ xs.drop (i + 1) ++ List.replicate (i + 1 - i) 0).toArray.toList.map (Value.int .i64)).take ((xs.length - (i + 1 - i)) * 1)) := by
    unfold intsR
    rw [hl]
    congr 1
    rw [Nat.mul_one, List.toList_toArray, List.map_append (l₁ := xs.take i ++ xs.drop (i + 1)) (l₂ := List.replicate (i + 1 - i) 0), List.take_left' (by rw [List.length_map, hl])]
  rw [e1]
  have e2 : Go.Proofs.sortWorld (Value.int .i64) w g 0 q (xs.take i ++ xs.drop (i + 1) ++ List.replicate (i + 1 - i) 0).toArray #[] = Go.Sort.putRow (Value.int .i64) (Go.Sort.ahead w q) g 0 (xs.take i ++ xs.drop (i + 1) ++ List.replicate (i + 1 - i) 0).toArray := by
    unfold Go.Proofs.sortWorld
    rw [Go.Sort.grow_empty]
  rw [e2] at hS2
  exact hS2

/-- The queue in the memory. -/
def queueCells (v : Value) : Array Value := #[v, .func (.func 12) #[] #[]]

set_option maxRecDepth 100000 in
set_option maxHeartbeats 1000000 in
/-- A number greater than all comes into the queue. -/
theorem put_any {w0 w : World} {R : List Asn} {b : Nat} {v : Value} {xs : List Int} (hS : Sep w0 w (.box b 51 (queueCells v) :: intsR v xs :: R)) (x : Int) (hx : 0 ≤ x ∧ x ≤ 1048576) (hlt : ∀ y ∈ xs, 0 ≤ y ∧ y < x) (hl : xs.length ≤ 1048576) :
    Calls Tryz.prog 16 #[.pointer (some ⟨b, 0, none⟩), .int .i64 x] w fun e w' => e = .returned (.tuple #[]) ∧ ∃ v', Sep w0 w' (.box b 51 (queueCells v') :: intsR v' (xs ++ [x]) :: R) := by
  have d0 : w.cell? ⟨b, 0, none⟩ = some v := by rw [hS.box_cell 0 rfl 0]; rfl
  have d1 : w.cell? ⟨b, 1, none⟩ = some (.func (.func 12) #[] #[]) := by rw [hS.box_cell 0 rfl 1]; rfl
  have hbs : ∀ W, Below w.heap.size w W → Calls Tryz.prog 33 #[v, .int .i64 x, .func (.func 12) #[] #[]] W fun e w' => e = .returned (.tuple #[.int .i64 xs.length, .bool false]) ∧ w' = W :=
    fun W hW => (bsearch_any ((hS.ints 1 rfl).below hW) x hx hlt hl).mono fun e w' h => ⟨h.1, h.2.symm⟩
  obtain ⟨A, c, rfl, _⟩ := (hS.ints 1 rfl).shape
  have hbs' := Lib.hid hbs
  have hS' := Lib.hid hS
  have hbq : ∀ n, Below w.heap.size w (w.drewN n) := fun n => ⟨rfl, rfl, rfl, Nat.le_refl _, fun _ _ => rfl⟩
  have hbq' := Lib.hid hbq
  clear hbs hS hbq
  go_enter Tryz.func16, Tryz.ntmps16
  go_wp2_with fail
  go_quiet ((go_at_call 33; exact Calls.quiet_of_same (hbs'.out _ (hbq'.out _))))
  have hSq := hS'.out.drewN nq
  generalize w.drewN nq = w1 at hSq ⊢
  have e0 : w1.cell? ⟨b, 0, none⟩ = some (.slice A xs.length c) := by rw [hSq.box_cell 0 rfl 0]; rfl
  have hSa := hSq.alloc (.cells #[.int .i64 x] 3)
  have e1 : (w1.alloc (.cells #[.int .i64 x] 3)).cell? ⟨b, 0, none⟩ = some (.slice A xs.length c) := by rw [hSa.box_cell 0 rfl 0]; rfl
  have hin := insert_end 1 hSa rfl x w1.heap.size (cell_one_new _ _ _ 0 _ rfl) hl
  have hin' := Lib.hid hin
  clear hin hSa hSq d0 d1
  go_wp2_with (go_at_call 34; refine hin'.out.mono ?_; rintro e w2 ⟨v2, rfl, hT⟩; obtain ⟨A2, c2, rfl, _⟩ := (hT.ints 1 rfl).shape; have f0 := hT.box_cell 0 rfl 0; have f1 := hT.box_frozen 0 rfl 0; have hT' := Lib.hid hT; clear hT)
  go_end0
  refine ⟨rfl, .slice A2 (xs.length + 1) c2, ?_⟩
  have h1 := hT'.out.box_stored 0 rfl 0 (.slice A2 (xs.length + 1) c2)
  rw [List.length_append] at h1
  exact h1

set_option maxRecDepth 100000 in
set_option maxHeartbeats 1000000 in
/-- The first is taken out. -/
theorem take_any {w0 w : World} {R : List Asn} {b : Nat} {v : Value} {y : Int} {xs : List Int} (hS : Sep w0 w (.box b 51 (queueCells v) :: intsR v (y :: xs) :: R)) :
    Calls Tryz.prog 20 #[.pointer (some ⟨b, 0, none⟩), .int .i64 0] w fun e w' => e = .returned (.int .i64 y) ∧ ∃ v', Sep w0 w' (.box b 51 (queueCells v') :: intsR v' xs :: R) := by
  obtain ⟨g, c, rfl, _⟩ := hS.sl_form 1 rfl (by simp)
  have d0 : w.cell? ⟨b, 0, none⟩ = some (.slice (some ⟨g, 0, none⟩) (y :: xs).length c) := by rw [hS.box_cell 0 rfl 0]; rfl
  have d1 : w.cell? ⟨g, 0, none⟩ = some (.int .i64 y) := by rw [hS.cellAt 1 rfl 0 (by simp)]; rfl
  have hde := delete_any 1 0 hS rfl (by simp)
  simp only [List.take_zero, List.nil_append, Nat.zero_add, List.drop_succ_cons, List.drop_zero] at hde
  have hpos : (0 : Int) < (((y :: xs).length : Nat) : Int) := by rw [List.length_cons]; omega
  generalize (y :: xs).length = n at d0 hde hpos
  have hde' := Lib.hid hde
  clear hde hS
  go_enter Tryz.func20, Tryz.ntmps20
  go_wp2_with (go_at_call 38; refine hde'.out.mono ?_; rintro e w2 ⟨v2, rfl, hT⟩; obtain ⟨A2, c2, rfl, _⟩ := (hT.ints 1 rfl).shape; have f0 := hT.box_cell 0 rfl 0; have f1 := hT.box_frozen 0 rfl 0; have hT' := Lib.hid hT; clear hT)
  go_ret
  refine ⟨rfl, .slice A2 xs.length c2, ?_⟩
  exact hT'.out.box_stored 0 rfl 0 (.slice A2 xs.length c2)
end Go.Proofs.YtahkpkaodeeemaaGreat
