/- Tail, Pile, laid together. -/
import Derived.StillTail
import Derived.Deep.Quiet
import Derived.Deep.Draws
import Derived.Test.YtahkpkaodeeemaaGreatJ3
import Derived.Deep.RegionHeld3
import Derived.Deep.RegionLaw
import Derived.Deep.DrawnRows
import Derived.Test.YtahkpkaodeeemaaGreatProg
namespace Go.Proofs.YtahkpkaodeeemaaGreat
open Go

section
variable {P : Program} {ops : Array Oper} {md : Region.Mode} {C : World → Prop}

def wpAnyH (P : Program) (md : Region.Mode) (ops : Array Oper) (C : World → Prop) (n : Nat) (L : Array Bool → Act → Prop) : Nat → Array Bool → Act → Prop
  | 0, listed, a => L listed a
  | f + 1, listed, a =>
    Region.ready md ops listed ≠ [] ∧ ∀ i ∈ Region.ready md ops listed, i < n ∧ qOp P ops C i (wpAnyH P md ops C n L f (listed.setIfInBounds i true)) a

theorem wpAny_of_headH {n g : Nat} {L : Array Bool → Act → Prop} {Q' : Exit → Act → World → Prop} (hL : ∀ listed a w, C w → L listed a → wpAny P md ops Q' g listed a w) :
    ∀ (f : Nat) (listed : Array Bool) (a : Act) (w : World), C w → wpAnyH P md ops C n L f listed a → wpAny P md ops Q' (f + g) listed a w
  | 0, listed, a, w, hw, h => by rw [Nat.zero_add]; exact hL _ _ _ hw h
  | f + 1, listed, a, w, hw, h => by
    rw [show f + 1 + g = (f + g) + 1 by omega]
    exact ⟨fun h0 => absurd h0 h.1, fun i hi => wpOp_of_qOp hw (fun a' w' hw' h' => wpAny_of_headH hL f _ a' w' hw' h') (h.2 i hi).2⟩

theorem wpAnyH_first {n i : Nat} {oi : Oper} {v : Value} {L : Array Bool → Act → Prop} (hi : ops[i]? = some oi) (hsel : ∀ (j : Nat) (o : Oper) cs b, ops[j]? = some o → o.op ≠ .select cs b)
    (hs : Region.sinkB md ops n = true) (hc : Region.chainB md ops n = true) (hn : n < ops.size) (hin : i < n)
    (hdone : ∀ listed a, L listed a → ∀ j ∈ Region.ready md ops listed, n ≤ j) :
    ∀ (f : Nat) (listed : Array Bool) (a : Act), HeadInv md ops n listed →
      (∀ j oj, ops[j]? = some oj → j ≠ i → listed.getD j true = false → (∀ e ∈ oj.after, Region.binds md e = true → e.on ≠ i) → oi.apart ops oj = true) →
      i ∈ Region.ready md ops listed → YieldsIn P ops C oi v a →
      wpAnyH P md ops C n L f (listed.setIfInBounds i true) (a.put oi.dst v) → wpAnyH P md ops C n L (f + 1) listed a := by
  intro f
  induction f with
  | zero =>
    intro listed a inv _ hr hy H
    have hun := (mem_ready.1 hr).1
    refine ⟨fun h => (by rw [h] at hr; cases hr), fun j hj => ?_⟩
    have hjn : j < n := by
      rcases Nat.lt_or_ge j n with h | h
      · exact h
      · exact absurd hj (tail_waits hs hc hn inv _ i rfl hin hun j h)
    refine ⟨hjn, ?_⟩
    by_cases hji : j = i
    · subst hji; exact hy.qOp hi H
    · have := hdone _ _ H j (ready_mono hj hji)
      omega
  | succ f ih =>
    intro listed a inv hfree hr hy H
    have hun := (mem_ready.1 hr).1
    refine ⟨fun h => (by rw [h] at hr; cases hr), fun j hj => ?_⟩
    have hjn : j < n := by
      rcases Nat.lt_or_ge j n with h | h
      · exact h
      · exact absurd hj (tail_waits hs hc hn inv _ i rfl hin hun j h)
    refine ⟨hjn, ?_⟩
    by_cases hji : j = i
    · subst hji; exact hy.qOp hi H
    · have h1 := (H.2 j (ready_mono hj hji)).2
      obtain ⟨hjun, oj, hoj, hall⟩ := mem_ready.1 hj
      have hnot : ∀ e ∈ oj.after, Region.binds md e = true → e.on ≠ i := fun e he hb heq => by
        have h1 := hall e he hb
        rw [heq, getD_both hun] at h1
        cases h1
      have h2 := qOp_put hoj (hfree j oj hoj hji hjun hnot) (fun cs b => hsel i oi cs b hi) (fun cs b => hsel j oj cs b hoj) hy h1
      have hfree' : ∀ k ok, ops[k]? = some ok → k ≠ i → (listed.setIfInBounds j true).getD k true = false →
          (∀ e ∈ ok.after, Region.binds md e = true → e.on ≠ i) → oi.apart ops ok = true := fun k ok hk hki hun hno => by
        refine hfree k ok hk hki ?_ hno
        by_cases hjk : j = k
        · subst hjk; exact hjun
        · rw [getD_set_ne true hjk] at hun; exact hun
      refine qOp_mono (fun a' h3 => ih (listed.setIfInBounds j true) a' (inv.set hj hjn) hfree' (ready_mono hr (Ne.symm hji)) h3.1 ?_) h2
      rw [Array.setIfInBounds_comm _ _ hji]
      exact h3.2

theorem wpAnyH_lex {n g : Nat} {Lq : Act → Prop} (hsel : Region.noSelect ops = true) (hs : Region.sinkB md ops n = true) (hc : Region.chainB md ops n = true) (hn : n < ops.size) :
    ∀ (l : List Oper) (k : Nat) (listed : Array Bool) (a : Act), (∀ j, j < l.length → l[j]? = ops[k + j]?) → k + l.length = n → HeadInv md ops n listed →
    Region.lexHead md ops g l.length k listed = true → wpQuiet P ops C Lq l a →
    wpAnyH P md ops C n (fun listed' a' => Region.seqB md ops g n listed' = true ∧ Lq a') l.length listed a
  | [], k, listed, a, _, hk, _, hB, h => by
    have : k = n := by simpa using hk
    subst this
    exact ⟨by simpa [Region.lexHead] using hB, h⟩
  | o :: l, k, listed, a, hl, hk, inv, hB, h => by
    have h0 : ops[k]? = some o := by simpa using (hl 0 (by simp)).symm
    simp only [List.length_cons, Region.lexHead, Bool.and_eq_true] at hB
    obtain ⟨⟨hr, hf⟩, hB'⟩ := hB
    have hkn : k < n := by simp only [List.length_cons] at hk; omega
    have hr' : k ∈ Region.ready md ops listed := by simpa using hr
    have hst : qOp P ops C k (wpQuiet P ops C Lq l) a := by unfold qOp; simp only [h0]; exact h
    obtain ⟨v, hy, hK⟩ := yieldsIn_of_qOp h0 hst
    exact wpAnyH_first h0 (Region.noSelect_spec hsel) hs hc hn hkn (fun listed' a' hL => seqB_ready hL.1) l.length listed a inv (Region.free_spec h0 hf) hr' hy
      (wpAnyH_lex hsel hs hc hn l (k + 1) _ _ (fun j hj => by have := hl (j + 1) (by simp; omega); simpa [Nat.add_assoc, Nat.add_comm 1 j] using this) (by simp only [List.length_cons] at hk; omega) (inv.set hr' hkn) hB' hK)

theorem wp_quiet_tail {id : Nat} {Q : Exit → Act → World → Prop} {a : Act} {w : World} {l : List Oper} (n : Nat) (hm : P.follows .mixedOrders = true) (hB : Region.lexTailB .any l.toArray n = true)
    (h : wpQuiet P l.toArray (fun w' => ∃ k, w' = w.drewN k) (fun a' => ∀ w', (∃ k, w' = w.drewN k) → wpList P l.toArray Q (l.drop n) a' w') (l.take n) a) : (Code.region id l.toArray true).wp P Q a w := by
  simp only [Region.lexTailB, Bool.and_eq_true, decide_eq_true_eq] at hB
  obtain ⟨⟨⟨⟨hsel, hn⟩, hs⟩, hc⟩, hlex⟩ := hB
  have hn' : n < l.length := by simpa using hn
  have htl : (l.take n).length = n := by simp; omega
  have hdl : (l.drop n).length = l.toArray.size - n := by simp
  have inv0 : HeadInv .any l.toArray n (Array.replicate l.toArray.size false) :=
    ⟨by simp, fun j oj _ hl => (by rw [getD_replicate_false] at hl; cases hl), fun t _ ht => getD_in (by simpa using ht) (getD_replicate_false _ _)⟩
  have H := wpAnyH_lex (md := .any) (g := l.toArray.size - n) hsel hs hc hn (l.take n) 0 _ a (fun j hj => by
    have hj' : j < n := by rw [htl] at hj; exact hj
    simp [hj']) (by simpa using htl) inv0 (by rw [htl]; exact hlex) h
  refine wp_region_any hm ?_
  have := wpAny_of_headH (Q' := Q) (g := l.toArray.size - n) (fun listed a' w' hw' hL => by
    have := wpAny_of_seq (md := .any) (Q' := Q) (l.drop n) n listed a' w' (fun j => by simp [List.getElem?_drop]) (by rw [hdl]; exact hL.1) (hL.2 w' hw')
    rwa [hdl] at this) _ _ _ { w with drawn := w.drawn + 1 } ⟨1, rfl⟩ H
  rw [htl, show n + (l.toArray.size - n) = l.toArray.size by omega] at this
  exact this
end
end Go.Proofs.YtahkpkaodeeemaaGreat

namespace Go.Proofs.YtahkpkaodeeemaaGreat
open Go.RowKit
set_option linter.unusedVariables false

theorem info_int : (Tryz.prog.info? 3).map (fun i => (i.zero, i.size, i.bytes)) = some (some (.int .i64 0), 1, 8) := by kernel_rfl
theorem info_frame : (Tryz.prog.info? 134).map (fun i => (i.zero, i.size, i.bytes)) = some (some (.agg #[.int .i64 0, .int .i64 0]), 2, 16) := by kernel_rfl

/-- A pile of numbers: a block of one cell (its slice), and the slice. -/
def pileR (b : Nat) (xs : List Int) : Asn := .ex fun v : Value => .star (.box b 130 #[v]) (intsR v xs)
def fcells (fs : List (Int × Int)) : List Value := fs.flatMap fun p => [.int .i64 p.1, .int .i64 p.2]
def framesR (v : Value) (fs : List (Int × Int)) : Asn := .sl 134 2 v fs.length (fcells fs)

set_option maxHeartbeats 400000 in
theorem push_int {w0 w : World} {R : List Asn} (b : Nat) (v : Value) (xs : List Int) (x : Int) (hx : xs.length ≤ 1000000) (hS : Sep w0 w (.box b 130 #[v] :: intsR v xs :: R)) :
    Calls Tryz.prog 63 #[.pointer (some ⟨b, 0, none⟩), .int .i64 x] w fun e w' => ∃ v', e = .returned (.tuple #[]) ∧ Sep w0 w' (.box b 130 #[v'] :: intsR v' (xs ++ [x]) :: R) := by
  obtain ⟨i0, hi, hz0, hz1, hz2⟩ := info_parts info_int
  have hb : w.cell? ⟨b, 0, none⟩ = some v := by rw [hS.box_cell 0 rfl 0]; rfl
  have hlt := (hS.boxAt 0 rfl).2.2
  have hS1 := hS.alloc (.cells #[.int .i64 x] 3)
  go_enter Tryz.func63, Tryz.ntmps63
  go_wp2_with (first
      | (at_builtin; refine wpList_append_sep 1 rfl _ _ 27 rfl 3 i0 (.int .i64 0) 1 8 Tryz.underlying27 hi hz0 hz1 hz2 rfl (by decide) hS1 _ _ _ rfl rfl ⟨w.heap.size, 0, none⟩ 1 1 [.int .i64 x] rfl rfl (cell_one_new _ _ _) (by simp [Value.oneCell']) (by decide) (by unfold maxLen; omega) (by omega) ?_)
      | fail)
  intro g cap w1 hS2 hsz
  have hb1 : w1.cell? ⟨b, 0, none⟩ = some v := by rw [hS2.box_cell 0 rfl 0]; rfl
  have hf1 : w1.frozen? ⟨b, 0, none⟩ = false := hS2.box_frozen 0 rfl 0
  go_wp2_with fail
  go_end0
  refine ⟨.slice (some ⟨g, 0, none⟩) (xs.length + 1) cap, rfl, ?_⟩
  have := hS2.box_stored 0 rfl 0 (.slice (some ⟨g, 0, none⟩) (xs.length + 1) cap)
  simpa [intsR] using this

set_option maxHeartbeats 400000 in
theorem top_int {w0 w : World} {R : List Asn} (b : Nat) (g cap : Nat) (xs : List Int) (hx : 0 < xs.length) (hm : xs.length ≤ 1000000)
    (hS : Sep w0 w (.box b 130 #[.slice (some ⟨g, 0, none⟩) xs.length cap] :: intsR (.slice (some ⟨g, 0, none⟩) xs.length cap) xs :: R)) :
    Calls Tryz.prog 99 #[.pointer (some ⟨b, 0, none⟩)] w fun e w' => e = .returned (.pointer (some ⟨g, xs.length - 1, none⟩)) ∧ ∃ n, w' = w.drewN n := by
  have hb : w.cell? ⟨b, 0, none⟩ = some (.slice (some ⟨g, 0, none⟩) xs.length cap) := by rw [hS.box_cell 0 rfl 0]; rfl
  have h1 : (0 : Int) ≤ (xs.length : Int) - 1 := by omega
  have h2 : (xs.length : Int) - 1 < (xs.length : Int) := by omega
  go_enter Tryz.func99, Tryz.ntmps99
  go_wp2_with fail
  go_quiet (fail)
  go_wp2_with fail
  go_ret
  exact ⟨rfl, nq, rfl⟩

set_option maxHeartbeats 400000 in
theorem pop_int {w0 w : World} {R : List Asn} (b : Nat) (v : Value) (xs : List Int) (x : Int) (hm : xs.length < 1000000)
    (hS : Sep w0 w (.box b 130 #[v] :: intsR v (xs ++ [x]) :: R)) :
    Calls Tryz.prog 66 #[.pointer (some ⟨b, 0, none⟩)] w fun e w' => ∃ v', e = .returned (.int .i64 x) ∧ Sep w0 w' (.box b 130 #[v'] :: intsR v' xs :: R) := by
  obtain ⟨g, cap, rfl, hg, hgl, hcap, hmax⟩ := hS.sl_form 1 rfl (by simp)
  have hlen : (xs ++ [x]).length = xs.length + 1 := by simp
  have hb : w.cell? ⟨b, 0, none⟩ = some (.slice (some ⟨g, 0, none⟩) (xs.length + 1) cap) := by rw [hS.box_cell 0 rfl 0]; simp
  have hx : w.cell? ⟨g, xs.length, none⟩ = some (.int .i64 x) := by rw [hS.cellAt 1 rfl xs.length (by simp)]; simp
  have hf : w.frozen? ⟨b, 0, none⟩ = false := hS.box_frozen 0 rfl 0
  have ht := fun n => top_int b g cap (xs ++ [x]) (by simp) (by simp; omega) (hS.drewN n)
  simp only [hlen, Nat.add_sub_cancel] at ht
  have h1 : (0 : Int) ≤ (xs.length : Int) := by omega
  have hcap' : xs.length + 1 ≤ cap := by simpa using hcap
  have h2 : (xs.length : Int) ≤ (cap : Int) := by omega
  have h3 : (cap : Int) ≤ 9223372036854775807 := by have := hmax; simp only [maxLen] at this; omega
  clear hlen
  go_enter Tryz.func66, Tryz.ntmps66
  go_wp2_with (go_at_call 99; refine (ht 0).mono ?_; rintro e w' ⟨rfl, n, rfl⟩)
  refine wp_quiet_tail 14 (by kernel_rfl) (by kernel_rfl) ?_
  simp only [List.take_succ_cons, List.take_zero, List.drop_succ_cons, List.drop_zero]
  repeat (go_big_quiet_step (fail))
  refine wpQuiet_nil ?_
  rintro _ ⟨nq, rfl⟩
  go_wp2_with fail
  go_ret
  refine ⟨.slice (some ⟨g, 0, none⟩) xs.length cap, rfl, ?_⟩
  have := ((hS.drewN (n + nq)).sl_cut 1 rfl xs.length (by simp)).box_stored 0 rfl 0 (.slice (some ⟨g, 0, none⟩) xs.length cap)
  simpa [intsR] using this

theorem fcells_length (fs : List (Int × Int)) : (fcells fs).length = fs.length * 2 := by
  induction fs with
  | nil => rfl
  | cons p fs ih => simp [fcells] at ih ⊢; omega
theorem fcells_append (fs gs : List (Int × Int)) : fcells (fs ++ gs) = fcells fs ++ fcells gs := by simp [fcells]

set_option maxHeartbeats 400000 in
theorem top_frame {w0 w : World} {R : List Asn} (b : Nat) (g cap n : Nat) (hx : 0 < n) (hm : n ≤ 1000000)
    (hS : Sep w0 w (.box b 128 #[.slice (some ⟨g, 0, none⟩) n cap] :: R)) :
    Calls Tryz.prog 65 #[.pointer (some ⟨b, 0, none⟩)] w fun e w' => e = .returned (.pointer (some ⟨g, (n - 1) * 2, none⟩)) ∧ ∃ n, w' = w.drewN n := by
  have hb : w.cell? ⟨b, 0, none⟩ = some (.slice (some ⟨g, 0, none⟩) n cap) := by rw [hS.box_cell 0 rfl 0]; rfl
  have h1 : (0 : Int) ≤ (n : Int) - 1 := by omega
  have h2 : (n : Int) - 1 < (n : Int) := by omega
  go_enter Tryz.func65, Tryz.ntmps65
  go_wp2_with fail
  go_quiet (fail)
  go_wp2_with fail
  go_ret
  exact ⟨rfl, nq, rfl⟩

set_option maxHeartbeats 400000 in
theorem push_frame {w0 w : World} {R : List Asn} (b : Nat) (v : Value) (fs : List (Int × Int)) (k a : Int) (hx : fs.length ≤ 1000000) (hS : Sep w0 w (.box b 128 #[v] :: framesR v fs :: R)) :
    Calls Tryz.prog 64 #[.pointer (some ⟨b, 0, none⟩), .agg #[.int .i64 k, .int .i64 a]] w fun e w' =>
      ∃ v', e = .returned (.tuple #[]) ∧ Sep w0 w' (.box b 128 #[v'] :: framesR v' (fs ++ [(k, a)]) :: R) := by
  obtain ⟨i0, hi, hz0, hz1, hz2⟩ := info_parts info_frame
  have hb : w.cell? ⟨b, 0, none⟩ = some v := by rw [hS.box_cell 0 rfl 0]; rfl
  have hlt := (hS.boxAt 0 rfl).2.2
  have hS1 : Sep w0 (w.alloc (.cells #[.int .i64 k, .int .i64 a] 134)) (.box b 128 #[v] :: framesR v fs :: .box w.heap.size 134 #[.int .i64 k, .int .i64 a] :: R) :=
    (hS.box_new 134 #[.int .i64 k, .int .i64 a]).sel [1, 2, 0] (by decide) (by simp)
  have hb1 : (w.alloc (.cells #[.int .i64 k, .int .i64 a] 134)).cell? ⟨b, 0, none⟩ = some v := by rw [hS1.box_cell 0 rfl 0]; rfl
  have hnews : ∀ (j : Nat) u, [Value.int .i64 k, .int .i64 a][j]? = some u → (((w.alloc (.cells #[.int .i64 k, .int .i64 a] 134)).alloc (.cells #[.int .i64 k, .int .i64 a] 134)).drew).cell? ((⟨w.heap.size + 1, 0, none⟩ : Addr).add j) = some u :=
    cells_new (w.alloc (.cells #[.int .i64 k, .int .i64 a] 134)) #[.int .i64 k, .int .i64 a] _ _ (by simp)
  have hnews := Lib.hid hnews
  go_enter Tryz.func64, Tryz.ntmps64
  go_wp2_with fail
  go_region_law ((refine step_append_sep (w0 := w0) (As := .box b 128 #[v] :: framesR v fs :: .box w.heap.size 134 #[.int .i64 k, .int .i64 a] :: R) 1 (by rfl) _ _ _ (by rfl) 134 i0 _ 2 16 Tryz.underlying126 hi hz0 hz1 hz2 rfl (by decide) ((hS1.alloc (.cells #[.int .i64 k, .int .i64 a] 134)).drew) v fs.length (fcells fs) rfl (by rfl) ⟨w.heap.size + 1, 0, none⟩ 1 1 [.int .i64 k, .int .i64 a] (by rfl) rfl hnews.out (by simp [Value.oneCell']) (by decide) (by unfold maxLen; omega) (by omega) ?_; intro g cap w1 hS2 hsz; have hb2 : w1.cell? ⟨b, 0, none⟩ = some v := (by rw [hS2.box_cell 0 rfl 0]; rfl); have hf1 : w1.frozen? ⟨b, 0, none⟩ = false := hS2.box_frozen 0 rfl 0))
  all_goals go_wp2_with fail
  all_goals go_end0
  all_goals
    refine ⟨.slice (some ⟨g, 0, none⟩) (fs.length + 1) cap, rfl, ?_⟩
    have := ((hS2.box_stored 0 rfl 0 (.slice (some ⟨g, 0, none⟩) (fs.length + 1) cap)).sel [2, 0, 1] (by decide) (by simp)).drop 1
    simpa [framesR, fcells_append, fcells] using this

set_option maxHeartbeats 400000 in
theorem pop_frame {w0 w : World} {R : List Asn} (b : Nat) (v : Value) (fs : List (Int × Int)) (k a : Int) (hm : fs.length < 1000000)
    (hS : Sep w0 w (.box b 128 #[v] :: framesR v (fs ++ [(k, a)]) :: R)) :
    Calls Tryz.prog 67 #[.pointer (some ⟨b, 0, none⟩)] w fun e w' => ∃ v', e = .returned (.agg #[.int .i64 k, .int .i64 a]) ∧ Sep w0 w' (.box b 128 #[v'] :: framesR v' fs :: R) := by
  obtain ⟨g, cap, rfl, hg, hgl, hcap, hmax⟩ := hS.sl_form 1 rfl (by simp)
  have hlen : (fs ++ [(k, a)]).length = fs.length + 1 := by simp
  have hb : w.cell? ⟨b, 0, none⟩ = some (.slice (some ⟨g, 0, none⟩) (fs.length + 1) cap) := by rw [hS.box_cell 0 rfl 0]; simp
  have hbl := (hS.boxAt 0 rfl).2.2
  have hx : w.cell? ⟨g, fs.length * 2, none⟩ = some (.int .i64 k) := by
    rw [hS.cellAt 1 rfl (fs.length * 2) (by simp), fcells_append, List.getElem?_append_right (by rw [fcells_length]; exact Nat.le_refl _), fcells_length]; simp [fcells]
  have hy : w.cell? ⟨g, fs.length * 2 + 1, none⟩ = some (.int .i64 a) := by
    rw [hS.cellAt 1 rfl (fs.length * 2 + 1) (by simp; omega), fcells_append, List.getElem?_append_right (by rw [fcells_length]; omega), fcells_length, show fs.length * 2 + 1 - fs.length * 2 = 1 by omega]; simp [fcells]
  have hf : w.frozen? ⟨b, 0, none⟩ = false := hS.box_frozen 0 rfl 0
  have hS1 := hS.alloc (.cells #[.int .i64 0, .int .i64 0] 134)
  have ht := top_frame b g cap (fs.length + 1) (by omega) (by omega) (by rw [← hlen]; exact hS1)
  rw [Nat.add_sub_cancel] at ht
  have h1 : (0 : Int) ≤ (fs.length : Int) := by omega
  have hcap' : fs.length + 1 ≤ cap := by simpa using hcap
  have h2 : (fs.length : Int) ≤ (cap : Int) := by omega
  have h3 : (cap : Int) ≤ 9223372036854775807 := by have := hmax; simp only [maxLen] at this; omega
  clear hlen
  go_enter Tryz.func67, Tryz.ntmps67
  go_wp2_with (go_at_call 65; refine ht.mono ?_; rintro e w' ⟨rfl, n, rfl⟩)
  refine wp_quiet_tail 14 (by kernel_rfl) (by kernel_rfl) ?_
  simp only [List.take_succ_cons, List.take_zero, List.drop_succ_cons, List.drop_zero]
  repeat (go_big_quiet_step (fail))
  refine wpQuiet_nil ?_
  rintro _ ⟨nq, rfl⟩
  go_wp2_with fail
  have hF := (((((((hS.box_new 134 #[.int .i64 0, .int .i64 0]).drewN n).alloc (.cells #[.int .i64 k, .int .i64 a] 134)).drewN nq).sl_cut 2 rfl fs.length (by simp)).box_stored 1 rfl 0 (.slice (some ⟨g, 0, none⟩) fs.length cap)).box_stored 0 rfl 0 (.int .i64 k)).box_stored 0 rfl 1 (.int .i64 a)
  have q0 := hF.box_cell 0 rfl 0
  have q1 := hF.box_cell 0 rfl 1
  refine bodyPost_ret (v := .agg #[.int .i64 k, .int .i64 a]) (by simp [results, Tryz.results67, go_sem, q0, q1]) rfl ⟨.slice (some ⟨g, 0, none⟩) fs.length cap, rfl, ?_⟩
  have := hF.drop 1
  simpa [framesR, fcells_append, ← fcells_length] using this
end Go.Proofs.YtahkpkaodeeemaaGreat
