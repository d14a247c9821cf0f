/- order.Order over the empty tree, where it is refused. Walked. -/
import Derived.Test.YtahkpkaodeeemaaGreatLooseE
import Derived.Test.YtahkpkaodeeemaaGreatRoundMore
import Derived.Test.YtahkpkaodeeemaaGreatInsKit
namespace Go.Proofs.YtahkpkaodeeemaaGreat
open Go.RowKit
set_option linter.unusedVariables false

/-- The error that Order answers ahead of its work. -/
noncomputable def orderE (xss : List (List Int)) (m : Nat) : Int := if refused xss ≠ 0 then refused xss else if xss.length ≠ m then 1 else if roundRows xss ≠ [] then 33 else 0

theorem Sep.len0 {w0 w : World} {v : Value} (h : Sep w0 w [rowsR v []]) : ∃ A c, v = .slice A 0 c := by
  obtain ⟨A, c, rfl, _⟩ := (h.rows 0 rfl).shape
  exact ⟨A, c, rfl⟩

set_option maxRecDepth 100000 in
set_option maxHeartbeats 1000000 in
theorem order_bad {xss : List (List Int)} {w : World} {vn : Value} {Aa : Option Addr} {m ca : Nat} (b : Bool) (hn : RowsAt w vn xss) (hm : m ≤ 1048576) (he : orderE xss m ≠ 0) :
    Calls Tryz.prog 7 #[treeE, .slice Aa m ca, vn, .slice none 0 0, .bool b] w fun e w' => e = .returned (.tuple #[.slice none 0 0, .int .i64 (orderE xss m)]) ∧ Below w.heap.size w w' := by
  have hlo := fun W => loose_none W
  have hro := fun W (hW : Below w.heap.size w W) => round_any (hn.below hW)
  obtain ⟨An, cn, rfl, hmn⟩ := hn.shape
  have hro' := Lib.hid hro
  obtain ⟨E, hE⟩ : ∃ E, E = orderE xss m := ⟨_, rfl⟩
  rw [← hE] at he ⊢
  have hB0 : Below w.heap.size w (((w.alloc (.cells #[.slice none 0 0, .slice none 0 0] 34)).alloc (.cells #[.slice Aa m ca] 23)).alloc (.cells #[.slice none 0 0] 37)) := (((Below.refl _ _).alloc (Nat.le_refl _) _).alloc (by simp) _).alloc (by simp; omega) _
  have hB0' := Lib.hid hB0
  unfold treeE at *
  clear hro hn hB0
  by_cases hx : refused xss = 0
  case neg =>
    unfold orderE at hE
    rw [if_pos hx] at hE
    rw [← hE] at hro' hx
    have b1 : (E != 0) = true := by simpa using hx
    clear hE hx he
    go_enter Tryz.func7, Tryz.ntmps7
    go_wp2_with (first
      | (go_at_call 10; refine (hlo _).mono ?_; rintro e w1 ⟨rfl, hb1⟩; have hb1' := Lib.hid (hB0'.out.trans (hb1.mono hB0'.out.size)); clear hb1)
      | (go_at_call 11; refine (hro'.out _ hb1'.out).mono ?_; rintro e w2 ⟨v, rfl, hR⟩; have hb2' := Lib.hid (hb1'.out.trans (hR.below.mono hb1'.out.size)); clear hR))
    go_ret2
    exact ⟨rfl, hb2'.out⟩
  have hcell : ∀ W, Below (((w.alloc (.cells #[.slice none 0 0, .slice none 0 0] 34)).alloc (.cells #[.slice Aa m ca] 23)).alloc (.cells #[.slice none 0 0] 37)).heap.size (((w.alloc (.cells #[.slice none 0 0, .slice none 0 0] 34)).alloc (.cells #[.slice Aa m ca] 23)).alloc (.cells #[.slice none 0 0] 37)) W → W.cell? ⟨w.heap.size + 1, 0, none⟩ = some (.slice Aa m ca) := by
    intro W hW
    rw [hW.cell (p := ⟨w.heap.size + 1, 0, none⟩) (by simp), World.cell?_of_block ((Below.new _ _).block _ (by simp))]
    have h1 := heap_alloc_new (w.alloc (.cells #[.slice none 0 0, .slice none 0 0] 34)) (.cells #[.slice Aa m ca] 23)
    simp only [World.size_alloc] at h1
    exact cell_of_row _ _ 0 _ _ _ h1
  have hcell' := Lib.hid hcell
  clear hcell
  have hx' := Lib.hid hx
  by_cases hlen : xss.length = m
  case neg =>
    unfold orderE at hE
    rw [if_neg (by simpa using hx), if_pos hlen] at hE
    subst hE
    have b1 : ((xss.length : Int) != (m : Int)) = true := by simp; omega
    rw [hx] at hro'
    clear hx hlen he
    go_enter Tryz.func7, Tryz.ntmps7
    go_wp2_with (first
      | (go_at_call 10; refine (hlo _).mono ?_; rintro e w1 ⟨rfl, hb1⟩; have hb0' := Lib.hid hb1; have hb1' := Lib.hid (hB0'.out.trans (hb1.mono hB0'.out.size)); clear hb1)
      | (go_at_call 11; refine (hro'.out _ hb1'.out).mono ?_; rintro e w2 ⟨v, rfl, hR⟩; have d6 := hcell'.out _ (hb0'.out.trans (hR.below.mono hb0'.out.size)); have hb2' := Lib.hid (hb1'.out.trans (hR.below.mono hb1'.out.size)); clear hR))
    go_ret2
    exact ⟨rfl, hb2'.out⟩
  unfold orderE at hE
  rw [if_neg (by simpa using hx), if_neg (by simpa using hlen)] at hE
  have hr : roundRows xss ≠ [] := by
    intro h
    rw [h] at hE
    exact he hE
  rw [if_pos hr] at hE
  subst hE
  have b1 : ((xss.length : Int) != (m : Int)) = false := by simp; omega
  rw [hx] at hro'
  obtain ⟨rr, hrr⟩ : ∃ r, r = (roundRows xss).length := ⟨_, rfl⟩
  have hpos : (0 : Int) < (rr : Int) := by
    have := List.length_pos_iff.2 hr
    omega
  have hrr' := Lib.hid hrr
  clear hx hlen he hr hrr
  go_enter Tryz.func7, Tryz.ntmps7
  go_wp2_with (first
    | (go_at_call 10; refine (hlo _).mono ?_; rintro e w1 ⟨rfl, hb1⟩; have hb0' := Lib.hid hb1; have hb1' := Lib.hid (hB0'.out.trans (hb1.mono hB0'.out.size)); clear hb1)
    | (go_at_call 11; refine (hro'.out _ hb1'.out).mono ?_; rintro e w2 ⟨v, rfl, hR⟩; obtain ⟨A9, c9, rfl, _⟩ := (hR.rows 0 rfl).shape; rw [← hrr'.out]; have d6 := hcell'.out _ (hb0'.out.trans (hR.below.mono hb0'.out.size)); have hb2' := Lib.hid (hb1'.out.trans (hR.below.mono hb1'.out.size)); clear hR))
  go_ret2
  exact ⟨rfl, hb2'.out⟩
end Go.Proofs.YtahkpkaodeeemaaGreat
