/- FreesP, OrderPlainP, Alive16, FreesW, FreesD, laid together. -/
import Derived.Test.YtahkpkaodeeemaaGreatJ36
import Derived.Test.YtahkpkaodeeemaaGreatJ34
import Derived.Test.YtahkpkaodeeemaaGreatJ35
import Derived.Test.YtahkpkaodeeemaaGreatJ17
namespace Go.Proofs.YtahkpkaodeeemaaGreat
set_option linter.unusedVariables false

theorem lessG_iff (a b : Int × Int) : lessG a b = true ↔ a.1 < b.1 ∨ a.1 = b.1 ∧ a.2 < b.2 := by
  unfold lessG
  simp
/-- a comes ahead of b. -/
def AheadG (gr : Int → Int × Int) (a b : Int) : Prop := lessG (gr a) (gr b) = true ∨ gr a = gr b ∧ a < b
theorem bestI_spec (gr : Int → Int × Int) (r : List Int) : ∀ k, 0 < k → bestI gr r k < k ∧ (∀ j, j < bestI gr r k → lessG (gr (r.getD (bestI gr r k) 0)) (gr (r.getD j 0)) = true) ∧ ∀ j, bestI gr r k < j → j < k → lessG (gr (r.getD j 0)) (gr (r.getD (bestI gr r k) 0)) = false := by
  intro k hk
  induction k with
  | zero => omega
  | succ k ih =>
    by_cases h0 : k = 0
    · subst h0
      have e : bestI gr r 1 = 0 := rfl
      rw [Nat.zero_add, e]
      exact ⟨by omega, fun j hj => by omega, fun j h1 h2 => by omega⟩
    · obtain ⟨i1, i2, i3⟩ := ih (by omega)
      by_cases hl : lessG (gr (r.getD k 0)) (gr (r.getD (bestI gr r k) 0)) = true
      · have e : bestI gr r (k + 1) = k := by
          show (if k = 0 ∨ lessG (gr (r.getD k 0)) (gr (r.getD (bestI gr r k) 0)) = true then k else bestI gr r k) = k
          rw [if_pos (.inr hl)]
        rw [e]
        refine ⟨by omega, fun j hj => ?_, fun j h1 h2 => by omega⟩
        rw [lessG_iff] at hl ⊢
        rcases Nat.lt_trichotomy j (bestI gr r k) with h | h | h
        · have := (lessG_iff _ _).1 (i2 j h)
          omega
        · subst h
          exact hl
        · have h3 := i3 j h hj
          have h4 : ¬ (lessG (gr (r.getD j 0)) (gr (r.getD (bestI gr r k) 0)) = true) := by rw [h3]; decide
          rw [lessG_iff] at h4
          omega
      · have e : bestI gr r (k + 1) = bestI gr r k := by
          show (if k = 0 ∨ lessG (gr (r.getD k 0)) (gr (r.getD (bestI gr r k) 0)) = true then k else bestI gr r k) = bestI gr r k
          rw [if_neg (fun h => h.elim h0 hl)]
        rw [e]
        refine ⟨by omega, i2, fun j h1 h2 => ?_⟩
        by_cases hjk : j = k
        · subst hjk
          simpa using hl
        · exact i3 j h1 (by omega)
theorem selQ_sorted (gr : Int → Int × Int) : ∀ (f : Nat) (r out : List Int), r.length ≤ f → r.Pairwise (· < ·) → ∃ L, selQ gr f r out = out ++ L ∧ L.Perm r ∧ L.Pairwise (AheadG gr) := by
  intro f
  induction f with
  | zero =>
    intro r out h _
    have : r = [] := List.eq_nil_of_length_eq_zero (by omega)
    subst this
    exact ⟨[], by simp [selQ], List.Perm.refl _, List.Pairwise.nil⟩
  | succ f ih =>
    intro r out h hp
    by_cases hr : r = []
    · subst hr
      exact ⟨[], by simp [selQ], List.Perm.refl _, List.Pairwise.nil⟩
    · have hpos := List.length_pos_iff.2 hr
      obtain ⟨s1, s2, s3⟩ := bestI_spec gr r r.length hpos
      obtain ⟨b, hb⟩ : ∃ b, bestI gr r r.length = b := ⟨_, rfl⟩
      rw [hb] at s1 s2 s3
      have hsub : (r.take b ++ r.drop (b + 1)).Sublist r := by
        have h1 : (r.take b ++ r.drop (b + 1)).Sublist (r.take b ++ r.drop b) := List.Sublist.append (List.Sublist.refl _) (List.drop_sublist_drop_left r (Nat.le_succ b))
        rwa [List.take_append_drop] at h1
      obtain ⟨L, e, hpm, hpw⟩ := ih (r.take b ++ r.drop (b + 1)) (out ++ [r.getD b 0]) (by rw [List.length_append, List.length_take, List.length_drop]; omega) (hp.sublist hsub)
      have hx : r.getD b 0 = r[b] := by rw [List.getD_eq_getElem?_getD, List.getElem?_eq_getElem s1]; rfl
      refine ⟨r.getD b 0 :: L, ?_, ?_, ?_⟩
      · rw [selQ_succ, if_neg hr, hb, e, List.append_assoc]
        rfl
      · have h1 : r = r.take b ++ r[b] :: r.drop (b + 1) := by rw [List.getElem_cons_drop, List.take_append_drop]
        rw [hx]
        have h2 : (r[b] :: (r.take b ++ r.drop (b + 1))).Perm r := by
          have h3 := (List.perm_middle (a := r[b]) (l₁ := r.take b) (l₂ := r.drop (b + 1))).symm
          rwa [← h1] at h3
        exact (hpm.cons _).trans h2
      · rw [List.pairwise_cons]
        refine ⟨fun y hy => ?_, hpw⟩
        have hy2 := hpm.mem_iff.1 hy
        have hgj : ∀ j, j < r.length → r.getD j 0 = r[j]! := fun j hj => by rw [List.getD_eq_getElem?_getD, List.getElem?_eq_getElem hj]; simp [hj]
        rcases List.mem_append.1 hy2 with h1 | h1
        · obtain ⟨j, hj, rfl⟩ := List.mem_iff_getElem.1 h1
          rw [List.length_take] at hj
          rw [List.getElem_take]
          have h2 := s2 j (by omega)
          rw [List.getD_eq_getElem?_getD (l := r) (i := j), List.getElem?_eq_getElem (by omega), Option.getD_some] at h2
          exact .inl h2
        · obtain ⟨j, hj, rfl⟩ := List.mem_iff_getElem.1 h1
          rw [List.length_drop] at hj
          rw [List.getElem_drop]
          have h2 := s3 (b + 1 + j) (by omega) (by omega)
          rw [List.getD_eq_getElem?_getD (l := r) (i := b + 1 + j), List.getElem?_eq_getElem (by omega), Option.getD_some] at h2
          have h4 : ¬ (lessG (gr (r[b + 1 + j]'(by omega))) (gr (r.getD b 0)) = true) := by rw [h2]; decide
          have h5 : r.getD b 0 < r[b + 1 + j]'(by omega) := by
            rw [hx]
            exact List.pairwise_iff_getElem.1 hp b (b + 1 + j) s1 (by omega) (by omega)
          unfold AheadG
          rw [lessG_iff] at h4 ⊢
          by_cases hq : gr (r.getD b 0) = gr (r[b + 1 + j]'(by omega))
          · exact .inr ⟨hq, h5⟩
          · left
            have h6 : ¬ ((gr (r.getD b 0)).1 = (gr (r[b + 1 + j]'(by omega))).1 ∧ (gr (r.getD b 0)).2 = (gr (r[b + 1 + j]'(by omega))).2) := fun h => hq (Prod.ext h.1 h.2)
            omega
end Go.Proofs.YtahkpkaodeeemaaGreat

namespace Go.Proofs.YtahkpkaodeeemaaGreat
set_option linter.unusedVariables false
section
variable {n : Nat}
theorem back_at {i : Nat} (hi : i < n) : (longX n false).getD i [] = if i + 1 < n then [(i : Int) + 1] else [] := by
  rw [List.getD_eq_getElem?_getD, List.getElem?_eq_getElem (by rw [longX_len]; exact hi), longX_at]
  simp
theorem back_norm {i : Nat} (hi : i < n) : normL ((longX n false).getD i []) = if i + 1 < n then [(i : Int) + 1] else [] := by
  rw [back_at hi]
  split
  · exact norm_one _
  · exact normL_nil
def backU (n i : Nat) : List (List Int) := (List.range n).map fun k => if 1 ≤ k ∧ k - 1 < i then [((k - 1 : Nat) : Int)] else []
theorem back_users : ∀ {i : Nat}, i ≤ n → usersQ (longX n false) i = backU n i := by
  intro i
  induction i with
  | zero =>
    intro _
    unfold usersQ backU
    rw [longX_len]
    apply List.ext_getElem
    · simp
    · intro j h1 h2
      simp
  | succ i ih =>
    intro hi
    unfold usersQ
    rw [ih (by omega), back_norm (by omega)]
    by_cases h : i + 1 < n
    · rw [if_pos h]
      unfold addU addU
      have e : ((i : Int) + 1).toNat = i + 1 := by omega
      rw [e]
      apply List.ext_getElem
      · simp [backU]
      · intro j h1 h2
        rw [List.getElem_set]
        by_cases ej : i + 1 = j
        · subst ej
          rw [if_pos rfl, List.getD_eq_getElem?_getD, List.getElem?_eq_getElem (by simp [backU]; exact h)]
          simp [backU]
        · rw [if_neg ej]
          have e2 : (1 ≤ j ∧ j - 1 < i) ↔ (1 ≤ j ∧ j - 1 < i + 1) := by omega
          simp only [backU, List.getElem_map, List.getElem_range, e2]
    · rw [if_neg h]
      unfold addU
      apply List.ext_getElem
      · simp [backU]
      · intro j h1 h2
        have hj : j < n := by simpa [backU] using h1
        have e2 : (1 ≤ j ∧ j - 1 < i) ↔ (1 ≤ j ∧ j - 1 < i + 1) := by omega
        simp only [backU, List.getElem_map, List.getElem_range, e2]
def backW (n m : Nat) : List Int := (List.range n).map fun j => if j < m then 1 else 0
theorem back_wait : waitQ (longX n false) n = backW n (n - 1) := by
  apply List.ext_getElem
  · simp [waitQ, backW, longX_len]
  · intro j h1 h2
    have hj : j < n := by simpa [backW] using h2
    simp only [waitQ, backW, List.getElem_map, List.getElem_range]
    rw [if_pos hj, back_norm hj]
    by_cases h : j + 1 < n
    · rw [if_pos h, if_pos (by omega)]
      rfl
    · rw [if_neg h, if_neg (by omega)]
      rfl
theorem back_ready_few : ∀ {i : Nat}, i + 1 ≤ n → readyQ (longX n false) i = [] := by
  intro i
  induction i with
  | zero => intro _; rfl
  | succ i ih =>
    intro hi
    have e : normL ((longX n false).getD i []) = [(i : Int) + 1] := by rw [back_norm (by omega), if_pos (by omega)]
    unfold readyQ
    rw [e, if_neg (by simp)]
    exact ih (by omega)
theorem back_ready (h1 : 1 ≤ n) : readyQ (longX n false) n = [((n - 1 : Nat) : Int)] := by
  obtain ⟨m, rfl⟩ : ∃ m, n = m + 1 := ⟨n - 1, by omega⟩
  have e : normL ((longX (m + 1) false).getD m []) = [] := by rw [back_norm (by omega), if_neg (by omega)]
  unfold readyQ
  rw [e, List.length_nil, if_pos rfl, back_ready_few (by omega)]
  rfl
theorem run_back : ∀ (m f : Nat) (out : List Int), m < n → m + 1 ≤ f → out.length + m + 1 ≤ 1000 → runQ f (backU n n) (backW n m) [(m : Int)] out = some (out ++ (List.range (m + 1)).map fun t => ((m - t : Nat) : Int)) := by
  intro m
  induction m with
  | zero =>
    intro f out hm hf hl
    obtain ⟨f, rfl⟩ : ∃ f', f = f' + 1 := ⟨f - 1, by omega⟩
    have hu : (backU n n).getD ((0 : Nat) : Int).toNat [] = [] := by
      rw [List.getD_eq_getElem?_getD, List.getElem?_eq_getElem (by simpa [backU] using hm)]
      simp [backU]
    unfold runQ
    rw [hu, if_pos ⟨by omega, by simpa [backU] using hm, by simp, by omega, by simp⟩]
    simp only [decQ]
    cases f <;> simp [runQ]
  | succ m ih =>
    intro f out hm hf hl
    obtain ⟨f, rfl⟩ : ∃ f', f = f' + 1 := ⟨f - 1, by omega⟩
    have et : (((m + 1 : Nat) : Int)).toNat = m + 1 := by omega
    have hu : (backU n n).getD (((m + 1 : Nat) : Int)).toNat [] = [(m : Int)] := by
      rw [et, List.getD_eq_getElem?_getD, List.getElem?_eq_getElem (by simpa [backU] using hm)]
      have : m < n := by omega
      simp [backU, this]
    have hw : (backW n (m + 1)).getD m 0 = 1 := by
      rw [List.getD_eq_getElem?_getD, List.getElem?_eq_getElem (by simp [backW]; omega)]
      simp [backW]
    have hs : (backW n (m + 1)).set m 0 = backW n m := by
      apply List.ext_getElem
      · simp [backW]
      · intro j h1 h2
        rw [List.getElem_set]
        by_cases e : m = j
        · subst e
          simp [backW]
        · have e2 : j < m + 1 ↔ j < m := by omega
          simp [backW, e, e2]
    unfold runQ
    rw [hu, if_pos ⟨by omega, by rw [et]; simpa [backU] using hm, by simp, by omega, by simp⟩]
    have hd : decQ [(m : Int)] (backW n (m + 1)) [] = some (backW n m, [(m : Int)]) := by
      unfold decQ
      rw [Int.toNat_natCast, hw, if_pos ⟨by omega, by simp [backW]; omega, by omega, by omega, by omega⟩, if_pos rfl, if_pos ⟨by simp, by simp⟩, hs]
      rfl
    rw [hd]
    simp only
    rw [ih f _ (by omega) (by omega) (by rw [List.length_append]; simp; omega)]
    congr 1
    rw [List.append_assoc]
    congr 1
    rw [List.range_succ_eq_map (n := m + 1), List.map_cons, List.map_map]
    simp only [List.singleton_append, Nat.sub_zero]
    congr 1
    apply List.map_congr_left
    intro t _
    simp only [Function.comp]
    congr 1
    omega
theorem order_back (h1 : 1 ≤ n) (hn : n ≤ 900) : orderQ (longX n false) = some ((List.range n).map fun t => ((n - 1 - t : Nat) : Int)) := by
  unfold orderQ
  rw [longX_len, back_users (Nat.le_refl _), back_wait, back_ready h1, run_back (n - 1) n [] (by omega) (by omega) (by simp; omega)]
  rw [List.nil_append, show n - 1 + 1 = n by omega]
theorem back_ok (hn : n ≤ 1000) : refused (longX n false) = 0 := by
  refine refused_none (by rw [longX_len]; omega) (fun j hj => ?_) (fun j hj i hi => ?_)
  · rw [longX_at hj]
    split <;> simp
  · rw [longX_len] at hj ⊢
    have e := longX_at (n := n) (round := false) (i := j) (by rw [longX_len]; exact hj)
    have hm := List.getElem_mem hi
    generalize (longX n false)[j][i] = y at hm ⊢
    rw [e] at hm
    split at hm
    · rw [List.mem_singleton] at hm; omega
    · simp at hm
theorem back_none (hn : n ≤ 1000) : roundRows (longX n false) = [] := by
  refine none_round (fun v => n - v) (fun v hv u hu => ?_) (back_ok hn)
  rw [longX_len] at hv
  rcases (longX_adj hv u).1 hu with ⟨h, rfl⟩ | ⟨_, h, _⟩
  · omega
  · cases h
theorem nils_ok (hn : n ≤ 1000) : refused (List.replicate n ([] : List Int)) = 0 :=
  refused_none (by simp; omega) (by simp) (by simp)
theorem nils_none (hn : n ≤ 1000) : roundRows (List.replicate n ([] : List Int)) = [] := by
  refine none_round (fun _ => 0) (fun v hv u hu => ?_) (nils_ok hn)
  unfold adjOf at hu
  rw [none_at] at hu
  cases hu
end
end Go.Proofs.YtahkpkaodeeemaaGreat

namespace Go.Proofs.YtahkpkaodeeemaaGreat
open Go.RowKit
set_option linter.unusedVariables false

theorem Sep.litN {w0 w : World} {As : List Asn} (h : Sep w0 w As) (e : TypeId) (sz n : Nat) (cs : Array Value) (hs : cs.size = n * sz) (hm : n ≤ maxLen) : Sep w0 (w.alloc (.cells cs e)) (.sl e sz (.slice (some ⟨w.heap.size, 0, none⟩) n n) n cs.toList :: As) := by
  have hown := World.ownsRow_lit (base := 0) (e := e) (size := sz) w cs n (Nat.zero_le _) hm hs
  exact h.new (F := [w.heap.size]) ((Below.refl _ _).alloc (Nat.le_refl _) _) ⟨hown, rfl⟩ (by simp)

theorem num_any16 (x : Int) (w : World) : Calls Tryz.prog 8 #[.int .i64 x] w fun e w' => e = .returned (.int .i64 x) ∧ w = w' := by
  go_enter Tryz.func8, Tryz.ntmps8
  go_wp2
  go_ret
  exact ⟨rfl, rfl⟩

theorem alive_rows {w0 W : World} {b : Nat} {X : Asn} (hS : Sep w0 W [.sl 27 1 (.slice (some ⟨b + 1 + 1 + 1, 0, Option.none⟩) 2 2) 2 [.slice (some ⟨b + 1, 0, Option.none⟩) 1 1, .slice (some ⟨b + 1 + 1, 0, Option.none⟩) 0 0], .sl 3 1 (.slice (some ⟨b + 1 + 1, 0, Option.none⟩) 0 0) 0 [], .sl 3 1 (.slice (some ⟨b + 1, 0, Option.none⟩) 1 1) 1 [.int .i64 1], X]) :
    RowsAt W (.slice (some ⟨b + 1 + 1 + 1, 0, Option.none⟩) 2 2) (longX 2 false) := by
  refine ⟨_, hS.rd 0 rfl, fun k u x hu hx => ?_⟩
  match k, hu, hx with
  | 0, hu, hx =>
    simp [longX] at hu hx
    subst hu hx
    exact hS.ints 2 rfl
  | 1, hu, hx =>
    simp [longX] at hu hx
    subst hu hx
    exact hS.ints 1 rfl
  | k + 2, hu, hx => simp [longX] at hx

theorem ints_read {w0 w : World} {v : Value} {l : List Int} (h : 0 < l.length) (hS : Sep w0 w [intsR v l]) : ∃ g c, v = .slice (some ⟨g, 0, none⟩) l.length c ∧ ∀ k (hk : k < l.length), w.cell? ⟨g, k, none⟩ = some (.int .i64 l[k]) := by
  unfold intsR at hS
  obtain ⟨g, c, rfl, _⟩ := hS.sl_form 0 rfl h
  refine ⟨g, c, rfl, fun k hk => ?_⟩
  have := hS.cellAt 0 rfl k (by omega)
  rw [List.getElem?_map, List.getElem?_eq_getElem hk] at this
  exact this

set_option maxRecDepth 100000 in
theorem alive16_any (w : World) : Calls Tryz.prog 6 #[] w fun e w' => e = .returned (.bool true) ∧ Below w.heap.size w w' := by
  have hS := ((((Sep.nil w).litN 26 5 2 #[.int .i64 5, .string ⟨#[97]⟩, .string ⟨#[]⟩, .int .i64 0, .int .i64 0, .int .i64 5, .string ⟨#[98]⟩, .string ⟨#[]⟩, .int .i64 0, .int .i64 0] rfl (by simp [maxLen])).lit 3 #[.int .i64 1] (by simp [maxLen])).litN 3 1 0 #[] rfl (by simp [maxLen])).lit 27 #[.slice (some ⟨w.heap.size + 1, 0, none⟩) 1 1, .slice (some ⟨w.heap.size + 1 + 1, 0, none⟩) 0 0] (by simp [maxLen])
  simp only [World.size_alloc, List.size_toArray, List.length_cons, List.length_nil, Nat.reduceAdd] at hS
  have hN := alive_rows hS
  have hb := order_any (Aa := some ⟨w.heap.size, 0, none⟩) (ca := 2) hN (m := 2) (by simp [longX]) (by omega) (back_ok (by omega)) (back_none (by omega)) (order_back (by omega) (by omega))
  have hb' := Lib.hid hb
  have hbel := Lib.hid hS.below
  clear hb hN hS
  unfold treeE at *
  go_enter Tryz.func6, Tryz.ntmps6
  go_wp2_with (first
    | (go_at_call 7; refine hb'.out.mono ?_; rintro e w1 ⟨va, rfl, hS⟩; obtain ⟨g, c, rfl, hc⟩ := ints_read (by simp) hS; have d0 := hc 0 (by simp); have d1 := hc 1 (by simp); simp at d0 d1; simp only [List.length_map, List.length_range]; have hb2 := Lib.hid hS.below; clear hS hc)
    | (go_at_call 8; refine (num_any16 _ _).mono ?_; rintro e w2 ⟨rfl, rfl⟩))
  go_ret
  exact ⟨rfl, hbel.out.trans (hb2.out.mono (by simp; omega))⟩
end Go.Proofs.YtahkpkaodeeemaaGreat

namespace Go.Proofs.YtahkpkaodeeemaaGreat
open Go.RowKit
set_option linter.unusedVariables false

def growsP (b op : Int) : Int := if op = 5 then -100 * (if 8 < b then b + 1 else b) - 1 else 100 * (if 8 < b then b + 1 else b) + 1
theorem grows_any (b op : Int) (h0 : 0 ≤ b) (h1 : b ≤ 1000) (w : World) : Calls Tryz.prog 9 #[.int .i64 b, .int .i64 op] w fun e w' => e = .returned (.int .i64 (growsP b op)) ∧ w = w' := by
  by_cases h8 : 8 < b
  · by_cases h5 : op = 5
    · subst h5
      have e : growsP b 5 = -100 * (b + 1) - 1 := by unfold growsP; rw [if_pos rfl, if_pos h8]
      rw [e]
      have k1 : IntKind.i64.wrap (b + 1) = b + 1 := IntWalk.i64_in _ (by omega)
      have k2 : IntKind.i64.wrap (-100 * (b + 1)) = -100 * (b + 1) := IntWalk.i64_in _ (by omega)
      have k3 : IntKind.i64.wrap (-100 * (b + 1) - 1) = -100 * (b + 1) - 1 := IntWalk.i64_in _ (by omega)
      clear e
      go_enter Tryz.func9, Tryz.ntmps9
      go_wp2_with fail
      go_ret
      exact ⟨rfl, rfl⟩
    · have e : growsP b op = 100 * (b + 1) + 1 := by unfold growsP; rw [if_neg h5, if_pos h8]
      rw [e]
      have k1 : IntKind.i64.wrap (b + 1) = b + 1 := IntWalk.i64_in _ (by omega)
      have k2 : IntKind.i64.wrap (100 * (b + 1)) = 100 * (b + 1) := IntWalk.i64_in _ (by omega)
      have k3 : IntKind.i64.wrap (100 * (b + 1) + 1) = 100 * (b + 1) + 1 := IntWalk.i64_in _ (by omega)
      have k4 : (op == 5) = false := by rw [beq_eq_false_iff_ne]; exact h5
      clear e
      go_enter Tryz.func9, Tryz.ntmps9
      go_wp2_with fail
      go_ret
      exact ⟨rfl, rfl⟩
  · by_cases h5 : op = 5
    · subst h5
      have e : growsP b 5 = -100 * b - 1 := by unfold growsP; rw [if_pos rfl, if_neg h8]
      rw [e]
      have k2 : IntKind.i64.wrap (-100 * b) = -100 * b := IntWalk.i64_in _ (by omega)
      have k3 : IntKind.i64.wrap (-100 * b - 1) = -100 * b - 1 := IntWalk.i64_in _ (by omega)
      clear e
      go_enter Tryz.func9, Tryz.ntmps9
      go_wp2_with fail
      go_ret
      exact ⟨rfl, rfl⟩
    · have e : growsP b op = 100 * b + 1 := by unfold growsP; rw [if_neg h5, if_neg h8]
      rw [e]
      have k2 : IntKind.i64.wrap (100 * b) = 100 * b := IntWalk.i64_in _ (by omega)
      have k3 : IntKind.i64.wrap (100 * b + 1) = 100 * b + 1 := IntWalk.i64_in _ (by omega)
      have k4 : (op == 5) = false := by rw [beq_eq_false_iff_ne]; exact h5
      clear e
      go_enter Tryz.func9, Tryz.ntmps9
      go_wp2_with fail
      go_ret
      exact ⟨rfl, rfl⟩
end Go.Proofs.YtahkpkaodeeemaaGreat

namespace Go.Proofs.YtahkpkaodeeemaaGreat
open Go.RowKit
set_option linter.unusedVariables false

def nameF (i : Nat) : List UInt8 := [102, UInt8.ofNat (97 + i)]
def sizeF (xs : List Int) (i : Nat) : Nat := (xs.getD i 0).toNat
def entF (xs : List Int) (i : Nat) : Ent := ⟨nameF i, 384, 512 * sizeF xs i⟩
def actF (i : Nat) : Ins := if i % 2 = 0 then ⟨5, ⟨(nameF i).toArray⟩, ⟨#[]⟩, 0, 0⟩ else ⟨6, ⟨(nameF i).toArray⟩, ⟨#[]⟩, 384, (i / 2 : Nat)⟩
def actsF (n : Nat) : List Ins := (List.range n).map actF
def grF (xs : List Int) (i : Int) : Int × Int := if i.toNat % 2 = 0 then (-fileB (512 * sizeF xs i.toNat), -1) else (fileB (512 * sizeF xs i.toNat), 1)
def hasF (r : List Int) (j : Nat) : Bool := if j % 2 = 0 then r.contains (j : Int) else !r.contains (j : Int)
def listF (xs : List Int) (n : Nat) (r : List Int) : List Ent := ((List.range n).filter (hasF r)).map (entF xs)
structure InvF (xs : List Int) (n : Nat) (r : List Int) (es : List Ent) : Prop where
  flat : FlatOk es
  nodup : r.Nodup
  rng : ∀ i ∈ r, 0 ≤ i ∧ i < (n : Int)
  set : ∀ e, e ∈ es ↔ e ∈ listF xs n r
theorem nameF_all : ∀ i, i < 12 → (validL (nameF i) = true ∧ (47 : UInt8) ∉ nameF i) ∧ Ascii (nameF i) := by
  intro i hi
  have : i = 0 ∨ i = 1 ∨ i = 2 ∨ i = 3 ∨ i = 4 ∨ i = 5 ∨ i = 6 ∨ i = 7 ∨ i = 8 ∨ i = 9 ∨ i = 10 ∨ i = 11 := by omega
  unfold Ascii
  rcases this with rfl | rfl | rfl | rfl | rfl | rfl | rfl | rfl | rfl | rfl | rfl | rfl <;> decide
theorem nameF_root {i : Nat} (h : i < 12) : RootName (nameF i) := ⟨(nameF_all i h).1.1, (nameF_all i h).1.2, by show 2 ≤ 100; decide, by unfold nameF; simp⟩
theorem nameF_less : ∀ i j, i < j → j < 12 → Op.bytesLess (nameF i) (nameF j) = true := by
  intro i j hij hj
  have h1 : UInt8.ofNat (97 + i) < UInt8.ofNat (97 + j) := by
    rw [UInt8.lt_iff_toNat_lt, UInt8.toNat_ofNat_of_lt' (by show _ < 256; omega), UInt8.toNat_ofNat_of_lt' (by show _ < 256; omega)]
    omega
  unfold nameF
  rw [bl_lt]
  exact List.cons_lt_cons_iff.2 (.inr ⟨rfl, List.cons_lt_cons_iff.2 (.inl h1)⟩)
theorem nameF_inj {i j : Nat} (hi : i < 12) (hj : j < 12) (h : nameF i = nameF j) : i = j := by
  rcases Nat.lt_trichotomy i j with h1 | h1 | h1
  · have := nameF_less i j h1 hj
    rw [h, bl_irrefl] at this
    cases this
  · exact h1
  · have := nameF_less j i h1 hi
    rw [h, bl_irrefl] at this
    cases this
theorem listF_flat {xs : List Int} {n : Nat} (hn : n ≤ 12) (hx : ∀ i, sizeF xs i ≤ 16) (r : List Int) : FlatOk (listF xs n r) := by
  have hm : ∀ e ∈ listF xs n r, ∃ j, j < n ∧ e = entF xs j := fun e he => by
    obtain ⟨j, hj, rfl⟩ := List.mem_map.1 he
    exact ⟨j, List.mem_range.1 (List.mem_filter.1 hj).1, rfl⟩
  refine ⟨?_, fun e he => ?_, fun e he => ?_, fun e he => ?_, ?_⟩
  · unfold listF
    rw [List.length_map]
    have := List.length_filter_le (hasF r) (List.range n)
    rw [List.length_range] at this
    omega
  · obtain ⟨j, hj, rfl⟩ := hm e he
    exact nameF_root (by omega)
  · obtain ⟨j, hj, rfl⟩ := hm e he
    exact ⟨by show (0 : Int) ≤ 384; decide, by show (384 : Int) ≤ 511; decide⟩
  · obtain ⟨j, hj, rfl⟩ := hm e he
    have := hx j
    show 512 * sizeF xs j ≤ 8192
    omega
  · unfold listF
    rw [List.pairwise_map]
    have h1 : ((List.range n).filter (hasF r)).Pairwise (fun a b => a < b ∧ b < 12) := by
      refine List.Pairwise.sublist List.filter_sublist ?_
      rw [List.pairwise_iff_getElem]
      intro i j hi hj hij
      rw [List.getElem_range, List.getElem_range]
      rw [List.length_range] at hj
      omega
    exact h1.imp fun {a b} h => nameF_less a b h.1 h.2
theorem inv_len {xs : List Int} {n : Nat} (hn : n ≤ 12) (hx : ∀ i, sizeF xs i ≤ 16) {r : List Int} {es : List Ent} (h : InvF xs n r es) : es.length ≤ 12 := by
  have h1 : es.map Ent.path = (listF xs n r).map Ent.path := by
    refine less_unique ?_ ?_ fun p => ?_
    · rw [List.pairwise_map]; exact h.flat.up
    · rw [List.pairwise_map]; exact (listF_flat hn hx r).up
    · rw [List.mem_map, List.mem_map]
      constructor
      · rintro ⟨e, he, rfl⟩; exact ⟨e, (h.set e).1 he, rfl⟩
      · rintro ⟨e, he, rfl⟩; exact ⟨e, (h.set e).2 he, rfl⟩
  have h2 := congrArg List.length h1
  rw [List.length_map, List.length_map] at h2
  have h3 : (listF xs n r).length ≤ n := by
    unfold listF
    rw [List.length_map]
    have := List.length_filter_le (hasF r) (List.range n)
    rwa [List.length_range] at this
  omega
theorem listF_mem {xs : List Int} {n : Nat} {r : List Int} {e : Ent} : e ∈ listF xs n r ↔ ∃ j, j < n ∧ hasF r j = true ∧ e = entF xs j := by
  unfold listF
  rw [List.mem_map]
  constructor
  · rintro ⟨j, hj, rfl⟩
    obtain ⟨h1, h2⟩ := List.mem_filter.1 hj
    exact ⟨j, List.mem_range.1 h1, h2, rfl⟩
  · rintro ⟨j, h1, h2, rfl⟩
    exact ⟨j, List.mem_filter.2 ⟨List.mem_range.2 h1, h2⟩, rfl⟩
theorem cut_mem {r : List Int} (hn : r.Nodup) {k : Nat} {i : Int} (hk : r[k]? = some i) (j : Int) : j ∈ r.take k ++ r.drop (k + 1) ↔ j ∈ r ∧ j ≠ i := by
  obtain ⟨hlt, rfl⟩ := List.getElem?_eq_some_iff.1 hk
  have h1 : r = r.take k ++ r[k] :: r.drop (k + 1) := by rw [List.getElem_cons_drop, List.take_append_drop]
  have h2 : (r[k] :: (r.take k ++ r.drop (k + 1))).Perm r := by
    have h3 := (List.perm_middle (a := r[k]) (l₁ := r.take k) (l₂ := r.drop (k + 1))).symm
    rwa [← h1] at h3
  have h4 := h2.nodup_iff.2 hn
  rw [List.nodup_cons] at h4
  have h5 : j ∈ r ↔ j = r[k] ∨ j ∈ r.take k ++ r.drop (k + 1) := by rw [← h2.mem_iff, List.mem_cons]
  constructor
  · intro h
    exact ⟨h5.2 (.inr h), fun e => h4.1 (e ▸ h)⟩
  · rintro ⟨h, hne⟩
    exact (h5.1 h).resolve_left hne
end Go.Proofs.YtahkpkaodeeemaaGreat
