/- Much, Long15, Lent, laid together. -/
import Derived.Test.YtioonfceamgpmaaGreatDoorJ14
import Derived.Test.YtioonfceamgpmaaGreatDoorJ27
import Derived.Deep.RegionHeld3
import Derived.Deep.DrawnRows
namespace Go.Proofs.YtioonfceamgpmaaGreatDoor
open Go.RowKit
set_option linter.unusedVariables false

def muchN : Int → List (List Int) → Int
  | n, [] => n
  | n, r :: l => if n ≤ 3000 then muchN (wrap64 (wrap64 (n + 1) + (r.length : Int))) l else n
def muchB (xss : List (List Int)) : Bool := decide (3000 < muchN 0 xss) || decide (80 < xss.length)

theorem much_any {xss : List (List Int)} {w : World} {nv : Value} (hn : RowsAt w nv xss) :
    Calls Tryz.prog 5 #[nv] w fun e w' => e = .returned (.bool (muchB xss)) ∧ w = w' := by
  obtain ⟨A, c, rfl, hm⟩ := hn.shape
  unfold maxLen at hm
  have hm' : (xss.length : Int) ≤ 9223372036854775807 := by omega
  go_enter Tryz.func5, Tryz.ntmps5
  go_wp2_with fail
  go_loop [3, 4] (fun n i => ∃ (x : Int) (k : Nat), k ≤ xss.length ∧ n = .int .i64 x ∧ i = .int .i64 k ∧ Hid (muchN 0 xss = muchN x (xss.drop k))) (fun _ i => xss.length - (intOf i).toNat)
  case atStart => exact ⟨0, 0, Nat.zero_le _, rfl, rfl, rfl⟩
  case round =>
    obtain ⟨x, k, hk, rfl, rfl, hd⟩ := hrel
    by_cases hlt : k < xss.length
    · obtain ⟨ad, c', u, e, h3, h4⟩ := hn.at_ hlt
      cases e
      obtain ⟨A', c'', rfl, hm2⟩ := h4.shape
      unfold maxLen at hm2
      have b1 : (k : Int) < (xss.length : Int) := by omega
      have b2 : (0 : Int) ≤ (k : Int) := by omega
      have hd2 := hd.out
      rw [List.drop_eq_getElem_cons hlt, muchN] at hd2
      by_cases h3 : x ≤ 3000
      · rw [if_pos h3] at hd2
        have hd' := Lib.hid hd2
        clear hd hd2
        go_wp2_with fail
        all_goals exact ⟨⟨_, k + 1, by omega, rfl, by go_num, hd'⟩, by simp [intOf]; omega⟩
      · rw [if_neg h3] at hd2
        have e : Value.bool true = .bool (muchB xss) := by
          unfold muchB
          rw [hd2]
          simp
          omega
        have e' := Lib.hid e
        clear hd hd2 e
        have h3' : 3000 < x := by omega
        go_wp2_with fail
        go_ret
        exact ⟨by rw [← e'.out]; rfl, rfl⟩
    · obtain rfl : k = xss.length := by omega
      have hd2 := hd.out
      rw [List.drop_length, muchN] at hd2
      by_cases h3 : x ≤ 3000
      · have e : Value.bool (decide (3000 < x) || decide (80 < (xss.length : Int))) = .bool (muchB xss) := by
          unfold muchB
          rw [hd2]
          have e1 : decide (80 < (xss.length : Int)) = decide (80 < xss.length) := decide_eq_decide.2 (by omega)
          rw [e1]
        have e' := Lib.hid e
        clear hd hd2 e
        go_wp2_with fail
        go_ret
        rw [← e'.out]
        exact ⟨rfl, rfl⟩
      · have e : Value.bool true = .bool (muchB xss) := by
          unfold muchB
          rw [hd2]
          simp
          omega
        have e' := Lib.hid e
        clear hd hd2 e
        have h3' : 3000 < x := by omega
        go_wp2_with fail
        go_ret
        exact ⟨by rw [← e'.out]; rfl, rfl⟩
end Go.Proofs.YtioonfceamgpmaaGreatDoor

namespace Go.Proofs.YtioonfceamgpmaaGreatDoor
open Go.RowKit
set_option linter.unusedVariables false

def longN : Int → List Ins → Int
  | n, [] => n
  | n, x :: l => if n ≤ 20000 then longN (wrap64 (wrap64 (wrap64 (n + 1) + (x.path.size : Int)) + (x.to.size : Int))) l else n
def longB (acts : List Ins) : Bool := decide (20000 < longN 0 acts) || decide (60 < acts.length)
theorem longB_len {acts : List Ins} (h : longB acts = false) : acts.length ≤ 60 := by
  unfold longB at h
  simp at h
  omega

theorem spot_none {w : World} {ad : Addr} {u : Value} (h : w.cell? ad = some u) : ad.spot = none := by
  unfold World.cell? at h
  split at h
  · split at h
    · cases h
    · rename_i hs
      cases hb : ad.spot with
      | none => rfl
      | some s => rw [hb] at hs; simp at hs
  · cases h
theorem drewN_plus (w : World) (a b : Nat) : (w.drewN a).drewN b = w.drewN (a + b) := by simp [World.drewN, Nat.add_assoc]
/-- Where instructions lie. -/
theorem InsAt.place {w : World} {v : Value} {xs : List Ins} (h : InsAt w v xs) (h0 : 0 < xs.length) :
    ∃ g o c, v = .slice (some ⟨g, o, none⟩) xs.length c ∧ xs.length ≤ c ∧ g < w.heap.size ∧ ∀ w', Below w.heap.size w w' → ∀ i x, xs[i]? = some x → ∀ f, f < 5 → w'.cell? ⟨g, o + i * 5 + f, none⟩ = x.cells[f]? := by
  obtain ⟨hl, A, c, rfl, h1, h2, h3⟩ := h
  obtain ⟨ad, rfl, hb, hc⟩ := h3 h0
  obtain ⟨x0, hx0⟩ : ∃ x, xs[0]? = some x := ⟨_, List.getElem?_eq_getElem h0⟩
  have e0 := insCells_at hx0 0 (by omega)
  have hsp : ad.spot = none := by
    have h4 := hc 0 _ e0
    rw [add_zero'] at h4
    exact spot_none h4
  obtain ⟨g, o, s⟩ := ad
  simp only at hsp
  subst hsp
  refine ⟨g, o, c, rfl, h1, hb, fun w' hw' i x hx f hf => ?_⟩
  have hv : ∃ u, x.cells[f]? = some u := ⟨_, List.getElem?_eq_getElem (by rw [Ins.cells_len]; exact hf)⟩
  obtain ⟨u, hu⟩ := hv
  have h4 := hc (i * 5 + f) u (by rw [insCells_at hx f hf]; exact hu)
  rw [Addr.add_lit, ← Nat.add_assoc] at h4
  rw [hu, ← h4]
  exact hw'.cell hb

set_option maxRecDepth 100000 in
theorem long15_any {acts : List Ins} {w : World} {v : Value} (h : InsAt w v acts) :
    Calls Tryz.prog 6 #[v] w fun e w' => e = .returned (.bool (longB acts)) ∧ Below w.heap.size w w' := by
  rcases Nat.eq_zero_or_pos acts.length with h0 | h0
  · obtain rfl : acts = [] := List.eq_nil_of_length_eq_zero h0
    obtain ⟨A, c, rfl, hm⟩ := h.shape
    have e0 : longB [] = false := rfl
    rw [e0]
    clear h h0 e0
    have hb := Lib.hid (Below.refl w.heap.size w)
    go_enter Tryz.func6, Tryz.ntmps6
    go_wp2_with fail
    go_loop [3, 4] (fun n i => n = .int .i64 0 ∧ i = .int .i64 0) (fun _ i => 0)
    case atStart => exact ⟨rfl, rfl⟩
    case round =>
      obtain ⟨rfl, rfl⟩ := hrel
      go_wp2_with fail
      go_ret
      exact ⟨rfl, hb.out⟩
  obtain ⟨g, o, c, rfl, hc, hg, hcell⟩ := h.place h0
  obtain ⟨_, _, _, hm⟩ := h.shape
  unfold maxLen at hm
  have hm' : (acts.length : Int) ≤ 9223372036854775807 := by omega
  have hcell' := Lib.hid hcell
  clear hcell h
  go_enter Tryz.func6, Tryz.ntmps6
  go_wp2_with fail
  go_loopw [3, 4] (fun n i wr => ∃ (x : Int) (k : Nat), k ≤ acts.length ∧ n = .int .i64 x ∧ i = .int .i64 k ∧ Hid (longN 0 acts = longN x (acts.drop k)) ∧ Below w.heap.size w wr) (fun _ i _ => acts.length - (intOf i).toNat)
  case atStart => exact ⟨0, 0, Nat.zero_le _, rfl, rfl, rfl, Below.refl _ _⟩
  case round =>
    obtain ⟨x, k, hk, rfl, rfl, hd, hb⟩ := hrel
    by_cases hlt : k < acts.length
    · obtain ⟨x0, hx0⟩ : ∃ y, y = acts[k] := ⟨_, rfl⟩
      have hx1 : acts[k]? = some x0 := by rw [hx0]; exact List.getElem?_eq_getElem hlt
      have c1 := hcell'.out wr hb k x0 hx1 1 (by omega)
      have c2 := hcell'.out wr hb k x0 hx1 2 (by omega)
      simp only [Ins.cells, List.getElem?_cons_zero, List.getElem?_cons_succ] at c1 c2
      have b1 : (k : Int) < (acts.length : Int) := by omega
      have b2 : (0 : Int) ≤ (k : Int) := by omega
      have hd2 := hd.out
      rw [List.drop_eq_getElem_cons hlt, longN, ← hx0] at hd2
      have hb' := Lib.hid hb
      clear hx0 hx1
      by_cases h3 : x ≤ 20000
      · rw [if_pos h3] at hd2
        have hd' := Lib.hid hd2
        clear hd hd2 hb
        go_wp2_with fail
        go_quiet (fail)
        go_wp2_with fail
        go_roundw
        case rel => exact ⟨_, k + 1, by omega, rfl, by go_num, hd', below_drewN hb'.out nq⟩
        case measure => simp [intOf]; omega
      · rw [if_neg h3] at hd2
        have e : Value.bool true = .bool (longB acts) := by
          unfold longB
          rw [hd2]
          simp
          omega
        have e' := Lib.hid e
        clear hd hd2 e hb
        have h3' : 20000 < x := by omega
        go_wp2_with fail
        go_ret
        exact ⟨by rw [← e'.out]; rfl, hb'.out⟩
    · obtain rfl : k = acts.length := by omega
      have hd2 := hd.out
      rw [List.drop_length, longN] at hd2
      have hb' := Lib.hid hb
      clear hb
      by_cases h3 : x ≤ 20000
      · have e : Value.bool (decide (20000 < x) || decide (60 < (acts.length : Int))) = .bool (longB acts) := by
          unfold longB
          rw [hd2]
          have e1 : decide (60 < (acts.length : Int)) = decide (60 < acts.length) := decide_eq_decide.2 (by omega)
          rw [e1]
        have e' := Lib.hid e
        have h4 : ¬ 20000 < x := by omega
        clear hd hd2 e
        go_wp2_with fail
        go_ret
        refine ⟨?_, hb'.out⟩
        rw [← e'.out]
        have h5 : decide (20000 < x) = false := by simpa using h3
        rw [h5, Bool.false_or]
        rfl
      · have e : Value.bool true = .bool (longB acts) := by
          unfold longB
          rw [hd2]
          simp
          omega
        have e' := Lib.hid e
        clear hd hd2 e
        have h3' : 20000 < x := by omega
        go_wp2_with fail
        go_ret
        exact ⟨by rw [← e'.out]; rfl, hb'.out⟩

set_option maxRecDepth 100000 in
theorem sameins_any {xs : List Ins} {w : World} {v u : Value} (h1 : InsAt w v xs) (h2 : InsAt w u xs) :
    Calls Tryz.prog 11 #[v, u] w fun e w' => e = .returned (.bool true) ∧ ∃ n, w' = w.drewN n := by
  rcases Nat.eq_zero_or_pos xs.length with h0 | h0
  · obtain rfl : xs = [] := List.eq_nil_of_length_eq_zero h0
    obtain ⟨A, c, rfl, hm⟩ := h1.shape
    obtain ⟨B, d, rfl, hm⟩ := h2.shape
    clear h1 h2 h0
    go_enter Tryz.func11, Tryz.ntmps11
    go_wp2_with fail
    go_loop [5] (fun i => i = .int .i64 0) (fun _ => 0)
    case atStart => exact rfl
    case round =>
      subst hrel
      go_wp2_with fail
      go_ret
      exact ⟨rfl, 0, rfl⟩
  obtain ⟨_, _, _, hm⟩ := h1.shape
  obtain ⟨g, o, c, rfl, hc, hg, hcell⟩ := h1.place h0
  obtain ⟨g2, o2, c2, rfl, hc2, hg2, hcell2⟩ := h2.place h0
  unfold maxLen at hm
  have hm' : (xs.length : Int) ≤ 9223372036854775807 := by omega
  have hcell' := Lib.hid hcell
  have hcell2' := Lib.hid hcell2
  clear hcell h1 hcell2 h2
  go_enter Tryz.func11, Tryz.ntmps11
  go_wp2_with fail
  go_loopw [5] (fun i wr => ∃ (k : Nat), k ≤ xs.length ∧ i = .int .i64 k ∧ Hid (∃ n, wr = w.drewN n)) (fun i _ => xs.length - (intOf i).toNat)
  case atStart => exact ⟨0, Nat.zero_le _, rfl, Lib.hid ⟨0, rfl⟩⟩
  case round =>
    obtain ⟨k, hk, rfl, hwr⟩ := hrel
    have hbw : Below w.heap.size w wr := by
      obtain ⟨n, rfl⟩ := hwr.out
      exact below_drewN (Below.refl _ _) n
    have hbw' := Lib.hid hbw
    clear hbw
    have b2 : (0 : Int) ≤ (k : Int) := by omega
    by_cases hlt : k < xs.length
    · obtain ⟨x0, hx1⟩ : ∃ y, xs[k]? = some y := ⟨_, List.getElem?_eq_getElem hlt⟩
      have b1 : (k : Int) < (xs.length : Int) := by omega
      have c0 := hcell'.out wr hbw'.out k x0 hx1 0 (by omega)
      have c1 := hcell'.out wr hbw'.out k x0 hx1 1 (by omega)
      have c2 := hcell'.out wr hbw'.out k x0 hx1 2 (by omega)
      have c3 := hcell'.out wr hbw'.out k x0 hx1 3 (by omega)
      have c4 := hcell'.out wr hbw'.out k x0 hx1 4 (by omega)
      have d0 := hcell2'.out wr hbw'.out k x0 hx1 0 (by omega)
      have d1 := hcell2'.out wr hbw'.out k x0 hx1 1 (by omega)
      have d2 := hcell2'.out wr hbw'.out k x0 hx1 2 (by omega)
      have d3 := hcell2'.out wr hbw'.out k x0 hx1 3 (by omega)
      have d4 := hcell2'.out wr hbw'.out k x0 hx1 4 (by omega)
      simp only [Ins.cells, List.getElem?_cons_zero, List.getElem?_cons_succ, Nat.add_zero] at c0 c1 c2 c3 c4 d0 d1 d2 d3 d4
      clear hx1
      go_wp2_with fail
      go_quiet (fail)
      go_wp2_with fail
      refine ⟨⟨k + 1, by omega, by go_num, ?_⟩, by simp [intOf]; omega⟩
      obtain ⟨n, rfl⟩ := hwr.out
      exact Lib.hid ⟨n + nq, drewN_plus w n nq⟩
    · obtain rfl : k = xs.length := by omega
      go_wp2_with fail
      go_ret
      exact ⟨rfl, hwr.out⟩
end Go.Proofs.YtioonfceamgpmaaGreatDoor

namespace Go.Proofs.YtioonfceamgpmaaGreatDoor
open Go.RowKit
set_option linter.unusedVariables false

/-- A row in memory of its own, with one more number behind it. -/
def lentRow (v : Value) (xs : List Int) : Asn := .sl 3 1 (more v) (xs.length + 1) (xs.map (.int .i64) ++ [.int .i64 (-71)])
theorem lentRow_at {w : World} {F : List Nat} {v : Value} {xs : List Int} (h : (lentRow v xs).on w F) : IntsAt w v xs := by
  have h1 := sl_rd h
  obtain ⟨_, A, c, e, _⟩ := id h1
  rw [e] at h1
  rw [more_form e]
  exact Rd.fst h1 (by simp)
/-- Lent rows: so many, one more behind them. -/
def lentAll (v : Value) (vs : List Value) (last : Value) (xss : List (List Int)) : List Asn :=
  .sl 33 1 (more v) (xss.length + 1) (vs ++ [last]) :: .sl 3 1 last 1 [.int .i64 (-72)] :: List.zipWith lentRow vs xss
theorem lent_rows {w0 w : World} {v last : Value} {vs : List Value} {xss : List (List Int)} {R : List Asn} (hl : vs.length = xss.length) (h : Sep w0 w (lentAll v vs last xss ++ R)) : RowsAt w v xss := by
  have h0 := h.rd 0 rfl
  obtain ⟨_, A, c, e, _⟩ := id h0
  rw [e] at h0
  rw [more_form e]
  refine ⟨vs, Rd.fst h0 (by simp [hl]), fun k u xs hu hx => ?_⟩
  have hk : (lentAll v vs last xss ++ R)[k + 2]? = some (lentRow u xs) := by
    have hz := zip_some (f := lentRow) hu hx
    show (List.zipWith lentRow vs xss ++ R)[k]? = _
    rw [List.getElem?_append_left (by rcases List.getElem?_eq_some_iff.1 hz with ⟨h, _⟩; exact h)]
    exact hz
  obtain ⟨F, ho, _⟩ := h.get (k + 2) hk
  exact lentRow_at ho

attribute [local go_sem ↓] Go.wp_at_zero Go.wp_at_succ
set_option maxHeartbeats 2000000 in
theorem lent_any {xss : List (List Int)} {w : World} {nv : Value} (hl : xss.length ≤ 1024) (hr : ∀ j (hj : j < xss.length), xss[j].length ≤ 1048576) (hn : RowsAt w nv xss) :
    Calls Tryz.prog 7 #[nv] w fun e w' => ∃ v vs last, e = .returned v ∧ vs.length = xss.length ∧ Sep w w' (lentAll v vs last xss) := by
  obtain ⟨i0, hi, hz0, hz1, hz2⟩ := info_parts info_int
  obtain ⟨i1, hi1, hz10, hz11, hz12⟩ := info_parts info_ints
  obtain ⟨A, c, rfl, _⟩ := hn.shape
  have hn' := Lib.hid hn
  have hr' := Lib.hid hr
  clear hn hr
  have bn : (xss.length : Int) ≤ 1024 := by omega
  go_enter Tryz.func7, Tryz.ntmps7
  go_wp2_with fail
  go_loopg [3, 4] xss.length (fun g ov ii wr => ∃ i : Nat, i ≤ xss.length ∧ Hid (g = xss.length - i) ∧ ii = .int .i64 i ∧ ∃ vs : List Value, vs.length = i ∧ Sep w wr (.sl 33 1 ov i vs :: List.zipWith lentRow vs (xss.take i)))
  case atStart => exact ⟨0, Nat.zero_le _, rfl, rfl, [], rfl, by simpa using (Sep.nil w).sl_nil _ _⟩
  case round =>
    obtain ⟨i, hi', hm, rfl, vs, hvl, hS⟩ := hrel
    by_cases hlt : i < xss.length
    case neg =>
      obtain rfl : i = xss.length := by omega
      rw [List.take_length] at hS
      have hvl' : vs.length = xss.length := hvl
      have hS1 := ((hS.lit 3 #[.int .i64 (-72)] (by simp [maxLen])).alloc (.cells #[.slice (some ⟨wr.heap.size, 0, none⟩) 1 1] 33))
      have hS1' := Lib.hid hS1
      clear hS hS1
      go_wp2_with (first
        | (at_builtin; refine wpList_append_sep 1 rfl _ _ 23 rfl 33 i1 (.slice none 0 0) 1 24 Tryz.underlying23 hi1 hz10 hz11 hz12 rfl (by decide) hS1'.out u3 xss.length vs rfl rfl ⟨wr.heap.size + 1, 0, none⟩ 1 1 [.slice (some ⟨wr.heap.size, 0, none⟩) 1 1] rfl rfl (cells_new _ _ _ _ (by simp)) (by simp [Value.oneCell']) (by decide) (by unfold maxLen; omega) (by omega) ?_)
        | fail)
      intro g cap w2 hS2 hsz
      obtain ⟨g', cap', e, _, _, hcap, hcm⟩ := hS2.sl_form 1 rfl (by omega)
      cases e
      unfold maxLen at hcm
      have hS3 : Sep w w2 (lentAll (.slice (some ⟨g, 0, none⟩) xss.length cap) vs (.slice (some ⟨wr.heap.size, 0, none⟩) 1 1) xss) := hS2.perm (List.Perm.swap _ _ _)
      have hS3' := Lib.hid hS3
      clear hS2 hS3 hS1' hsz
      go_wp2_with fail
      go_ret
      exact ⟨_, vs, _, rfl, hvl', hS3'.out⟩
    obtain ⟨ad, c', un, e, hun, hcn⟩ := hn'.out.all hlt
    cases e
    have hrl := hr'.out i hlt
    obtain ⟨Au, cu, rfl, hum⟩ := hun.shape
    have hcn' := Lib.hid hcn
    have a0 := hcn wr hS.below
    have b1 : (0 : Int) ≤ (i : Int) := by omega
    have b2 : (i : Int) < (xss.length : Int) := by omega
    obtain ⟨xs, hxs⟩ : ∃ xs, xs = xss[i] := ⟨_, rfl⟩
    have hxs' := Lib.hid hxs
    rw [← hxs] at hun hrl a0 hcn hum
    have bx0 : (0 : Int) ≤ (xs.length : Int) := by omega
    have bx1 : (xs.length : Int) ≤ 1048576 := by omega
    have hun' := Lib.hid hun
    have hS' := Lib.hid hS
    clear hxs hun hS hcn'
    have hcn' := Lib.hid hcn
    clear hcn
    go_wp2_with fail
    go_region_held3 (fun w' => w'.cell? (ad.add i) = some (.slice Au xs.length cu))
      (first | (exact hcn'.out _ (hSd.out).below) | (exact hcn'.out _ (hSc.out.alloc _).below) | (exact hcn'.out _ hSc.out.below) | (exact hcn'.out _ (hSa.out.alloc _).below) | (exact hcn'.out _ hSa.out.below) | go_keep)
      (first
        | ((refine step_append_any_sep 0 (by rfl) _ _ 33 (by rfl) 3 i0 (.int .i64 0) 1 8 Tryz.underlying33 hi hz0 hz1 hz2 rfl (by decide) (hS'.out.drew.sl_nil 3 1) (.slice none 0 0) 0 [] (by rfl) (by rfl) (.slice Au xs.length cu) xs.length (xs.map (.int .i64)) (by rfl) (hun'.out.below hS'.out.drew.below) (by simp [Value.oneCell']) (by unfold maxLen; omega) (by omega) ?_); intro va w1 hSa hza; simp only [List.set_cons_zero, Nat.zero_add, List.nil_append] at hSa; replace hSa := Lib.hid hSa; clear hza)
        | ((refine step_append_sep 0 (by rfl) _ _ 33 (by rfl) 3 i0 (.int .i64 0) 1 8 Tryz.underlying33 hi hz0 hz1 hz2 rfl (by decide) (hSa.out.alloc (.cells #[.int .i64 (-71)] 3)) va xs.length (xs.map (.int .i64)) (by rfl) (by rfl) ⟨w1.heap.size, 0, none⟩ 1 1 [.int .i64 (-71)] (by rfl) (by rfl) (cell_one_new _ _ _) (by simp [Value.oneCell']) (by decide) (by unfold maxLen; omega) (by omega) ?_); intro g cap w2 hSc hzc; simp only [List.set_cons_zero] at hSc; replace hSc := Lib.hid hSc; clear hzc; obtain ⟨g', cap', e, _, _, hcap, hcm⟩ := hSc.out.sl_form 0 rfl (by omega); cases e; unfold maxLen at hcm; have hcap1 : (xs.length : Int) ≤ (cap : Int) := (by omega); have hcap2 : (cap : Int) ≤ 9223372036854775807 := (by omega))
        | ((refine step_append_any_sep 0 (by rfl) _ _ 33 (by rfl) 3 i0 (.int .i64 0) 1 8 Tryz.underlying33 hi hz0 hz1 hz2 rfl (by decide) ((hS'.out.lit 3 #[.int .i64 (-71)] (by simp [maxLen])).drew.sl_nil 3 1) (.slice none 0 0) 0 [] (by rfl) (by rfl) (.slice Au xs.length cu) xs.length (xs.map (.int .i64)) (by rfl) (hun'.out.below (hS'.out.alloc _).drew.below) (by simp [Value.oneCell']) (by unfold maxLen; omega) (by omega) ?_); intro va w1 hSa hza; simp only [List.set_cons_zero, Nat.zero_add, List.nil_append] at hSa; replace hSa := Lib.hid hSa; clear hza)
        | ((refine step_append_sep 0 (by rfl) _ _ 33 (by rfl) 3 i0 (.int .i64 0) 1 8 Tryz.underlying33 hi hz0 hz1 hz2 rfl (by decide) hSa.out va xs.length (xs.map (.int .i64)) (by rfl) (by rfl) ⟨wr.heap.size, 0, none⟩ 1 1 [.int .i64 (-71)] (by rfl) (by rfl) (Rd.news (hSa.out.rd 1 rfl)) (by simp [Value.oneCell']) (by decide) (by unfold maxLen; omega) (by omega) ?_); intro g cap w2 hSc0 hzc; have hSc := Lib.hid (Sep.drop 1 (Sep.sel [1, 0] hSc0 (by decide) (by simp))); clear hSc0 hzc; obtain ⟨g', cap', e, _, _, hcap, hcm⟩ := hSc.out.sl_form 0 rfl (by omega); cases e; unfold maxLen at hcm; have hcap1 : (xs.length : Int) ≤ (cap : Int) := (by omega); have hcap2 : (cap : Int) ≤ 9223372036854775807 := (by omega))
        | ((refine step_append_sep 1 (by rfl) _ _ 23 (by rfl) 33 i1 (.slice none 0 0) 1 24 Tryz.underlying23 hi1 hz10 hz11 hz12 rfl (by decide) (hSc.out.alloc (.cells #[.slice (some ⟨g, 0, none⟩) xs.length cap] 33)) u3 i vs (by rfl) (by rfl) ⟨w2.heap.size, 0, none⟩ 1 1 [.slice (some ⟨g, 0, none⟩) xs.length cap] (by rfl) (by rfl) (cell_one_new _ _ _) (by simp [Value.oneCell']) (by decide) (by unfold maxLen; omega) (by omega) ?_); intro g2 cap2 w3 hSd hzd; replace hSd := Lib.hid hSd; clear hzd)
        | fail)
    all_goals
      have hSe : Sep w w3 (.sl 33 1 (.slice (some ⟨g2, 0, none⟩) (i + 1) cap2) (i + 1) (vs ++ [.slice (some ⟨g, 0, none⟩) xs.length cap]) :: List.zipWith lentRow (vs ++ [.slice (some ⟨g, 0, none⟩) xs.length cap]) (xss.take (i + 1))) := by
        have e : xss.take (i + 1) = xss.take i ++ [xs] := by rw [List.take_add_one, List.getElem?_eq_getElem hlt, ← hxs'.out]; rfl
        have hl2 : vs.length = (xss.take i).length := by rw [List.length_take]; omega
        rw [e, List.zipWith_append hl2]
        exact hSd.out.perm ((List.Perm.swap _ _ _).trans (.cons _ (List.perm_append_singleton _ _).symm))
      have hSe' := Lib.hid hSe
      clear hSe hSd hSc hSa hcn' hS'
      go_wp2_with fail
      go_roundg (xss.length - (i + 1))
      case measure => rw [hm.out]; omega
      case rel => exact ⟨i + 1, by omega, rfl, by go_num, _, by simp [hvl], hSe'.out⟩
end Go.Proofs.YtioonfceamgpmaaGreatDoor
