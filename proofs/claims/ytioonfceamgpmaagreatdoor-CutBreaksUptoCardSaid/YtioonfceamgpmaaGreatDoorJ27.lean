/- Refs, Reach, laid together. -/
import Derived.Test.YtioonfceamgpmaaGreatDoorJ15
import Derived.Test.YtioonfceamgpmaaGreatDoorJ14
namespace Go.Proofs.YtioonfceamgpmaaGreatDoor
open Go.RowKit
set_option linter.unusedVariables false

theorem drewN_add (w : World) (a b : Nat) : (w.drewN a).drewN b = w.drewN (a + b) := by simp [World.drewN, Nat.add_assoc]

theorem same_any {xss yss : List (List Int)} {w : World} {v u : Value} (h1 : RowsAt w v xss) (h2 : RowsAt w u yss) :
    Calls Tryz.prog 14 #[v, u] w fun e w' => e = .returned (.bool (decide (xss = yss))) ∧ ∃ n, w' = w.drewN n := by
  obtain ⟨A, c, rfl, hm⟩ := h1.shape
  obtain ⟨B, d, rfl, hm'⟩ := h2.shape
  unfold maxLen at hm hm'
  have bx : (xss.length : Int) ≤ 9223372036854775807 := by omega
  have by' : (yss.length : Int) ≤ 9223372036854775807 := by omega
  by_cases hl : xss.length = yss.length
  case neg =>
    have b1 : ((xss.length : Int) != (yss.length : Int)) = true := by simp; omega
    have e : decide (xss = yss) = false := by simp; intro e; exact hl (by rw [e])
    rw [e]
    go_enter Tryz.func14, Tryz.ntmps14
    go_wp2_with fail
    go_ret
    exact ⟨rfl, 0, rfl⟩
  have b1 : ((xss.length : Int) != (yss.length : Int)) = false := by simp; omega
  have hd : ∀ i (h : i < xss.length), xss[i] ≠ yss[i]'(by omega) → decide (xss = yss) = false := by
    intro i h hne
    simp
    intro e
    subst e
    exact hne rfl
  have hd' := Lib.hid hd
  clear hd
  go_enter Tryz.func14, Tryz.ntmps14
  go_wp2_with fail
  go_loopg [5] xss.length (fun g ii wr => ∃ i n : Nat, i ≤ xss.length ∧ Hid (g = xss.length - i) ∧ ii = .int .i64 i ∧ wr = w.drewN n ∧ Hid (∀ j (h : j < xss.length), j < i → xss[j] = yss[j]'(by omega)))
  case atStart => exact ⟨0, 0, Nat.zero_le _, rfl, rfl, rfl, fun j _ hj => absurd hj (Nat.not_lt_zero _)⟩
  case round =>
    obtain ⟨i, n, hi, hm, rfl, rfl, hsame⟩ := hrel
    by_cases hlt : i < xss.length
    case neg =>
      obtain rfl : i = xss.length := by omega
      have e : decide (xss = yss) = true := by
        simp
        exact List.ext_getElem hl fun j h h' => hsame.out j h h
      have e' := Lib.hid e
      clear hsame e
      go_wp2_with fail
      go_ret
      exact ⟨by rw [e'.out]; rfl, n, rfl⟩
    have hlt2 : i < yss.length := by omega
    have hbel : ∀ k, Below w.heap.size w (w.drewN k) := fun k => ((Sep.nil w).drewN k).below
    obtain ⟨ad, c', p, e, r1, q1⟩ := h1.all hlt
    cases e
    obtain ⟨ad', c'', q, e, r2, q2⟩ := h2.all hlt2
    cases e
    have a1 := fun k => q1 _ (hbel k)
    have a2 := fun k => q2 _ (hbel k)
    obtain ⟨Ap, cp, rfl, hp⟩ := r1.shape
    obtain ⟨Aq, cq, rfl, hq⟩ := r2.shape
    unfold maxLen at hp hq
    have b2 : (0 : Int) ≤ (i : Int) := by omega
    have b3 : (i : Int) < (xss.length : Int) := by omega
    have b4 : (i : Int) < (yss.length : Int) := by omega
    have bp : ((xss[i].length : Nat) : Int) ≤ 9223372036854775807 := by omega
    by_cases hrl : xss[i].length = yss[i].length
    case neg =>
      have b5 : ((xss[i].length : Int) != (yss[i].length : Int)) = true := by simp; omega
      have e := hd'.out i hlt (fun e => hrl (by rw [e]))
      have e' := Lib.hid e
      clear hsame e q1 q2 r1 r2 h1 h2
      go_wp2_with fail
      go_quiet (fail)
      go_wp2_with fail
      go_ret
      exact ⟨by rw [e'.out]; rfl, n + nq, drewN_add w n nq⟩
    have b5 : ((xss[i].length : Int) != (yss[i].length : Int)) = false := by simp; omega
    have r1' := Lib.hid r1
    have r2' := Lib.hid r2
    have hbel' := Lib.hid hbel
    clear q1 q2 r1 r2 hbel
    go_wp2_with fail
    go_quiet (fail)
    go_wp2_with fail
    rw [drewN_add]
    go_loopg [6] xss[i].length (fun g kk wr => ∃ k m : Nat, k ≤ xss[i].length ∧ Hid (g = xss[i].length - k) ∧ kk = .int .i64 k ∧ wr = w.drewN m ∧ Hid (∀ j (h : j < xss[i].length), j < k → xss[i][j] = yss[i][j]'(by omega)))
    case atStart => exact ⟨0, n + nq, Nat.zero_le _, rfl, rfl, rfl, fun j _ hj => absurd hj (Nat.not_lt_zero _)⟩
    case round =>
      obtain ⟨k, m, hk, hm2, rfl, rfl, hsame2⟩ := hrel
      by_cases hlk : k < xss[i].length
      case neg =>
        obtain rfl : k = xss[i].length := by omega
        have e : xss[i] = yss[i] := List.ext_getElem hrl fun j h h' => hsame2.out j h h
        have e' := Lib.hid e
        clear hsame2 e
        go_wp2_with fail
        go_roundg (xss.length - (i + 1))
        case measure => rw [hm.out]; omega
        case rel =>
          refine ⟨i + 1, _, by omega, rfl, by go_num, rfl, fun j h hj => ?_⟩
          by_cases e : j = i
          · subst e; exact e'.out
          · exact hsame.out j h (by omega)
      have hlk2 : k < yss[i].length := by omega
      obtain ⟨ap, cp', e, q1⟩ := r1'.out.all hlk
      cases e
      obtain ⟨aq, cq', e, q2⟩ := r2'.out.all hlk2
      cases e
      have a3 := fun n => q1 _ (hbel'.out n)
      have a4 := fun n => q2 _ (hbel'.out n)
      clear q1 q2
      have d1 : (0 : Int) ≤ (k : Int) := by omega
      have d2 : (k : Int) < (xss[i].length : Int) := by omega
      have d3 : (k : Int) < (yss[i].length : Int) := by omega
      by_cases hv : xss[i][k] = yss[i][k]
      · have hv' := Lib.hid hv
        have d4 : (xss[i][k] != yss[i][k]) = false := by simpa using hv
        clear hv
        generalize xss[i][k] = x at a3 d4
        generalize yss[i][k] = y at a4 d4
        go_wp2_with fail
        go_quiet (fail)
        go_wp2_with fail
        go_roundg (xss[i].length - (k + 1))
        case measure => rw [hm2.out]; omega
        case rel =>
          refine ⟨k + 1, _, by omega, rfl, by go_num, rfl, fun j h hj => ?_⟩
          by_cases e : j = k
          · subst e; exact hv'.out
          · exact hsame2.out j h (by omega)
      · have d4 : (xss[i][k] != yss[i][k]) = true := by simpa using hv
        have e := hd'.out i hlt (fun e => hv (by simp only [e]))
        have e' := Lib.hid e
        clear hv e hsame hsame2
        generalize xss[i][k] = x at a3 d4
        generalize yss[i][k] = y at a4 d4
        go_wp2_with fail
        go_quiet (fail)
        go_wp2_with fail
        go_ret
        exact ⟨by rw [e'.out]; rfl, m + nq, drewN_add w m nq⟩

set_option maxHeartbeats 400000 in
theorem refused_any (w : World) (v : Value) (xss : List (List Int)) (h : RowsAt w v xss) :
    Calls Tryz.prog 23 #[v] w fun e w' => e = .returned (.int .i64 (refused xss)) ∧ w = w' := by
  obtain ⟨A, c, rfl, hm⟩ := h.shape
  unfold maxLen at hm
  by_cases h0 : xss.length ≤ 1024
  case neg =>
    have h1 : 1024 < xss.length := by omega
    have hr := Lib.hid (refused_long h1)
    go_enter Tryz.func23, Tryz.ntmps23
    go_wp2_with fail
    go_ret
    exact ⟨ret_int hr.out.symm, rfl⟩
  go_enter Tryz.func23, Tryz.ntmps23
  go_wp2_with fail
  go_loop [3] (fun i => ∃ k : Nat, k ≤ xss.length ∧ i = .int .i64 k ∧ Hid (∀ j (hj : j < xss.length), j < k → xss[j].length ≤ 1024)) (fun i => xss.length - (intOf i).toNat)
  case atStart => exact ⟨0, Nat.zero_le _, rfl, fun j _ hj => absurd hj (Nat.not_lt_zero _)⟩
  case round =>
    obtain ⟨k, hk, rfl, hall⟩ := hrel
    by_cases hlt : k < xss.length
    · obtain ⟨ad, c', u, hv, h3, h4⟩ := h.at_ hlt
      obtain ⟨A', c'', rfl, hm'⟩ := h4.shape
      unfold maxLen at hm'
      obtain ⟨rfl, rfl⟩ : A = some ad ∧ c = c' := by simpa using hv
      by_cases hlong : xss[k].length ≤ 1024
      · go_wp2_with fail
        go_round
        case rel => exact ⟨k + 1, by omega, by go_num, fun j hj hj' => by
            rcases Nat.lt_or_ge j k with h' | h'
            · exact hall j hj h'
            · obtain rfl : j = k := by omega
              exact hlong⟩
        case measure => simp [intOf]; omega
      · have hr := Lib.hid (refused_row hlt (by omega))
        go_wp2_with fail
        go_ret
        exact ⟨ret_int hr.out.symm, rfl⟩
    · have hall' : Hid (∀ j (hj : j < xss.length), xss[j].length ≤ 1024) := fun j hj => hall j hj (by omega)
      clear hall
      go_wp2_with fail
      go_loop [4] (fun i => ∃ k : Nat, k ≤ xss.length ∧ i = .int .i64 k ∧ Hid (∀ j (hj : j < xss.length) i (hi : i < xss[j].length), j < k → 0 ≤ xss[j][i] ∧ xss[j][i] < (xss.length : Int))) (fun i => xss.length - (intOf i).toNat)
      case atStart => exact ⟨0, Nat.zero_le _, rfl, fun j _ _ _ hj => absurd hj (Nat.not_lt_zero _)⟩
      case round =>
        obtain ⟨k, hk, rfl, hgood⟩ := hrel
        by_cases hlt : k < xss.length
        · obtain ⟨ad, c', u, hv, h3, h4⟩ := h.at_ hlt
          obtain ⟨A', c'', rfl, hm'⟩ := h4.shape
          unfold maxLen at hm'
          obtain ⟨rfl, rfl⟩ : A = some ad ∧ c = c' := by simpa using hv
          go_wp2_with fail
          go_loop [5] (fun i => ∃ p : Nat, p ≤ xss[k].length ∧ i = .int .i64 p ∧ Hid (∀ i (hi : i < xss[k].length), i < p → 0 ≤ xss[k][i] ∧ xss[k][i] < (xss.length : Int))) (fun i => xss[k].length - (intOf i).toNat)
          case atStart => exact ⟨0, Nat.zero_le _, rfl, fun _ _ hj => absurd hj (Nat.not_lt_zero _)⟩
          case round =>
            obtain ⟨p, hp, rfl, hrow⟩ := hrel
            by_cases hplt : p < xss[k].length
            · obtain ⟨ad', c3, hv', g3⟩ := h4.at_ hplt
              obtain ⟨rfl, rfl⟩ : A' = some ad' ∧ c'' = c3 := by simpa using hv'
              by_cases hbad : xss[k][p] < 0 ∨ (xss.length : Int) ≤ xss[k][p]
              · have hr := Lib.hid (refused_bad h0 hall'.out hlt hplt hbad)
                rcases hbad with hbad | hbad
                all_goals
                  go_wp2_with fail
                  go_ret
                  exact ⟨ret_int hr.out.symm, rfl⟩
              · have hb1 : 0 ≤ xss[k][p] := by omega
                have hb2 : xss[k][p] < (xss.length : Int) := by omega
                clear hbad
                go_wp2_with fail
                go_round
                case rel => exact ⟨p + 1, by omega, by go_num, fun j hj hj' => by
                    rcases Nat.lt_or_ge j p with h' | h'
                    · exact hrow j hj h'
                    · obtain rfl : j = p := by omega
                      exact ⟨hb1, hb2⟩⟩
                case measure => simp [intOf]; omega
            · go_wp2_with fail
              go_round
              case rel => exact ⟨k + 1, by omega, by go_num, fun j hj i hi hj' => by
                  rcases Nat.lt_or_ge j k with h' | h'
                  · exact hgood j hj i hi h'
                  · obtain rfl : j = k := by omega
                    exact hrow i hi (by omega)⟩
              case measure => simp [intOf]; omega
        · have hr := Lib.hid (refused_none h0 hall'.out (fun j hj i hi => hgood j hj i hi (by omega)))
          go_wp2_with fail
          go_ret
          exact ⟨ret_int hr.out.symm, rfl⟩
end Go.Proofs.YtioonfceamgpmaaGreatDoor

namespace Go.Proofs.YtioonfceamgpmaaGreatDoor
open Go.RowKit
set_option linter.unusedVariables false
theorem reach_any {xss : List (List Int)} {w : World} {nv : Value} {i : Nat} (hx : refused xss = 0) (hn : RowsAt w nv xss) (hi : i < xss.length) :
    Calls Tryz.prog 62 #[nv, .int .i64 i] w fun e w' => ∃ v f, e = .returned v ∧ Sep w w' [boolsR v ((List.range xss.length).map f)] ∧ ∀ j, f j = true ↔ RP xss i j := by
  obtain ⟨hl, hrow, _⟩ := refused_zero hx
  obtain ⟨i0, hinf, hz0, hz1, hz2⟩ := info_parts info_int
  obtain ⟨i2, hi2, hz20, hz21, hz22⟩ := info_parts info_bool
  obtain ⟨ad, c, u, rfl, hrow1, hrowc⟩ := hn.all hi
  have hmk2 := fun W : World => run_make_n (P := Tryz.prog) 65 4 i2 (.bool false) 1 Tryz.underlying65 hi2 hz20 hz21 hz22 rfl .i64 .i64 xss.length (by omega) (by unfold maxLen; omega) W
  have hS1 := ((Sep.nil w).made 4 (.bool false) xss.length (by unfold maxLen; omega)).sl_nil 3 1
  rw [barr_made] at hS1
  have a0 := hrowc _ hS1.below
  have hrd := hrow1.below hS1.below
  have hLi := hrow i hi
  have hone : ∀ (xs : List Int) (u : Value), u ∈ xs.map (Value.int .i64) → u.oneCell' = true := by
    intro xs u hu
    obtain ⟨x, _, rfl⟩ := List.mem_map.1 hu
    rfl
  have hS1' := Lib.hid hS1
  have hrd' := Lib.hid hrd
  have hone' := Lib.hid hone
  have hx' := Lib.hid hx
  have hn' := Lib.hid hn
  have hrow' := Lib.hid hrow
  clear hS1 hrd hone hx hn hrowc hrow1 hrow
  have b0 : (0 : Int) ≤ (i : Int) := by omega
  have b1 : (i : Int) < (xss.length : Int) := by omega
  go_enter Tryz.func62, Tryz.ntmps62
  go_wp2_with (first
    | (at_builtin; refine wpList_append_any_sep 0 rfl _ _ 33 rfl 3 i0 (.int .i64 0) 1 8 Tryz.underlying33 hinf hz0 hz1 hz2 rfl (by decide) hS1'.out _ _ _ rfl rfl _ _ _ rfl hrd'.out (hone'.out _) (by unfold maxLen; omega) (by omega) ?_)
    | fail)
  intro lv w1 hS2 hsz
  have hS3 : Sep w w1 [intsR lv ((adjOf xss i).map fun (v : Nat) => (v : Int)), barr w.heap.size xss.length (fun _ => false)] := by
    rw [adj_back hx'.out hi]
    exact hS2
  generalize w.heap.size = gs at hS3 ⊢
  have hS3' := Lib.hid hS3
  clear hS2 hS3 hS1' hrd' hmk2 a0 hsz
  go_wp2_with fail
  go_loopg [6] ((adjOf xss i).length + pot xss (fun _ => false)) (fun g lv wr => ∃ f L, Hid (g = L.length + pot xss f) ∧ L.length + pot xss f ≤ 2000000 ∧ RI xss i f L ∧ Sep w wr [intsR lv (L.map fun (v : Nat) => (v : Int)), barr gs xss.length f])
  case atStart =>
    refine ⟨fun _ => false, adjOf xss i, rfl, ?_, .start hx'.out hi, hS3'.out⟩
    have := pot_le hx'.out (fun _ => false)
    rw [adj_len hi]
    omega
  case round =>
    obtain ⟨f, L, hm, hb, hR, hT⟩ := hrel
    rcases List.eq_nil_or_concat L with rfl | ⟨L', x, rfl⟩
    · obtain ⟨A, cA, rfl, _⟩ := (hT.ints 0 rfl).shape
      have hT' := Lib.hid hT
      have hR' := Lib.hid hR
      clear hT hR
      go_wp2_with fail
      go_ret
      refine ⟨.slice (some ⟨gs, 0, none⟩) xss.length xss.length, f, rfl, ?_, hR'.out.done⟩
      rw [boolsR_barr]
      exact Sep.drop 1 hT'.out
    rw [List.concat_eq_append] at hm hb hR hT
    rw [List.map_append, List.map_cons, List.map_nil] at hT
    obtain ⟨hx1, _⟩ := hR.stack x (by simp)
    obtain ⟨g, cap, rfl, hg, hgl, hcap, hmax⟩ := hT.sl_form 0 rfl (by simp)
    have hlen : (L'.map (fun (v : Nat) => (v : Int)) ++ [(x : Int)]).length = L'.length + 1 := by simp
    have a0 : wr.cell? ⟨g, L'.length, none⟩ = some (.int .i64 x) := by rw [hT.cellAt 0 rfl L'.length (by simp)]; simp
    have a1 := barr_at 1 hT rfl x hx1
    have a2 := hT.frozenAt 1 rfl x
    rw [hlen] at hT ⊢
    have hcap' : L'.length + 1 ≤ cap := by simpa using hcap
    have b2 : (0 : Int) ≤ (L'.length : Int) := by omega
    have b3 : (L'.length : Int) ≤ (cap : Int) := by omega
    have b4 : (cap : Int) ≤ 9223372036854775807 := by have := hmax; simp only [maxLen] at this; omega
    have b5 : (x : Int) < (xss.length : Int) := by omega
    have b6 : (0 : Int) ≤ (x : Int) := by omega
    have hT2 : Sep w wr [.sl 3 1 (.slice (some ⟨g, 0, none⟩) (L'.length + 1) cap) (L'.length + 1) (((L'.map fun (v : Nat) => (v : Int)) ++ [(x : Int)]).map (Value.int .i64)), barr gs xss.length f] := by
      rw [intsR, hlen] at hT
      exact hT
    have hT3 := hT2.sl_cut 0 rfl L'.length (by omega)
    have hT4 : Sep w wr [intsR (.slice (some ⟨g, 0, none⟩) L'.length cap) (L'.map fun (v : Nat) => (v : Int)), barr gs xss.length f] := by
      simpa [intsR] using hT3
    have hT' := Lib.hid hT4
    have hR' := Lib.hid hR
    clear hT hR hmax hcap hlen hg hgl hT2 hT3 hT4
    cases hf : f x
    case true =>
      rw [hf] at a1
      go_wp2_with fail
      go_roundg (L'.length + pot xss f)
      case measure => rw [hm.out]; simp
      case rel =>
        exact ⟨f, L', rfl, by simp at hb; omega, hR'.out.old hf, hT'.out⟩
    case false =>
      rw [hf] at a1
      obtain ⟨ad', c', u', e, hrowx, hrowcx⟩ := hn'.out.all hx1
      cases e
      have hS4 := hT'.out.stored 1 rfl x (.bool true)
      simp only [List.set_cons_succ, List.set_cons_zero] at hS4
      rw [barr_set] at hS4
      have a3 := hrowcx _ hS4.below
      have hrd := hrowx.below hS4.below
      have hLx := hrow'.out x hx1
      have hpu := pot_upd hx1 hf
      have hb2 : L'.length ≤ 2000000 := by simp at hb; omega
      have hS4' := Lib.hid hS4
      have hrd' := Lib.hid hrd
      have hpu' := Lib.hid hpu
      have hb' := Lib.hid hb
      clear hS4 hrd hrowx hrowcx hb hpu
      go_wp2_with (first
        | (at_builtin; refine wpList_append_any_sep 0 rfl _ _ 33 rfl 3 i0 (.int .i64 0) 1 8 Tryz.underlying33 hinf hz0 hz1 hz2 rfl (by decide) hS4'.out _ _ _ rfl rfl _ _ _ rfl hrd'.out (hone'.out _) (by simp only [List.length_map]; unfold maxLen; omega) (by simp only [List.length_map]; omega) ?_)
        | fail)
      intro lv' w4 hS5 hsz5
      have hS6 : Sep w w4 [intsR lv' ((L' ++ adjOf xss x).map fun (v : Nat) => (v : Int)), barr gs xss.length (updB f x true)] := by
        rw [List.map_append, adj_back hx'.out hx1]
        simpa [intsR] using hS5
      have hS6' := Lib.hid hS6
      clear hS5 hS6 hS4' hrd' hsz5
      go_wp2_with fail
      go_roundg ((L' ++ adjOf xss x).length + pot xss (updB f x true))
      case measure =>
        rw [hm.out]
        have := hpu'.out
        simp only [List.length_append, List.length_cons, List.length_nil]
        omega
      case rel =>
        refine ⟨updB f x true, L' ++ adjOf xss x, rfl, ?_, hR'.out.new hx'.out hf, hS6'.out⟩
        have := hpu'.out
        have := hb'.out
        simp only [List.length_append, List.length_cons, List.length_nil] at *
        omega
end Go.Proofs.YtioonfceamgpmaaGreatDoor
