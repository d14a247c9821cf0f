/- Comp1, laid together. -/
import Derived.Test.YtahkpkaodeeemaaGreatJ3
import Derived.Test.YtahkpkaodeeemaaGreatJ7
import Derived.Test.YtahkpkaodeeemaaGreatProg
namespace Go.Proofs.YtahkpkaodeeemaaGreat
open Go.RowKit
set_option linter.unusedVariables false

theorem ret_int {k : IntKind} {a b : Int} (h : a = b) : Ending.returned (.int k a) = .returned (.int k b) := by rw [h]

set_option maxHeartbeats 400000 in
theorem check_any (w : World) (v : Value) (xss : List (List Int)) (h : RowsAt w v xss) :
    Calls Tryz.prog 45 #[v] w fun e w' => e = .returned (.int .i64 (refused xss)) ∧ w = w' := by
  obtain ⟨A, c, rfl, hm⟩ := h.shape
  unfold maxLen at hm
  by_cases h0 : xss.length ≤ 1024
  case neg =>
    have h1 : 1024 < xss.length := by omega
    have hr := Lib.hid (refused_long h1)
    go_enter Tryz.func45, Tryz.ntmps45
    go_wp2_with fail
    go_ret
    exact ⟨ret_int hr.out.symm, rfl⟩
  go_enter Tryz.func45, Tryz.ntmps45
  go_wp2_with fail
  go_loop [2, 14] (fun r i => ∃ k : Nat, k ≤ xss.length ∧ i = .int .i64 k ∧ r = .int .i64 0 ∧ Hid (∀ j (hj : j < xss.length), j < k → xss[j].length ≤ 1024)) (fun _ i => xss.length - (intOf i).toNat)
  case atStart => exact ⟨0, Nat.zero_le _, rfl, rfl, fun j _ hj => absurd hj (Nat.not_lt_zero _)⟩
  case round =>
    obtain ⟨k, hk, rfl, rfl, hall⟩ := hrel
    by_cases hlt : k < xss.length
    · obtain ⟨ad, c', u, hv, h3, h4⟩ := h.at_ hlt
      obtain ⟨A', c'', rfl, hm'⟩ := h4.shape
      unfold maxLen at hm'
      obtain ⟨rfl, rfl⟩ : A = some ad ∧ c = c' := by simpa using hv
      by_cases hlong : xss[k].length ≤ 1024
      · go_wp2_with fail
        go_round
        case rel => exact ⟨k + 1, by omega, by go_num, rfl, fun j hj hj' => by
            rcases Nat.lt_or_ge j k with h' | h'
            · exact hall j hj h'
            · obtain rfl : j = k := by omega
              exact hlong⟩
        case measure => simp [intOf]; omega
      · have hr := Lib.hid (refused_row hlt (by omega))
        go_wp2_with fail
        go_ret
        exact ⟨ret_int hr.out.symm, rfl⟩
    · have hall' : Hid (∀ j (hj : j < xss.length), xss[j].length ≤ 1024) := fun j hj => hall j hj (by omega)
      clear hall
      go_wp2_with fail
      go_loop [2, 24] (fun r i => ∃ k : Nat, k ≤ xss.length ∧ i = .int .i64 k ∧ r = .int .i64 0 ∧ Hid (∀ j (hj : j < xss.length) i (hi : i < xss[j].length), j < k → 0 ≤ xss[j][i] ∧ xss[j][i] < (xss.length : Int))) (fun _ i => xss.length - (intOf i).toNat)
      case atStart => exact ⟨0, Nat.zero_le _, rfl, rfl, fun j _ _ _ hj => absurd hj (Nat.not_lt_zero _)⟩
      case round =>
        obtain ⟨k, hk, rfl, rfl, hgood⟩ := hrel
        by_cases hlt : k < xss.length
        · obtain ⟨ad, c', u, hv, h3, h4⟩ := h.at_ hlt
          obtain ⟨A', c'', rfl, hm'⟩ := h4.shape
          unfold maxLen at hm'
          obtain ⟨rfl, rfl⟩ : A = some ad ∧ c = c' := by simpa using hv
          go_wp2_with fail
          go_loop [2, 30] (fun r i => ∃ p : Nat, p ≤ xss[k].length ∧ i = .int .i64 p ∧ r = .int .i64 0 ∧ Hid (∀ i (hi : i < xss[k].length), i < p → 0 ≤ xss[k][i] ∧ xss[k][i] < (xss.length : Int))) (fun _ i => xss[k].length - (intOf i).toNat)
          case atStart => exact ⟨0, Nat.zero_le _, rfl, rfl, fun _ _ hj => absurd hj (Nat.not_lt_zero _)⟩
          case round =>
            obtain ⟨p, hp, rfl, rfl, hrow⟩ := hrel
            by_cases hplt : p < xss[k].length
            · obtain ⟨ad', c3, hv', g3⟩ := h4.at_ hplt
              obtain ⟨rfl, rfl⟩ : A' = some ad' ∧ c'' = c3 := by simpa using hv'
              by_cases hbad : xss[k][p] < 0 ∨ (xss.length : Int) ≤ xss[k][p]
              · have hr := Lib.hid (refused_bad h0 hall'.out hlt hplt hbad)
                rcases hbad with hbad | hbad
                all_goals
                  go_wp2_with fail
                  go_ret
                  exact ⟨ret_int hr.out.symm, rfl⟩
              · have hb1 : 0 ≤ xss[k][p] := by omega
                have hb2 : xss[k][p] < (xss.length : Int) := by omega
                clear hbad
                go_wp2_with fail
                go_round
                case rel => exact ⟨p + 1, by omega, by go_num, rfl, fun j hj hj' => by
                    rcases Nat.lt_or_ge j p with h' | h'
                    · exact hrow j hj h'
                    · obtain rfl : j = p := by omega
                      exact ⟨hb1, hb2⟩⟩
                case measure => simp [intOf]; omega
            · go_wp2_with fail
              go_round
              case rel => exact ⟨k + 1, by omega, by go_num, rfl, fun j hj i hi hj' => by
                  rcases Nat.lt_or_ge j k with h' | h'
                  · exact hgood j hj i hi h'
                  · obtain rfl : j = k := by omega
                    exact hrow i hi (by omega)⟩
              case measure => simp [intOf]; omega
        · have hr := Lib.hid (refused_none h0 hall'.out (fun j hj i hi => hgood j hj i hi (by omega)))
          go_wp2_with fail
          go_ret
          exact ⟨ret_int hr.out.symm, rfl⟩
end Go.Proofs.YtahkpkaodeeemaaGreat
