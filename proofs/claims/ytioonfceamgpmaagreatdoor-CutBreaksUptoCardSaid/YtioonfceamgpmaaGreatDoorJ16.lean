/- RefAdd, RefOut, laid together. -/
import Derived.Test.YtioonfceamgpmaaGreatDoorJ15
namespace Go.Proofs.YtioonfceamgpmaaGreatDoor
open Go.RowKit
set_option linter.unusedVariables false

theorem Sep.sl_kind {w0 w : World} {As : List Asn} {e : TypeId} {sz n : Nat} {v : Value} {cs : List Value} (i : Nat) (h : Sep w0 w As) (hi : As[i]? = some (.sl e sz v n cs)) :
    (v = .slice none 0 0 ∧ n = 0) ∨ ∃ g cap, v = .slice (some ⟨g, 0, none⟩) n cap ∧ n ≤ cap ∧ cap ≤ maxLen := by
  obtain ⟨F, ⟨ho, rfl⟩, hF⟩ := h.get i hi
  rcases ho.2 with ⟨h1, h0⟩ | ⟨g, cap, cur, hv, _, hg, hc, hm, _⟩
  · exact .inl ⟨h1, h0⟩
  · exact .inr ⟨g, cap, hv, hc, hm⟩
theorem Sep.tail_rd {w0 w : World} {As : List Asn} {e : TypeId} {n g cap : Nat} {cs : List Value} (i : Nat) (h : Sep w0 w As) (hi : As[i]? = some (.sl e 1 (.slice (some ⟨g, 0, none⟩) n cap) n cs)) (k c' : Nat) (hk : k ≤ n) (ad : Addr) (had : k < n → ad = (⟨g, k, none⟩ : Addr)) (hc : n - k ≤ c') (hm : c' ≤ maxLen) :
    Rd w 1 (.slice (some ad) (n - k) c') (n - k) (cs.drop k) := by
  have hl := (h.rd i hi).1
  refine ⟨by rw [List.length_drop, hl]; omega, _, _, rfl, hc, hm, fun h0 => ⟨_, rfl, ?_, ?_⟩⟩
  · obtain ⟨g', cap', e, _, h4, _⟩ := h.sl_form i hi (by omega)
    simp only [Value.slice.injEq, Option.some.injEq, Addr.mk.injEq, and_true, true_and] at e
    rw [had (by omega)]
    show g < w.heap.size
    omega
  · intro j u hu
    rw [List.getElem?_drop] at hu
    have hj : k + j < n * 1 := by
      have := (List.getElem?_eq_some_iff.1 hu).1
      omega
    rw [had (by omega), Addr.add_lit, ← hu]
    exact h.cellAt i hi (k + j) hj

theorem rd_none {w : World} (ad : Addr) (c : Nat) (hc : c ≤ maxLen) : Rd w 1 (.slice (some ad) 0 c) 0 [] := ⟨rfl, _, _, rfl, Nat.zero_le _, hc, fun h => absurd h (by decide)⟩
theorem ints_one (l : List Int) : ∀ u ∈ l.map (Value.int .i64), u.oneCell' = true := by
  intro u hu
  obtain ⟨x, _, rfl⟩ := List.mem_map.1 hu
  rfl

set_option maxRecDepth 100000 in
set_option maxHeartbeats 2000000 in
theorem add_any {w0 w : World} {R : List Asn} {v : Value} {l : List Int} (hS : Sep w0 w (intsR v l :: R)) (hl : l.length ≤ 100000) (n : Int) :
    Calls Tryz.prog 24 #[v, .int .i64 n] w fun e w' => ∃ v', e = .returned v' ∧ Sep w0 w' (intsR v' (addL n l) :: R) := by
  have h := hS.ints 0 rfl
  obtain ⟨i0, hif, hz0, hz1, hz2⟩ := info_parts info_int
  have hm' : (l.length : Int) ≤ 100000 := by omega
  have hk9 := addAt_le n l
  rcases hS.sl_kind 0 rfl with ⟨rfl, h0⟩ | ⟨g, c, rfl, hc, hcm⟩
  · obtain rfl : l = [] := List.eq_nil_of_length_eq_zero h0
    have hS1 := Lib.hid (hS.drop 1)
    clear hS
    go_enter Tryz.func24, Tryz.ntmps24
    go_wp2_with fail
    go_loop [5] (fun i => i = .int .i64 0) (fun _ => 0)
    case atStart => exact rfl
    case round =>
      subst hrel
      go_wp2_with (first
        | (at_builtin; refine wpList_append_any_sep 0 rfl _ _ 33 rfl 3 i0 (.int .i64 0) 1 8 Tryz.underlying33 hif hz0 hz1 hz2 rfl (by decide) ((hS1.out.alloc (.cells #[.int .i64 n] 3)).sl_nil 3 1) (.slice none 0 0) 0 [] rfl rfl (.slice (some ⟨w.heap.size, 0, none⟩) 1 1) 1 [.int .i64 n] rfl (rd_alloc _ #[.int .i64 n] _ _ (by first | rfl | simp) (by simp [maxLen])) (by simp [Value.oneCell']) (by decide) (by omega) ?_; intro v1 w1 hS2 hsz2; replace hS2 := Lib.hid hS2; clear hsz2)
        | (at_builtin; refine wpList_append_any_sep 0 rfl _ _ 33 rfl 3 i0 (.int .i64 0) 1 8 Tryz.underlying33 hif hz0 hz1 hz2 rfl (by decide) hS2.out v1 1 [.int .i64 n] rfl rfl (.slice none 0 0) 0 [] rfl ⟨rfl, none, 0, rfl, by decide, by decide, fun h => absurd h (by decide)⟩ (by simp) (by decide) (by omega) ?_; intro v2 w2 hS3 hsz2; replace hS3 := Lib.hid hS3; clear hsz2)
        | fail)
      go_ret
      exact ⟨_, rfl, hS3.out⟩
  · clear h
    have hS1 := Lib.hid (hS.sl_nil 3 1)
    have h := hS.ints 0 rfl
    clear hS
    go_enter Tryz.func24, Tryz.ntmps24
    go_wp2_with fail
    go_loop [5] (fun i => ∃ (k : Nat), k ≤ addAt n l ∧ i = .int .i64 k) (fun i => l.length - (intOf i).toNat)
    case atStart => exact ⟨0, Nat.zero_le _, rfl⟩
    case round =>
      obtain ⟨k, hk, rfl⟩ := hrel
      by_cases hlt : k < addAt n l
      · have h3 := hS1.out.cellAt 1 rfl k (by omega)
        rw [List.getElem?_map, List.getElem?_eq_getElem (by omega : k < l.length), Option.map_some] at h3
        have b1 : (k : Int) < (l.length : Int) := by omega
        have b2 : (0 : Int) ≤ (k : Int) := by omega
        have b3 := addAt_lt n l k (by omega) hlt
        go_wp2_with fail
        all_goals exact ⟨⟨k + 1, by omega, by go_num⟩, by simp [intOf]; omega⟩
      · obtain rfl : k = addAt n l := by omega
        have b2 : (0 : Int) ≤ ((addAt n l : Nat) : Int) := by omega
        have hat := addL_at n l
        by_cases hend : addAt n l < l.length
        · have h3 := hS1.out.cellAt 1 rfl (addAt n l) (by omega)
          rw [List.getElem?_map, List.getElem?_eq_getElem hend, Option.map_some] at h3
          have b1 : ((addAt n l : Nat) : Int) < (l.length : Int) := by omega
          have b3 : ¬ l[addAt n l] < n := addAt_not n l hend
          by_cases heq : l[addAt n l] = n
          · rw [List.getElem?_eq_getElem hend, if_pos (by rw [heq])] at hat
            have hat' : Hid (addL n l = l) := hat
            have b4 : (l[addAt n l] == n) = true := by simpa using heq
            generalize l[addAt n l] = y at h3 b3 b4
            generalize addAt n l = k at *
            clear hat heq
            go_wp2_with fail
            go_ret
            refine ⟨_, rfl, ?_⟩
            rw [hat'.out]
            exact hS1.out.drop 1
          · have b4 : (l[addAt n l] == n) = false := by simpa using heq
            have hat' : Hid (addL n l = l.take (addAt n l) ++ [n] ++ l.drop (addAt n l)) := by
              rw [List.getElem?_eq_getElem hend, if_neg (by simpa using heq)] at hat
              exact hat
            generalize l[addAt n l] = y at h3 b3 b4
            generalize addAt n l = k at *
            clear hat heq
            have c1 : ¬ c - k = 0 := by omega
            go_wp2_with (first
              | (at_builtin; refine wpList_append_any_sep 0 rfl _ _ 33 rfl 3 i0 (.int .i64 0) 1 8 Tryz.underlying33 hif hz0 hz1 hz2 rfl (by decide) hS1.out (.slice none 0 0) 0 [] rfl rfl (.slice (some ⟨g, k, none⟩) (l.length - k) (c - k)) (l.length - k) ((l.map (.int .i64)).drop k) rfl (hS1.out.tail_rd 1 rfl k (c - k) (by omega) ⟨g, k, none⟩ (fun _ => rfl) (by omega) (by omega)) (fun u hu => ints_one _ u (List.mem_of_mem_drop hu)) (by unfold maxLen; omega) (by omega) ?_; intro v1 w1 hS2 hsz2; replace hS2 := Lib.hid hS2; clear hsz2)
              | (at_builtin; refine wpList_append_any_sep 1 rfl _ _ 33 rfl 3 i0 (.int .i64 0) 1 8 Tryz.underlying33 hif hz0 hz1 hz2 rfl (by decide) ((hS2.out.alloc (.cells #[.int .i64 n] 3)).sl_cut 1 rfl k (by omega)) (.slice (some ⟨g, 0, none⟩) k c) k ((l.map (.int .i64)).take (k * 1)) rfl rfl (.slice (some ⟨w1.heap.size, 0, none⟩) 1 1) 1 [.int .i64 n] rfl (rd_alloc _ #[.int .i64 n] _ _ (by first | rfl | simp) (by simp [maxLen])) (by simp [Value.oneCell']) (by unfold maxLen; omega) (by omega) ?_; intro v2 w2 hS3 hsz2; replace hS3 := Lib.hid hS3; clear hsz2)
              | (at_builtin; refine wpList_append_any_sep 1 rfl _ _ 33 rfl 3 i0 (.int .i64 0) 1 8 Tryz.underlying33 hif hz0 hz1 hz2 rfl (by decide) hS3.out v2 (k + 1) ((l.map (.int .i64)).take (k * 1) ++ [.int .i64 n]) rfl rfl v1 (0 + (l.length - k)) ([] ++ ((l.map (.int .i64)).drop k)) rfl (hS3.out.rd 0 rfl) (fun u hu => ints_one _ u (List.mem_of_mem_drop (by simpa using hu))) (by unfold maxLen; omega) (by omega) ?_; intro v3 w3 hS4 hsz2; replace hS4 := Lib.hid hS4; clear hsz2)
              | fail)
            go_ret
            refine ⟨v3, rfl, ?_⟩
            have h9 := hS4.out.drop 1
            rw [hat'.out]
            have e9 : intsR v3 (l.take k ++ [n] ++ l.drop k) = .sl 3 1 v3 (k + 1 + (0 + (l.length - k))) ((l.map (.int .i64)).take (k * 1) ++ [.int .i64 n] ++ ([] ++ ((l.map (.int .i64)).drop k))) := by
              unfold intsR
              congr 1
              · simp; try omega
              · simp [List.map_take]
            rw [e9]
            exact h9
        · obtain hke : addAt n l = l.length := by omega
          have b1 : ((addAt n l : Nat) : Int) = (l.length : Int) := by omega
          have hat' : Hid (addL n l = l.take (addAt n l) ++ [n] ++ l.drop (addAt n l)) := by
            rw [List.getElem?_eq_none (by omega), if_neg (by simp)] at hat
            exact hat
          generalize addAt n l = k at *
          clear hat
          subst hke
          by_cases c1 : c - l.length = 0
          · obtain rfl : l.length = c := by omega
            go_wp2_with (first
              | (at_builtin; refine wpList_append_any_sep 0 rfl _ _ 33 rfl 3 i0 (.int .i64 0) 1 8 Tryz.underlying33 hif hz0 hz1 hz2 rfl (by decide) hS1.out (.slice none 0 0) 0 [] rfl rfl (.slice (some ⟨g, 0, none⟩) 0 0) 0 [] rfl (rd_none ⟨g, 0, none⟩ 0 (by omega)) (by simp) (by unfold maxLen; omega) (by omega) ?_; intro v1 w1 hS2 hsz2; replace hS2 := Lib.hid hS2; clear hsz2)
              | (at_builtin; refine wpList_append_any_sep 1 rfl _ _ 33 rfl 3 i0 (.int .i64 0) 1 8 Tryz.underlying33 hif hz0 hz1 hz2 rfl (by decide) ((hS2.out.alloc (.cells #[.int .i64 n] 3)).sl_cut 1 rfl l.length (by omega)) (.slice (some ⟨g, 0, none⟩) l.length l.length) l.length ((l.map (.int .i64)).take (l.length * 1)) rfl rfl (.slice (some ⟨w1.heap.size, 0, none⟩) 1 1) 1 [.int .i64 n] rfl (rd_alloc _ #[.int .i64 n] _ _ (by first | rfl | simp) (by simp [maxLen])) (by simp [Value.oneCell']) (by unfold maxLen; omega) (by omega) ?_; intro v2 w2 hS3 hsz2; replace hS3 := Lib.hid hS3; clear hsz2)
              | (at_builtin; refine wpList_append_any_sep 1 rfl _ _ 33 rfl 3 i0 (.int .i64 0) 1 8 Tryz.underlying33 hif hz0 hz1 hz2 rfl (by decide) hS3.out v2 (l.length + 1) ((l.map (.int .i64)).take (l.length * 1) ++ [.int .i64 n]) rfl rfl v1 (0 + 0) ([] ++ []) rfl (hS3.out.rd 0 rfl) (by simp) (by unfold maxLen; omega) (by omega) ?_; intro v3 w3 hS4 hsz2; replace hS4 := Lib.hid hS4; clear hsz2)
              | fail)
            go_ret
            refine ⟨v3, rfl, ?_⟩
            have h9 := hS4.out.drop 1
            rw [hat'.out]
            have e9 : intsR v3 (l.take l.length ++ [n] ++ l.drop l.length) = .sl 3 1 v3 (l.length + 1 + (0 + 0)) ((l.map (.int .i64)).take (l.length * 1) ++ [.int .i64 n] ++ ([] ++ [])) := by
              unfold intsR
              congr 1
              · simp; try omega
              · simp [List.take_of_length_le]
            rw [e9]
            exact h9
          · skip
            go_wp2_with (first
              | (at_builtin; refine wpList_append_any_sep 0 rfl _ _ 33 rfl 3 i0 (.int .i64 0) 1 8 Tryz.underlying33 hif hz0 hz1 hz2 rfl (by decide) hS1.out (.slice none 0 0) 0 [] rfl rfl (.slice (some ⟨g, l.length, none⟩) 0 (c - l.length)) 0 [] rfl (rd_none ⟨g, l.length, none⟩ (c - l.length) (by omega)) (by simp) (by unfold maxLen; omega) (by omega) ?_; intro v1 w1 hS2 hsz2; replace hS2 := Lib.hid hS2; clear hsz2)
              | (at_builtin; refine wpList_append_any_sep 1 rfl _ _ 33 rfl 3 i0 (.int .i64 0) 1 8 Tryz.underlying33 hif hz0 hz1 hz2 rfl (by decide) ((hS2.out.alloc (.cells #[.int .i64 n] 3)).sl_cut 1 rfl l.length (by omega)) (.slice (some ⟨g, 0, none⟩) l.length c) l.length ((l.map (.int .i64)).take (l.length * 1)) rfl rfl (.slice (some ⟨w1.heap.size, 0, none⟩) 1 1) 1 [.int .i64 n] rfl (rd_alloc _ #[.int .i64 n] _ _ (by first | rfl | simp) (by simp [maxLen])) (by simp [Value.oneCell']) (by unfold maxLen; omega) (by omega) ?_; intro v2 w2 hS3 hsz2; replace hS3 := Lib.hid hS3; clear hsz2)
              | (at_builtin; refine wpList_append_any_sep 1 rfl _ _ 33 rfl 3 i0 (.int .i64 0) 1 8 Tryz.underlying33 hif hz0 hz1 hz2 rfl (by decide) hS3.out v2 (l.length + 1) ((l.map (.int .i64)).take (l.length * 1) ++ [.int .i64 n]) rfl rfl v1 (0 + 0) ([] ++ []) rfl (hS3.out.rd 0 rfl) (by simp) (by unfold maxLen; omega) (by omega) ?_; intro v3 w3 hS4 hsz2; replace hS4 := Lib.hid hS4; clear hsz2)
              | fail)
            go_ret
            refine ⟨v3, rfl, ?_⟩
            have h9 := hS4.out.drop 1
            rw [hat'.out]
            have e9 : intsR v3 (l.take l.length ++ [n] ++ l.drop l.length) = .sl 3 1 v3 (l.length + 1 + (0 + 0)) ((l.map (.int .i64)).take (l.length * 1) ++ [.int .i64 n] ++ ([] ++ [])) := by
              unfold intsR
              congr 1
              · simp; try omega
              · simp [List.take_of_length_le]
            rw [e9]
            exact h9
end Go.Proofs.YtioonfceamgpmaaGreatDoor

namespace Go.Proofs.YtioonfceamgpmaaGreatDoor
open Go.RowKit
set_option linter.unusedVariables false

def withoutL (x : Int) (l : List Int) : List Int := l.filter fun k => decide (k ≠ x)
theorem without_take {x : Int} {l : List Int} {k : Nat} (hk : k < l.length) : withoutL x (l.take (k + 1)) = if l[k] = x then withoutL x (l.take k) else withoutL x (l.take k) ++ [l[k]] := by
  unfold withoutL
  rw [List.take_add_one, List.getElem?_eq_getElem hk, List.filter_append]
  by_cases e : l[k] = x
  · rw [if_pos e]; simp [e]
  · rw [if_neg e]; simp [e]
theorem without_len (x : Int) (l : List Int) : (withoutL x l).length ≤ l.length := List.length_filter_le _ _

set_option maxRecDepth 100000 in
set_option maxHeartbeats 2000000 in
theorem without_any {xs : List Int} {w : World} {v : Value} (h : IntsAt w v xs) (hm9 : xs.length ≤ 100000) (x : Int) :
    Calls Tryz.prog 29 #[v, .int .i64 x] w fun e w' => ∃ v', e = .returned v' ∧ Sep w w' [intsR v' (withoutL x xs)] := by
  obtain ⟨A, c, rfl, hm⟩ := h.shape
  obtain ⟨i0, hif, hz0, hz1, hz2⟩ := info_parts info_int
  have hm' : (xs.length : Int) ≤ 100000 := by omega
  go_enter Tryz.func29, Tryz.ntmps29
  go_wp2_with fail
  go_loopw [5, 6] (fun vo vi wr => ∃ k : Nat, k ≤ xs.length ∧ vi = .int .i64 k ∧ Sep w wr [intsR vo (withoutL x (xs.take k))]) (fun _ vi _ => xs.length - (intOf vi).toNat)
  case atStart => exact ⟨0, Nat.zero_le _, rfl, (Sep.nil w).sl_nil _ _⟩
  case round =>
    obtain ⟨k, hk, rfl, hS⟩ := hrel
    by_cases hlt : k < xs.length
    · obtain ⟨ad, c', e, h3⟩ := (h.below hS.below).at_ hlt
      cases e
      have b1 : (k : Int) < (xs.length : Int) := by omega
      have b2 : (0 : Int) ≤ (k : Int) := by omega
      have hnx := without_take (x := x) hlt
      have hlen : (withoutL x (xs.take k)).length ≤ 100000 := Nat.le_trans (without_len _ _) (by rw [List.length_take]; omega)
      generalize xs[k] = y at h3 hnx
      by_cases e : y = x
      · have b3 : (y != x) = false := by simpa using e
        rw [if_pos e, ] at hnx
        have hS' := Lib.hid (hnx.symm ▸ hS)
        clear hS hnx
        go_wp2_with fail
        go_roundw
        · exact ⟨k + 1, by omega, by go_num, hS'.out⟩
        · simp [intOf]; omega
      · have b3 : (y != x) = true := by simpa using e
        rw [if_neg e] at hnx
        have hS1 := hS.alloc (.cells #[.int .i64 y] 3)
        go_wp2_with (first
          | (at_builtin; refine wpList_append_sep 0 rfl _ _ 33 rfl 3 i0 (.int .i64 0) 1 8 Tryz.underlying33 hif hz0 hz1 hz2 rfl (by decide) hS1 _ _ _ rfl rfl ⟨wr.heap.size, 0, none⟩ 1 1 [.int .i64 y] rfl rfl (cell_one_new _ _ _) (by simp [Value.oneCell']) (by decide) (by unfold maxLen; omega) (by omega) ?_)
          | fail)
        intro g c2 w2 hS2 hz
        have hS3 : Sep w w2 [intsR (.slice (some ⟨g, 0, none⟩) ((withoutL x (xs.take k)).length + 1) c2) (withoutL x (xs.take (k + 1)))] := by
          rw [hnx]
          unfold intsR
          rw [List.map_append, List.length_append]
          exact hS2
        have hS3' := Lib.hid hS3
        clear hS hS1 hS2 hz hS3 hnx
        go_wp2_with fail
        go_roundw
        · exact ⟨k + 1, by omega, by go_num, hS3'.out⟩
        · simp [intOf]; omega
    · obtain rfl : k = xs.length := by omega
      rw [List.take_length] at hS
      have hS' := Lib.hid hS
      clear hS
      go_wp2_with fail
      go_ret
      exact ⟨_, rfl, hS'.out⟩
end Go.Proofs.YtioonfceamgpmaaGreatDoor
