/- shuntlaw15.CutStuck, walked. -/
import Derived.Test.YtioonfceamgpmaaDoorRing
import Derived.IntWalk
namespace Go.Proofs.YtioonfceamgpmaaDoor
open Go.RowKit
set_option linter.unusedVariables false

set_option maxRecDepth 100000 in
theorem cutstuck_few {zs : List Int} {v : Value} (w : World) (hz : IntsAt w v zs) (h : zs.length < 1 ∨ (1 ≤ zs.length ∧ 20 < zs.length)) :
    Calls Tryd.prog 4 #[v] w fun e w' => e = .returned (.bool true) ∧ Below w.heap.size w w' := by
  obtain ⟨A, c, rfl, hm⟩ := hz.shape
  unfold maxLen at hm
  clear hz
  have ha := fun W => alive15_any W
  obtain ⟨n, hn⟩ : ∃ n, zs.length = n := ⟨_, rfl⟩
  rw [hn] at h hm ⊢
  clear hn
  rcases h with h | ⟨h1, h⟩
  · obtain rfl : n = 0 := by omega
    go_enter Tryd.func4, Tryd.ntmps4
    go_wp2_with (go_at_call 5; refine (ha _).mono ?_; rintro e w1 ⟨rfl, hb⟩)
    go_ret
    exact ⟨rfl, hb⟩
  · have q1 : (1 : Int) ≤ (n : Int) := by omega
    have q2 : (20 : Int) < (n : Int) := by omega
    go_enter Tryd.func4, Tryd.ntmps4
    go_wp2_with (go_at_call 5; refine (ha _).mono ?_; rintro e w1 ⟨rfl, hb⟩)
    go_ret
    exact ⟨rfl, hb⟩

set_option maxRecDepth 100000 in
set_option maxHeartbeats 1000000 in
theorem cutstuck_main {zs : List Int} {v : Value} (w : World) (hz : IntsAt w v zs) (h1 : 1 ≤ zs.length) (h20 : zs.length ≤ 20) :
    Calls Tryd.prog 4 #[v] w fun e w' => e = .returned (.bool true) ∧ Below w.heap.size w w' := by
  obtain ⟨A, c, rfl, hm⟩ := hz.shape
  unfold maxLen at hm
  have ha := fun W => alive15_any W
  have hz' := Lib.hid hz
  clear hz
  obtain ⟨n, hn⟩ : ∃ n, zs.length = n := ⟨_, rfl⟩
  rw [hn] at h1 h20 hm ⊢
  have hn' := Lib.hid hn
  clear hn
  have q1 : (1 : Int) ≤ (n : Int) := by omega
  have q2 : (n : Int) ≤ 20 := by omega
  go_enter Tryd.func4, Tryd.ntmps4
  go_wp2_with (go_at_call 5; refine (ha _).mono ?_; rintro e w1 ⟨rfl, hb⟩)
  have hb' := Lib.hid hb
  clear hb
  go_loopw [4, 5, 6, 7] (fun va vn sv iv wr => ∃ (i : Nat) (acts : List Ins), i ≤ n ∧ iv = .int .i64 i ∧ sv = .bool (acts.any fun x => decide (x.op = 3)) ∧ acts.length = i ∧ Hid (∀ x ∈ acts, x.path.size ≤ 4611686018427387904) ∧ Sep w wr [insR va acts, rowsR vn ((longX n true).take i)]) (fun _ _ _ iv _ => n - (intOf iv).toNat)
  case atStart =>
    refine ⟨0, [], Nat.zero_le _, rfl, rfl, rfl, Lib.hid (by simp), ?_⟩
    have h0 : Sep w w1 [] := (Sep.nil w).pure hb'.out
    exact (h0.list_nil _ _).sl_nil _ _
  case round =>
    obtain ⟨i, acts, hi, rfl, rfl, hal, hsz, hS⟩ := hrel
    by_cases hlt : i < n
    · have q3 : (0 : Int) ≤ (i : Int) := by omega
      have q4 : (i : Int) < (n : Int) := by omega
      obtain ⟨ad, c', e, h3⟩ := (hz'.out.below hS.below).at_ (k := i) (by rw [hn'.out]; exact hlt)
      rw [hn'.out] at e
      cases e
      generalize zs[i]'(by rw [hn'.out]; exact hlt) = z at h3
      generalize hany : (acts.any fun x => decide (x.op = 3)) = b
      obtain ⟨k, hk⟩ : ∃ k : Nat, k = (i + 1) % n := ⟨_, rfl⟩
      have b7 : ((i : Int) + 1) % (n : Int) = (k : Int) := by rw [hk]; rfl
      have htl : ((longX n true).take i).length = i := by rw [List.length_take, longX_len]; omega
      have hrow : (longX n true).take (i + 1) = (longX n true).take i ++ [[(k : Int)]] := by
        rw [List.take_add_one, List.getElem?_eq_getElem (by rw [longX_len]; exact hlt), longX_at, Option.toList, hk]
        by_cases h : i + 1 < n
        · rw [if_pos h, Nat.mod_eq_of_lt h]
          rfl
        · obtain h' : i + 1 = n := by omega
          rw [if_neg h, h', Nat.mod_self]
          rfl
      have hb7 := Lib.hid b7
      clear b7
      have hany' := Lib.hid hany
      have hrow' := Lib.hid hrow
      have htl' := Lib.hid htl
      have hal' := Lib.hid hal
      obtain ⟨j0, hjnf, hj0, hj1, hj2⟩ := info_parts info_ins
      obtain ⟨i1, hinf, hz0, hz1, hz2⟩ := info_parts info_rows
      have hi0 : insR u4 acts = .sl 26 5 u4 i (insCells acts) := by unfold insR; rw [hal]
      rw [hi0] at hS
      have hS' := Lib.hid hS
      clear hS hany hal hrow htl hi0 hk
      go_upto_region 11 with (fail)
      generalize wrap64 (1 + bits BinOp.and IntKind.i64 z 7) = o
      have hSm := Lib.hid (hS'.out.alloc (.cells #[.int .i64 o, .string ⟨#[97]⟩, .string ⟨#[98]⟩, .int .i64 0, .int .i64 0] 26))
      obtain ⟨b3, hb3⟩ : ∃ b3, (o == 3) = b3 := ⟨_, rfl⟩
      cases b <;> cases b3
      all_goals
        go_wp2_with (first
          | (at_builtin; refine wpList_append_sep 0 rfl _ _ 23 rfl 26 j0 _ 5 56 Tryd.underlying23 hjnf hj0 hj1 hj2 rfl (by decide) hSm.out u4 i (insCells acts) rfl rfl ⟨wr.heap.size, 0, none⟩ 1 1 [.int .i64 o, .string ⟨#[97]⟩, .string ⟨#[98]⟩, .int .i64 0, .int .i64 0] rfl rfl (cells_new _ _ _ _ (by simp)) (by simp [Value.oneCell']) (by decide) (by unfold maxLen; omega) (by omega) ?_)
          | fail)
        intro g c2 w2 hSa hza
        have hB : Sep w w2 [insR (.slice (some ⟨g, 0, none⟩) (i + 1) c2) (acts ++ [⟨o, ⟨#[97]⟩, ⟨#[98]⟩, 0, 0⟩]), rowsR u5 ((longX n true).take i)] := by
          have e : insR (.slice (some ⟨g, 0, none⟩) (i + 1) c2) (acts ++ [⟨o, ⟨#[97]⟩, ⟨#[98]⟩, 0, 0⟩]) = .sl 26 5 (.slice (some ⟨g, 0, none⟩) (i + 1) c2) (i + 1) (insCells acts ++ [.int .i64 o, .string ⟨#[97]⟩, .string ⟨#[98]⟩, .int .i64 0, .int .i64 0]) := by
            unfold insR
            rw [insCells_snoc, List.length_append, hal'.out]
            rfl
          rw [e]
          exact hSa
        obtain ⟨xs, hxs⟩ : ∃ xs, xs = (longX n true).take i := ⟨_, rfl⟩
        rw [← hxs] at hB
        obtain ⟨vs, hvl, hO⟩ := Sep.list_open (hB.perm (List.Perm.swap _ _ _))
        have hxl : xs.length = i := by rw [hxs]; exact htl'.out
        rw [hxl] at hO hvl
        have hO2 := Lib.hid ((hO.lit 3 #[.int .i64 (((i : Int) + 1) % (n : Int))] (by simp [maxLen])).alloc (.cells #[.slice (some ⟨w2.heap.size, 0, none⟩) 1 1] 27))
        have hvl' := Lib.hid hvl
        have hxl' := Lib.hid hxl
        have hxs' := Lib.hid hxs
        clear hSa hza hB hO hvl hxl hxs
        go_wp2_with (first
          | (at_builtin; refine wpList_append_sep 1 rfl _ _ 24 rfl 27 i1 _ 1 24 Tryd.underlying24 hinf hz0 hz1 hz2 rfl (by decide) hO2.out u5 i vs rfl rfl ⟨w2.heap.size + 1, 0, none⟩ 1 1 [.slice (some ⟨w2.heap.size, 0, none⟩) 1 1] rfl rfl (cells_new _ _ _ _ (by simp)) (by simp [Value.oneCell']) (by decide) (by unfold maxLen; omega) (by omega) ?_)
          | fail)
        intro g2 c3 w3 hT3 hz3
        rw [hb7.out] at hT3
        have hT3' := Lib.hid hT3
        clear hT3 hz3
        go_wp2_with fail
        have hfin : Sep w w3 [insR (.slice (some ⟨g, 0, none⟩) (i + 1) c2) (acts ++ [⟨o, ⟨#[97]⟩, ⟨#[98]⟩, 0, 0⟩]), rowsR (.slice (some ⟨g2, 0, none⟩) (i + 1) c3) ((longX n true).take (i + 1))] := by
          have h1 := hT3'.out.perm ((List.Perm.swap _ _ _).trans (List.perm_middle.symm.cons _))
          have h3 := Sep.list_push (e := 27) (One := intsR) (xs := xs) (x := [(k : Int)]) (by rw [hvl'.out, hxl'.out]) (by rw [hxl'.out]; exact h1)
          rw [hrow'.out, ← hxs'.out]
          exact h3.perm (List.Perm.swap _ _ _)
        have hsz2 : Hid (∀ x ∈ acts ++ [(⟨o, ⟨#[97]⟩, ⟨#[98]⟩, 0, 0⟩ : Ins)], x.path.size ≤ 4611686018427387904) := Lib.hid (by
          intro x hx
          rcases List.mem_append.1 hx with hx | hx
          · exact hsz.out x hx
          · rw [List.mem_singleton] at hx
            subst hx
            show ByteArray.size ⟨#[98]⟩ ≤ _
            simp [ByteArray.size])
        refine ⟨⟨i + 1, acts ++ [⟨o, ⟨#[97]⟩, ⟨#[98]⟩, 0, 0⟩], by omega, by go_num, ?_, by rw [List.length_append, hal'.out]; rfl, hsz2, hfin⟩, by simp [intOf]; omega⟩
        rw [List.any_append, hany'.out]
        have e3 : decide (o = 3) = (o == 3) := rfl
        simp [e3, hb3]
    · obtain rfl : i = n := by omega
      rw [List.take_of_length_le (by rw [longX_len]; exact Nat.le_refl _)] at hS
      have hA := hS.ins 0 rfl
      have hN := hS.rows 1 rfl
      have hbr := break_any hA hN (by rw [longX_len]; omega) (by rw [hal]; omega) hsz.out
      have hbS := Lib.hid hS.below
      cases hany : (acts.any fun x => decide (x.op = 3)) with
      | true =>
        have hbr' := Lib.hid hbr
        have hany' := Lib.hid hany
        clear hbr hA hN hS hal hany
        go_wp2_with (first
          | (go_at_call 6; refine hbr'.out.mono ?_; rintro e w2 ⟨va, vn, rfl, hS2⟩; have hb2 := Lib.hid hS2.below; clear hS2)
          | (go_at_call 7; refine (num_any15 _ _).mono ?_; rintro e w2 ⟨rfl, rfl⟩))
        go_ret
        exact ⟨rfl, hbS.out.trans (hb2.out.mono hbS.out.size)⟩
      | false =>
        have hall : ∀ a ∈ acts, a.op ≠ 3 := by
          intro a ha
          have := List.any_eq_false.1 hany a ha
          simpa using this
        rw [stuck_break h1 (by omega) hal hall] at hbr
        have hbr' := Lib.hid hbr
        have hany' := Lib.hid hany
        clear hbr hA hN hS hal hany hall
        go_wp2_with (first
          | (go_at_call 6; refine hbr'.out.mono ?_; rintro e w2 ⟨va, vn, rfl, hS2⟩; obtain ⟨A2, c2, rfl, _⟩ := (hS2.ins 0 rfl).shape; have hb2 := Lib.hid hS2.below; clear hS2)
          | (go_at_call 7; refine (num_any15 _ _).mono ?_; rintro e w2 ⟨rfl, rfl⟩))
        go_ret
        exact ⟨rfl, hbS.out.trans (hb2.out.mono hbS.out.size)⟩
end Go.Proofs.YtioonfceamgpmaaDoor
