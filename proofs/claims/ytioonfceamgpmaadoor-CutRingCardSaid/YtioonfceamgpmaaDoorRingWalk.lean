/- shuntlaw15.CutRing, walked. -/
import Derived.Test.YtioonfceamgpmaaDoorRing
import Derived.IntWalk
namespace Go.Proofs.YtioonfceamgpmaaDoor
open Go.RowKit
set_option linter.unusedVariables false

def abcL : List UInt8 := [97, 98, 99, 100, 101, 102, 103, 104, 105, 106, 107, 108, 109, 110, 111, 112, 113, 114, 115, 116, 117, 118, 119, 120, 121, 122]
def letter (i : Nat) : ByteArray := ByteArray.extract ⟨abcL.toArray⟩ i (i + 1)
def ringI (n i : Nat) : Ins := ⟨3, letter i, letter ((i + 1) % n), 0, 0⟩
def ringA (n i : Nat) : List Ins := (List.range i).map (ringI n)
theorem ringA_len (n i : Nat) : (ringA n i).length = i := by simp [ringA]
theorem ringA_succ (n i : Nat) : ringA n (i + 1) = ringA n i ++ [ringI n i] := by simp [ringA, List.range_succ]

theorem letter_zero : letter 0 = ⟨#[97]⟩ := by
  have h : (letter 0).data = #[97] := by decide +kernel
  cases h2 : letter 0 with
  | mk d => rw [h2] at h; simp only at h; rw [h]
theorem letter_one : letter 1 = ⟨#[98]⟩ := by
  have h : (letter 1).data = #[98] := by decide +kernel
  cases h2 : letter 1 with
  | mk d => rw [h2] at h; simp only at h; rw [h]
theorem letter_cuts (n : Nat) : cutsX (ringI n 0) = true := by
  have h : keptL (letter 0).data.toList = false := by decide +kernel
  unfold cutsX ringI
  simp only
  rw [h]
  rfl

theorem cutring_few (n from_ : Int) (w : World) (h : n < 2 ∨ (2 ≤ n ∧ 26 < n) ∨ (2 ≤ n ∧ n ≤ 26 ∧ from_ < 0)) :
    Calls Tryd.prog 3 #[.int .i64 n, .int .i64 from_] w fun e w' => e = .returned (.bool true) ∧ Below w.heap.size w w' := by
  have ha := fun W => alive15_any W
  rcases h with h | ⟨h1, h⟩ | ⟨h1, h2, h⟩
  all_goals
    go_enter Tryd.func3, Tryd.ntmps3
    go_wp2_with (go_at_call 5; refine (ha _).mono ?_; rintro e w1 ⟨rfl, hb⟩)
    go_ret
    exact ⟨rfl, hb⟩

set_option maxRecDepth 100000 in
set_option maxHeartbeats 1000000 in
theorem cutring_main (n : Nat) (from_ : Int) (w : World) (h2 : 2 ≤ n) (h26 : n ≤ 26) (hf : 0 ≤ from_) :
    Calls Tryd.prog 3 #[.int .i64 n, .int .i64 from_] w fun e w' => e = .returned (.bool true) ∧ Below w.heap.size w w' := by
  have ha := fun W => alive15_any W
  have q1 : (2 : Int) ≤ (n : Int) := by omega
  have q2 : (n : Int) ≤ 26 := by omega
  go_enter Tryd.func3, Tryd.ntmps3
  go_wp2_with (go_at_call 5; refine (ha _).mono ?_; rintro e w1 ⟨rfl, hb⟩)
  have hb' := Lib.hid hb
  clear hb
  go_loopw [6, 7, 8] (fun va vn iv wr => ∃ i : Nat, i ≤ n ∧ iv = .int .i64 i ∧ Sep w wr [insR va (ringA n i), rowsR vn ((longX n true).take i)]) (fun _ _ iv _ => n - (intOf iv).toNat)
  case atStart =>
    refine ⟨0, Nat.zero_le _, rfl, ?_⟩
    have h0 : Sep w w1 [] := (Sep.nil w).pure hb'.out
    exact (h0.list_nil _ _).sl_nil _ _
  case round =>
    obtain ⟨i, hi, rfl, hS⟩ := hrel
    by_cases hlt : i < n
    · have q3 : (0 : Int) ≤ (i : Int) := by omega
      have q4 : (i : Int) < (n : Int) := by omega
      obtain ⟨k, hk⟩ : ∃ k : Nat, k = (i + 1) % n := ⟨_, rfl⟩
      have b7 : ((i : Int) + 1) % (n : Int) = (k : Int) := by rw [hk]; rfl
      have hkl : k < n := by rw [hk]; exact Nat.mod_lt _ (by omega)
      have q5 : (0 : Int) ≤ (k : Int) := by omega
      have q6 : (k : Int) < 26 := by omega
      have q7 : (i : Int) < 26 := by omega
      have hk' := Lib.hid hk
      have hS' := Lib.hid hS
      clear hk hS
      go_wp2_with fail
      simp only [b7]
      have s2 : (i : Int) + 1 ≤ 26 := by omega
      have s3 : (0 : Int) ≤ (i : Int) + 1 := by omega
      have s4 : (i : Int) ≤ (i : Int) + 1 := by omega
      have s5 : (k : Int) + 1 ≤ 26 := by omega
      have s6 : (0 : Int) ≤ (k : Int) + 1 := by omega
      have s7 : (k : Int) ≤ (k : Int) + 1 := by omega
      have s8 : ((i : Int) + 1).toNat = i + 1 := by omega
      have s9 : ((k : Int) + 1).toNat = k + 1 := by omega
      have s1 : IntKind.i64.wrap ((i : Int) + 1) = (i : Int) + 1 := IntWalk.i64_in _ (by omega)
      have s0 : IntKind.i64.wrap ((k : Int) + 1) = (k : Int) + 1 := IntWalk.i64_in _ (by omega)
      have hT : True := trivial
      refine wp_region_E (S := fun _ => True) 12 (by kernel_rfl) ?_
      simp only [List.size_toArray, List.length_cons, List.length_nil, Nat.reduceAdd]
      refine wpE_take (i := 0) (v := ?_) rfl (by kernel_rfl) (by kernel_rfl) (by kernel_rfl) (by kernel_rfl) (fun _ _ _ h => h) (Or.inl ⟨by rfl, ?_⟩) hT ?_
      rotate_left
      · intro w hw; obtain e1 := hw; go_simp
        try with_reducible rfl
      simp only [Act.put]
      try simp only [List.setIfInBounds_toArray]
      refine wpE_take (i := 1) (v := ?_) rfl (by kernel_rfl) (by kernel_rfl) (by kernel_rfl) (by kernel_rfl) (fun _ _ _ h => h) (Or.inl ⟨by rfl, ?_⟩) hT ?_
      rotate_left
      · intro w hw; obtain e1 := hw; go_simp
        try with_reducible rfl
      simp only [Act.put]
      try simp only [List.setIfInBounds_toArray]
      refine wpE_take (i := 2) (v := ?_) rfl (by kernel_rfl) (by kernel_rfl) (by kernel_rfl) (by kernel_rfl) (fun _ _ _ h => h) (Or.inl ⟨by rfl, ?_⟩) hT ?_
      rotate_left
      · intro w hw; obtain e1 := hw; go_simp
        try with_reducible rfl
      simp only [Act.put]
      try simp only [List.setIfInBounds_toArray]
      refine wpE_take (i := 3) (v := ?_) rfl (by kernel_rfl) (by kernel_rfl) (by kernel_rfl) (by kernel_rfl) (fun _ _ _ h => h) (Or.inl ⟨by rfl, ?_⟩) hT ?_
      rotate_left
      · intro w hw; obtain e1 := hw; go_simp
        try with_reducible rfl
      simp only [Act.put]
      try simp only [List.setIfInBounds_toArray]
      refine wpE_take (i := 4) (v := .string (letter i)) rfl (by kernel_rfl) (by kernel_rfl) (by kernel_rfl) (by kernel_rfl) (fun _ _ _ h => h) (Or.inl ⟨by rfl, ?_⟩) hT ?_
      · intro w hw
        go_simp
        rfl
      simp only [Act.put]
      try simp only [List.setIfInBounds_toArray]
      refine wpE_take (i := 5) (v := ?_) rfl (by kernel_rfl) (by kernel_rfl) (by kernel_rfl) (by kernel_rfl) (fun _ _ _ h => h) (Or.inl ⟨by rfl, ?_⟩) hT ?_
      rotate_left
      · intro w hw; obtain e1 := hw; go_simp
        try with_reducible rfl
      simp only [Act.put]
      try simp only [List.setIfInBounds_toArray]
      refine wpE_take (i := 6) (v := ?_) rfl (by kernel_rfl) (by kernel_rfl) (by kernel_rfl) (by kernel_rfl) (fun _ _ _ h => h) (Or.inl ⟨by rfl, ?_⟩) hT ?_
      rotate_left
      · intro w hw; obtain e1 := hw; go_simp
        try with_reducible rfl
      simp only [Act.put]
      try simp only [List.setIfInBounds_toArray]
      refine wpE_take (i := 7) (v := ?_) rfl (by kernel_rfl) (by kernel_rfl) (by kernel_rfl) (by kernel_rfl) (fun _ _ _ h => h) (Or.inl ⟨by rfl, ?_⟩) hT ?_
      rotate_left
      · intro w hw; obtain e1 := hw; go_simp
        try with_reducible rfl
      simp only [Act.put]
      try simp only [List.setIfInBounds_toArray]
      refine wpE_take (i := 8) (v := .string (letter k)) rfl (by kernel_rfl) (by kernel_rfl) (by kernel_rfl) (by kernel_rfl) (fun _ _ _ h => h) (Or.inl ⟨by rfl, ?_⟩) hT ?_
      · intro w hw
        go_simp
        rfl
      simp only [Act.put]
      try simp only [List.setIfInBounds_toArray]
      refine wpE_take (i := 9) (v := ?_) rfl (by kernel_rfl) (by kernel_rfl) (by kernel_rfl) (by kernel_rfl) (fun _ _ _ h => h) (Or.inl ⟨by rfl, ?_⟩) hT ?_
      rotate_left
      · intro w hw; obtain e1 := hw; go_simp
        try with_reducible rfl
      simp only [Act.put]
      try simp only [List.setIfInBounds_toArray]
      clear s0 s1
      obtain ⟨j0, hjnf, hj0, hj1, hj2⟩ := info_parts info_ins
      have hi0 : insR u6 (ringA n i) = .sl 26 5 u6 i (insCells (ringA n i)) := by unfold insR; rw [ringA_len]
      have hSm := Lib.hid ((hi0 ▸ hS'.out).drew.alloc (.cells #[.int .i64 3, .string (letter i), .string (letter k), .int .i64 0, .int .i64 0] 26))
      refine wpE_one (i := 10) (by kernel_rfl) rfl (fun K hK => ?_)
      go_simp
      refine hK _ _ (fun _ => hT) ?_
      clear hK K
      try simp only [Act.put]
      try simp only [List.setIfInBounds_toArray]
      refine wpE_one (i := 11) (by kernel_rfl) rfl (fun K hK => ?_)
      refine step_append_sep 0 (by rfl) _ _ 23 (by rfl) 26 j0 _ 5 56 Tryd.underlying23 hjnf hj0 hj1 hj2 rfl (by decide) hSm.out u6 i (insCells (ringA n i)) (by rfl) (by rfl) ⟨wr.heap.size, 0, none⟩ 1 1 [.int .i64 3, .string (letter i), .string (letter k), .int .i64 0, .int .i64 0] (by rfl) (by rfl) (cells_new _ _ _ _ (by simp)) (by simp [Value.oneCell']) (by decide) (by unfold maxLen; omega) (by omega) ?_
      intro g c w2 hSa hza
      have hSa' := Lib.hid hSa
      clear hSa hza
      refine hK _ _ (fun _ => hT) ?_
      clear hK K
      try simp only [Act.put]
      try simp only [List.setIfInBounds_toArray]
      refine wpE_one (i := 12) (by kernel_rfl) rfl (fun K hK => ?_)
      go_simp
      refine hK _ _ (fun h => absurd rfl h) ?_
      clear hK K
      try simp only [Act.put]
      try simp only [List.setIfInBounds_toArray]
      refine wpE_done (by kernel_rfl) ?_ _
      obtain ⟨i1, hinf, hz0, hz1, hz2⟩ := info_parts info_rows
      have hB : Sep w w2 [insR (.slice (some ⟨g, 0, none⟩) (i + 1) c) (ringA n (i + 1)), rowsR u7 ((longX n true).take i)] := by
        have e : insR (.slice (some ⟨g, 0, none⟩) (i + 1) c) (ringA n (i + 1)) = .sl 26 5 (.slice (some ⟨g, 0, none⟩) (i + 1) c) (i + 1) (insCells (ringA n i) ++ [.int .i64 3, .string (letter i), .string (letter k), .int .i64 0, .int .i64 0]) := by
          unfold insR
          rw [ringA_succ, insCells_snoc, List.length_append, ringA_len, hk'.out]
          rfl
        rw [e]
        exact hSa'.out
      have htl : ((longX n true).take i).length = i := by rw [List.length_take, longX_len]; omega
      have hrow : (longX n true).take (i + 1) = (longX n true).take i ++ [[(k : Int)]] := by
        rw [List.take_add_one, List.getElem?_eq_getElem (by rw [longX_len]; exact hlt), longX_at, Option.toList, hk'.out]
        by_cases h : i + 1 < n
        · rw [if_pos h, Nat.mod_eq_of_lt h]
          rfl
        · obtain h' : i + 1 = n := by omega
          rw [if_neg h, h', Nat.mod_self]
          rfl
      generalize (longX n true).take i = xs at hB htl hrow
      obtain ⟨vs, hvl, hO⟩ := Sep.list_open (hB.perm (List.Perm.swap _ _ _))
      rw [htl] at hO hvl
      have hO2 := Lib.hid ((hO.lit 3 #[.int .i64 k] (by simp [maxLen])).alloc (.cells #[.slice (some ⟨w2.heap.size, 0, none⟩) 1 1] 27))
      have hrow' := Lib.hid hrow
      have htl' := Lib.hid htl
      have hvl' := Lib.hid hvl
      clear hB hSa' hSm hO hi0 hrow htl hvl b7
      go_wp2_with (first
        | (at_builtin; refine wpList_append_sep 1 rfl _ _ 24 rfl 27 i1 _ 1 24 Tryd.underlying24 hinf hz0 hz1 hz2 rfl (by decide) hO2.out u7 i vs rfl rfl ⟨w2.heap.size + 1, 0, none⟩ 1 1 [.slice (some ⟨w2.heap.size, 0, none⟩) 1 1] rfl rfl (cells_new _ _ _ _ (by simp)) (by simp [Value.oneCell']) (by decide) (by unfold maxLen; omega) (by omega) ?_)
        | fail)
      intro g2 c2 w3 hT3 hz3
      have hT3' := Lib.hid hT3
      clear hT3 hz3
      go_wp2_with fail
      have hfin : Sep w w3 [insR (.slice (some ⟨g, 0, none⟩) (i + 1) c) (ringA n (i + 1)), rowsR (.slice (some ⟨g2, 0, none⟩) (i + 1) c2) ((longX n true).take (i + 1))] := by
        have h1 := hT3'.out.perm ((List.Perm.swap _ _ _).trans (List.perm_middle.symm.cons _))
        have h3 := Sep.list_push (e := 27) (One := intsR) (xs := xs) (x := [(k : Int)]) (by rw [hvl'.out, htl'.out]) (by rw [htl'.out]; exact h1)
        rw [hrow'.out]
        exact h3.perm (List.Perm.swap _ _ _)
      exact ⟨⟨i + 1, by omega, by go_num, hfin⟩, by simp [intOf]; omega⟩
    · obtain rfl : i = n := by omega
      rw [List.take_of_length_le (by rw [longX_len]; exact Nat.le_refl _)] at hS
      have hA := hS.ins 0 rfl
      have hN := hS.rows 1 rfl
      have hal : (ringA i i).length = i := ringA_len i i
      have hsz : ∀ x ∈ ringA i i, x.path.size ≤ 4611686018427387904 := by
        intro x hx
        obtain ⟨j, _, rfl⟩ := List.mem_map.1 hx
        show (letter j).size ≤ _
        unfold letter
        rw [ByteArray.size_extract]
        omega
      have hx0 : (ringA i i).getD 0 insZ = ringI i 0 := by
        rw [List.getD_eq_getElem?_getD, List.getElem?_eq_getElem (by rw [hal]; omega)]
        simp [ringA]
      have hbr := break_any hA hN (by rw [longX_len]; omega) (by rw [hal]; omega) hsz
      have hT := ring_break (acts := ringA i i) h2 (by omega) hal (by intro a ha; obtain ⟨j, _, rfl⟩ := List.mem_map.1 ha; rfl) (by rw [hx0]; exact letter_cuts i)
      rw [hT, hx0] at hbr
      have hbr' := Lib.hid hbr
      have hx0' := Lib.hid hx0
      have hal' := Lib.hid hal
      have hbS := Lib.hid hS.below
      have hto : letter ((0 + 1) % i) = ⟨#[98]⟩ := by rw [Nat.mod_eq_of_lt (by omega)]; exact letter_one
      have hto' := Lib.hid hto
      have hS' := Lib.hid hS
      have t1 : (i : Int) < (i : Int) + 1 := by omega
      have t2 : (0 : Int) ≤ (i : Int) := by omega
      clear hbr hT hsz hx0 hal hA hN hS hto
      go_wp2_with (first
        | (go_at_call 6; refine hbr'.out.mono ?_; rintro e w2 ⟨va, vn, rfl, hS2⟩; obtain ⟨g, c, h, c', A, c0, p, c2, rfl, rfl, ⟨d0, d1, d2, d3, d4⟩, ⟨f0, f1, f2, f3, f4⟩, e1, e2, e3, e4⟩ := ring_read h2 hal'.out hx0'.out hS2; have hb2 := Lib.hid hS2.below; clear hS2; simp only [ringI, letter_zero, hto'.out] at d0 d1 d3 d4 f2)
        | (go_at_call 7; refine (num_any15 _ _).mono ?_; rintro e w2 ⟨rfl, rfl⟩))
      go_ret
      exact ⟨rfl, hbS.out.trans (hb2.out.mono hbS.out.size)⟩
end Go.Proofs.YtioonfceamgpmaaDoor
