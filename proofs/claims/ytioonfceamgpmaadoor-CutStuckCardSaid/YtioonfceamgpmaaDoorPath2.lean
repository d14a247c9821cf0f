/- path.each, path.Kept, path.Temp, walked. -/
import Derived.Test.YtioonfceamgpmaaDoorPath1
import Derived.Test.YtioonfceamgpmaaDoorVals
import Derived.Test.YtioonfceamgpmaaDoorShelf15
import Derived.Shelf.Strings.Prefix
import Derived.Shelf.Small.Strs
import Derived.Shelf.Strconv.Itoa3
namespace Go.Proofs.YtioonfceamgpmaaDoor
open Go.RowKit Go.Shelf
set_option linter.unusedVariables false
attribute [local go_sem] Oper.semAt_some

/-- The parts between slashes. -/
def splitB : List UInt8 → List (List UInt8)
  | [] => [[]]
  | c :: l => if c = 47 then [] :: splitB l else match splitB l with
    | [] => [[c]]
    | h :: t => (c :: h) :: t
theorem splitB_cons (c : UInt8) (l : List UInt8) : splitB (c :: l) = if c = 47 then [] :: splitB l else match splitB l with
    | [] => [[c]]
    | h :: t => (c :: h) :: t := rfl
theorem splitB_ne (l : List UInt8) : splitB l ≠ [] := by
  cases l with
  | nil => simp [splitB]
  | cons c l =>
    unfold splitB
    split
    · simp
    · split <;> simp
theorem splitB_none {l : List UInt8} (h : (47 : UInt8) ∉ l) : splitB l = [l] := by
  induction l with
  | nil => rfl
  | cons c l ih =>
    have h1 : c ≠ 47 := fun e => h (by simp [e])
    have h2 : (47 : UInt8) ∉ l := fun e => h (List.mem_cons_of_mem _ e)
    unfold splitB
    rw [if_neg h1, ih h2]
theorem splitB_some {a b : List UInt8} (h : (47 : UInt8) ∉ a) : splitB (a ++ 47 :: b) = a :: splitB b := by
  induction a with
  | nil => rfl
  | cons c a ih =>
    have h1 : c ≠ 47 := fun e => h (by simp [e])
    have h2 : (47 : UInt8) ∉ a := fun e => h (List.mem_cons_of_mem _ e)
    rw [List.cons_append, splitB_cons, if_neg h1, ih h2]
theorem index_cases (l : List UInt8) : ((47 : UInt8) ∉ l ∧ Lib.indexByte l 47 = -1) ∨ ∃ a b, l = a ++ 47 :: b ∧ (47 : UInt8) ∉ a ∧ Lib.indexByte l 47 = (a.length : Int) := by
  induction l with
  | nil => exact .inl ⟨by simp, rfl⟩
  | cons c l ih =>
    by_cases e : c = 47
    · subst e
      exact .inr ⟨[], l, rfl, by simp, by simp [Lib.indexByte]⟩
    · have e' : (c == 47) = false := beq_eq_false_iff_ne.2 e
      rcases ih with ⟨h1, h2⟩ | ⟨a, b, rfl, h1, h2⟩
      · refine .inl ⟨fun h => ?_, by simp [Lib.indexByte, e, h2]⟩
        rcases List.mem_cons.1 h with h | h
        · exact e h.symm
        · exact h1 h
      · refine .inr ⟨c :: a, b, rfl, fun h => ?_, ?_⟩
        · rcases List.mem_cons.1 h with h | h
          · exact e h.symm
          · exact h1 h
        · have hne : ((a.length : Int) == -1) = false := beq_eq_false_iff_ne.2 (by omega)
          unfold Lib.indexByte
          rw [e', h2, hne]
          simp
def nm (x : Nat × ByteArray) : List UInt8 := x.2.data.toList

set_option maxRecDepth 100000 in
set_option maxHeartbeats 2000000 in
theorem each1_in (F : Fence) (n : Nat) (h7 : F.fn 64) (h65 : F.fn 65) (hix : ∀ (s : ByteArray) W, CallsIn F (n - 1) Tryd.prog 65 #[.string s, .int .u8 47] W fun e w' => e = .returned (.int .i64 (Lib.indexByte s.data.toList 47)) ∧ w' = W) (hro : F.round = none) (hn : 1 ≤ n) (l Bs n₀ : Nat) (p : ByteArray) (hs : p.size ≤ 4611686018427387904) (J Jx : List (Nat × ByteArray) → World → Prop)
    (hY : ∀ pre x W, J pre W → pre.length < (splitB p.data.toList).length → YieldAt F (n - 1) Tryd.prog l #[.int .i64 (x.1 : Int), .string x.2] W fun e W' =>
      (e = .returned (.bool true) ∧ J (pre ++ [x]) W' ∧ Below n₀ W W') ∨ (e = .returned (.bool false) ∧ Jx (pre ++ [x]) W'))
    (W : World) (hb : Bs < n₀) (hBs : W.cell? ⟨Bs, 0, none⟩ = some (.string p)) (h0 : J [] W) :
    CallsIn F n Tryd.prog 64 #[.func (.yield l) #[] #[], .pointer (some ⟨Bs, 0, none⟩)] W fun e W' => (∃ v, e = .returned v) ∧
      ((∃ ys : List (Nat × ByteArray), ys.map nm = splitB p.data.toList ∧ J ys W') ∨ (∃ pre : List (Nat × ByteArray), (∃ rest, pre.map nm ++ rest = splitB p.data.toList) ∧ Jx pre W')) := by
  have hsz : p.size = p.data.toList.length := Lib.size_eq p
  have bs : (p.size : Int) ≤ 4611686018427387904 := by omega
  refine callsIn_of_wp Tryd.func64 rfl h7 ?_ hro
  simp only [Tryd.ntmps64, List.size_toArray, List.length_cons, List.length_nil, Nat.reduceAdd, Nat.reduceSub, Array.replicate_succ, Array.replicate_zero, List.push_toArray, List.append_toArray, List.nil_append, List.cons_append]
  gi_wp2
  gi_loopw [3] (fun i wr => ∃ (from_ : Nat) (pre : List (Nat × ByteArray)), i = .int .i64 from_ ∧ J pre wr ∧ Below n₀ W wr ∧ ((from_ ≤ p.size ∧ pre.map nm ++ splitB (p.data.toList.drop from_) = splitB p.data.toList) ∨ (from_ = p.size + 1 ∧ pre.map nm = splitB p.data.toList)))
    (fun i _ => p.size + 1 - (intOf i).toNat)
  case atStart => exact ⟨0, [], rfl, h0, Below.refl _ _, .inl ⟨Nat.zero_le _, by simp⟩⟩
  case round =>
    obtain ⟨from_, pre, rfl, hJs, hnx, hst⟩ := hrel
    have hcx : wr.cell? ⟨Bs, 0, none⟩ = some (.string p) := (hnx.cell (p := ⟨Bs, 0, none⟩) hb).trans hBs
    rcases hst with ⟨hle, hsp⟩ | ⟨hgt, hsp⟩
    case inr =>
      have q1 : ¬ (from_ : Int) ≤ (p.size : Int) := by omega
      have q2 : (p.size : Int) < (from_ : Int) := by omega
      clear hgt hsz
      gi_wp2
      go_end0
      exact ⟨⟨_, rfl⟩, .inl ⟨_, hsp, hJs⟩⟩
    have q1 : (from_ : Int) ≤ (p.size : Int) := by omega
    have q0 : (0 : Int) ≤ (from_ : Int) := by omega
    have hpl : pre.length < (splitB p.data.toList).length := by
      rw [← hsp, List.length_append, List.length_map]
      have := List.length_pos_iff.2 (splitB_ne (p.data.toList.drop from_))
      omega
    have hix := fun W => hix (p.extract from_ p.size) W
    have hex : (p.extract from_ p.size).data.toList = p.data.toList.drop from_ := by
      rw [Lib.extract_data, List.take_of_length_le (by rw [List.length_drop]; omega)]
    rw [hex] at hix
    rcases index_cases (p.data.toList.drop from_) with ⟨hno, hval⟩ | ⟨a, b, hab, hno, hval⟩
    · rw [hval] at hix
      have hnm : nm (p.size, p.extract from_ p.size) = p.data.toList.drop from_ := hex
      have hend : (pre ++ [(p.size, p.extract from_ p.size)]).map nm = splitB p.data.toList := by
        rw [List.map_append, ← hsp, splitB_none hno, List.map_cons, List.map_nil, hnm]
      obtain ⟨fn, tmps, assign, body, hy, hR⟩ := hY pre (p.size, p.extract from_ p.size) wr hJs hpl
      dsimp only at hy
      have hend' := Lib.hid hend
      clear hend hnm hsp hex hno hval hsz
      gi_wp2_with (gi_at_call 65; refine (hix _).mono ?_; rintro e w' ⟨rfl, rfl⟩)
      refine hR.mono ?_
      rintro e W3 (⟨rfl, hJ3, hk3⟩ | ⟨rfl, hJx3⟩)
      · gi_wp2
        go_roundw
        case rel => exact ⟨p.size + 1, _, by simp, hJ3, hnx.trans hk3, .inr ⟨rfl, hend'⟩⟩
        case measure => simp [intOf]; omega
      · gi_wp2
        refine bodyPost_ret (results_none rfl _ _ _) rfl ?_
        exact ⟨⟨_, rfl⟩, .inr ⟨_, ⟨[], (List.append_nil _).trans hend'⟩, hJx3⟩⟩
    · rw [hval] at hix
      have hal : a.length < p.data.toList.length - from_ := by
        rw [← List.length_drop, hab, List.length_append, List.length_cons]; omega
      have q3 : (from_ : Int) + (a.length : Int) < (p.size : Int) := by omega
      have q4 : (0 : Int) ≤ (a.length : Int) := by omega
      have q5 : (from_ : Int) ≤ (from_ : Int) + (a.length : Int) := by omega
      have hex2 : nm (from_ + a.length, p.extract from_ (from_ + a.length)) = a := by
        show (p.extract from_ (from_ + a.length)).data.toList = a
        rw [Lib.extract_data, Nat.add_sub_cancel_left, hab, List.take_left']
        rfl
      have hb' : p.data.toList.drop (from_ + a.length + 1) = b := by
        rw [Nat.add_assoc, ← List.drop_drop, hab, ← List.drop_drop]
        simp
      have hnext : (pre ++ [(from_ + a.length, p.extract from_ (from_ + a.length))]).map nm ++ splitB (p.data.toList.drop (from_ + a.length + 1)) = splitB p.data.toList := by
        rw [List.map_append, List.map_cons, List.map_nil, hex2, hb', ← hsp, hab, splitB_some hno, List.append_assoc]
        rfl
      obtain ⟨fn, tmps, assign, body, hy, hR⟩ := hY pre (from_ + a.length, p.extract from_ (from_ + a.length)) wr hJs hpl
      simp only [Int.natCast_add] at hy
      have hnext' := Lib.hid hnext
      have hal' := Lib.hid hal
      clear hnext hal hsp hex hno hval hex2 hb' hab hsz hpl
      gi_wp2_with (gi_at_call 65; refine (hix _).mono ?_; rintro e w' ⟨rfl, rfl⟩)
      refine hR.mono ?_
      rintro e W3 (⟨rfl, hJ3, hk3⟩ | ⟨rfl, hJx3⟩)
      · gi_wp2
        go_roundw
        case rel => exact ⟨from_ + a.length + 1, _, by simp, hJ3, hnx.trans hk3, .inl ⟨by omega, hnext'⟩⟩
        case measure => simp [intOf]; omega
      · gi_wp2
        refine bodyPost_ret (results_none rfl _ _ _) rfl ?_
        exact ⟨⟨_, rfl⟩, .inr ⟨_, ⟨_, hnext'⟩, hJx3⟩⟩
end Go.Proofs.YtioonfceamgpmaaDoor
