/- Path1, Vals, laid together. -/
import Derived.Test.YtioonfceamgpmaaGreatDoorJ14
import Derived.Test.YtioonfceamgpmaaGreatDoorJ6
import Derived.Laws.RangeAny
import Derived.ScopeJumps
import Derived.WalkMore
import Derived.LoopTactic
import Derived.Lib.Strings
import Derived.Lib.SmallJoins
import Derived.RangeFuncNested
import Derived.RangeFuncBound
import Derived.RangeFuncCalls
import Derived.RangeFuncLeaves
import Derived.RangeFuncBox
import Derived.Shelf.Abstract
import Derived.OwnWalkIn
import Derived.TacticsInMore
import Derived.LoopNIn
import Derived.LoopIn
import Derived.Maps.AppendAt
namespace Go.Proofs.YtioonfceamgpmaaGreatDoor
open Go.RowKit
set_option linter.unusedVariables false

def charOk (c : Nat) : Bool := (decide (97 ≤ c) && decide (c ≤ 122)) || (decide (48 ≤ c) && decide (c ≤ 57)) || c == 46 || c == 95 || c == 45
def dots (cur : List UInt8) : Bool := cur == [46] || cur == [46, 46]
/-- Is what is left of a path right, n names and the bytes cur of the last having been read? -/
def runV : List UInt8 → Nat → List UInt8 → Bool
  | [], n, cur => decide (0 < cur.length) && !dots cur && decide (n ≤ 6)
  | c :: cs, n, cur =>
    if c = 47 then (if cur.length = 0 ∨ dots cur = true then false else runV cs (n + 1) [])
    else if charOk c.toNat = false then false else if 14 < cur.length + 1 then false else runV cs n (cur ++ [c])
def validL (p : List UInt8) : Bool := runV p 1 []

set_option maxRecDepth 100000 in
set_option maxHeartbeats 4000000 in
theorem valid_any (s : ByteArray) (w : World) (hs : s.size ≤ 4611686018427387904) :
    Calls Tryz.prog 58 #[.string s] w fun e w' => e = .returned (.bool (validL s.data.toList)) ∧ Below w.heap.size w w' := by
  have bs : (s.size : Int) ≤ 4611686018427387904 := by omega
  go_enter Tryz.func58, Tryz.ntmps58
  go_wp2
  refine wp_scope_jumps 0 (fun a' w' => Hid (validL s.data.toList = false) ∧ Fm 80 a' [.string s] ∧ ∃ p, w' = w.iter s p) (fun _ _ => 0) rfl ?_ ?_
  · go_wp2
    go_loopw [3, 4, 5] (fun v3 v4 v5 wr => ∃ (pos n : Nat) (cb : ByteArray), wr = w.iter s pos ∧ v3 = .int .i64 n ∧ v4 = .int .i64 cb.size ∧ v5 = .string cb ∧ cb.size ≤ 14 ∧ n ≤ pos + 1 ∧ pos ≤ s.size ∧ Hid (validL s.data.toList = runV (s.data.toList.drop pos) n cb.data.toList))
      (fun _ _ _ wr => s.size - wr.iterPos w.heap.size)
    case atStart => exact ⟨0, 1, ⟨#[]⟩, rfl, rfl, rfl, rfl, by decide, by omega, by omega, rfl⟩
    case round =>
      obtain ⟨pos, n, cb, rfl, rfl, rfl, rfl, hc14, hn, hps, hv⟩ := hrel
      have b1 : (n : Int) ≤ 4611686018427387905 := by omega
      have b2 : (cb.size : Int) ≤ 14 := by omega
      have htl : cb.toList = cb.data.toList := Lib.toList_data cb
      have hsz : cb.size = cb.data.toList.length := Lib.size_eq cb
      have hss : s.size = s.data.toList.length := Lib.size_eq s
      by_cases hp : pos < s.size
      case neg =>
        have hnx : ∀ ty, (Instr.next (.pointer (some ⟨w.heap.size, 0, none⟩)) true ty).run Tryz.prog (w.iter s pos) = _ := fun ty => run_next_end w s pos ty hp
        have hv2 : Hid (validL s.data.toList = (decide (0 < cb.size) && !dots cb.toList && decide (n ≤ 6))) := by
          have h := hv.out
          rw [List.drop_eq_nil_of_le (by omega), runV] at h
          show _ = _
          rw [h, hsz, htl]
        have htl' := Lib.hid htl
        clear htl hv hsz hss
        go_wp2
        all_goals
          simp only [Exit.jump]
          go_ret
          refine ⟨?_, (Below.refl _ _).alloc (Nat.le_refl _) _⟩
          rw [hv2.out]
          have e6 : decide ((n : Int) ≤ 6) = decide (n ≤ 6) := decide_eq_decide.2 (by omega)
          congr 2
          simp [dots, *]
      obtain ⟨c, hc⟩ : ∃ c, c = s[pos]'hp := ⟨_, rfl⟩
      have hdr : s.data.toList.drop pos = c :: s.data.toList.drop (pos + 1) := by
        rw [List.drop_eq_getElem_cons (by omega), hc]
        rfl
      have hv1 := hv.out
      rw [hdr, runV] at hv1
      have hcl : c.toNat < 256 := c.toNat_lt
      by_cases hasc : c.toNat < 128
      case neg =>
        have hnx : ∀ ty, (Instr.next (.pointer (some ⟨w.heap.size, 0, none⟩)) true ty).run Tryz.prog (w.iter s pos) = _ := fun ty => run_next_any w s pos ty hp
        have hhi := (decode_high s pos hp (by rw [← hc]; omega)).1
        have hle := decode_le s pos
        have hbad : Hid (validL s.data.toList = false) := by
          show _ = _
          rw [hv1, if_neg (by intro e; rw [e] at hasc; exact hasc (by decide)), if_pos (by unfold charOk; simp; omega)]
        generalize (Utf8.decode s pos).1 = r at hnx hhi hle
        generalize (Utf8.decode s pos).2 = wd at hnx
        have q1 : ((r : Int) == 47) = false := by simp; omega
        have q2 : ((r : Int) == 46) = false := by simp; omega
        have q3 : ((r : Int) == 95) = false := by simp; omega
        have q4 : ((r : Int) == 45) = false := by simp; omega
        have q5 : decide ((r : Int) ≤ 122) = false := by simp; omega
        have q6 : decide ((r : Int) ≤ 57) = false := by simp; omega
        have q7 : (97 : Int) ≤ (r : Int) := by omega
        have q8 : (48 : Int) ≤ (r : Int) := by omega
        clear hv hv1 hdr htl hsz hss
        go_wp2
        go_step3
        exact ⟨rfl, hbad, ⟨rfl, rfl, rfl⟩, _, rfl⟩
      have hnx : ∀ ty, (Instr.next (.pointer (some ⟨w.heap.size, 0, none⟩)) true ty).run Tryz.prog (w.iter s pos) = .ok (.tuple #[.bool true, .int .i64 pos, .int .i32 (c.toNat : Nat)]) (w.iter s (pos + 1)) := fun ty => by
        rw [hc]
        exact run_next_ascii w s pos ty hp (by rw [← hc]; exact hasc)
      have hcn : (c = 47) ↔ c.toNat = 47 := by
        constructor
        · rintro rfl; rfl
        · intro h; exact UInt8.toNat_inj.1 h
      have hpos1 : pos + 1 ≤ s.size := hp
      by_cases h47 : c = 47
      case pos =>
        subst h47
        rw [if_pos rfl] at hv1
        have q47 : ((47 : Nat) : Int) = 47 := rfl
        have hnx' : ∀ ty, (Instr.next (.pointer (some ⟨w.heap.size, 0, none⟩)) true ty).run Tryz.prog (w.iter s pos) = .ok (.tuple #[.bool true, .int .i64 pos, .int .i32 47]) (w.iter s (pos + 1)) := hnx
        clear hnx hdr hcn hasc hcl hv
        by_cases h0 : cb.size = 0
        case pos =>
          have hbad : Hid (validL s.data.toList = false) := by
            show _ = _
            rw [hv1, if_pos (.inl (by omega))]
          have z0 : ((cb.size : Int) == 0) = true := beq_iff_eq.2 (by omega)
          have z1 : cb.data.toList = [] := List.eq_nil_of_length_eq_zero (by omega)
          clear hv1 htl hsz hss z1
          go_wp2
          all_goals
            go_step3
            exact ⟨rfl, hbad, ⟨rfl, rfl, rfl⟩, _, rfl⟩
        have z0 : ((cb.size : Int) == 0) = false := beq_eq_false_iff_ne.2 (by omega)
        by_cases hd : dots cb.data.toList = true
        case pos =>
          have hbad : Hid (validL s.data.toList = false) := by
            show _ = _
            rw [hv1, if_pos (.inr hd)]
          have hd2 : cb.toList = [46] ∨ cb.toList = [46, 46] := by
            rw [htl]
            simpa [dots] using hd
          clear hv1 htl hsz hss hd
          rcases hd2 with hd2 | hd2
          all_goals
            have hd3 := Lib.hid hd2
            go_wp2
            all_goals
              go_step3
              exact ⟨rfl, hbad, ⟨rfl, rfl, rfl⟩, _, rfl⟩
        have hd2 : ¬ cb.toList = [46] ∧ ¬ cb.toList = [46, 46] := by
          rw [htl]
          simpa [dots] using hd
        have hd3 : (cb.toList == [46]) = false := beq_eq_false_iff_ne.2 hd2.1
        have hd4 : (cb.toList == [46, 46]) = false := beq_eq_false_iff_ne.2 hd2.2
        clear hd2
        have hnew : Hid (validL s.data.toList = runV (s.data.toList.drop (pos + 1)) (n + 1) []) := by
          show _ = _
          rw [hv1, if_neg (by simp only [not_or]; exact ⟨by omega, hd⟩)]
        clear hv1 htl hsz hss hd
        go_wp2
        go_roundw
        case rel => exact ⟨pos + 1, n + 1, ⟨#[]⟩, rfl, by go_num, rfl, rfl, by decide, by omega, hpos1, hnew⟩
        case measure => simp; omega
      rw [if_neg h47] at hv1
      have hk47 : c.toNat ≠ 47 := fun e => h47 (hcn.2 e)
      have hext : (cb ++ s.extract pos (pos + 1)).data.toList = cb.data.toList ++ [c] := by
        rw [Go.Joins.data_append, Lib.extract_data, hdr]
        simp
      have hexs : (cb ++ s.extract pos (pos + 1)).size = cb.size + 1 := by
        rw [Lib.size_eq, hext, List.length_append, ← hsz]
        rfl
      have hext' := Lib.hid hext
      have hexs' := Lib.hid hexs
      clear hext hexs
      generalize hkk : c.toNat = k at hnx hasc hk47 hv1
      have key : k < 45 ∨ k = 45 ∨ k = 46 ∨ (48 ≤ k ∧ k ≤ 57) ∨ (58 ≤ k ∧ k ≤ 94) ∨ k = 95 ∨ k = 96 ∨ (97 ≤ k ∧ k ≤ 122) ∨ 123 ≤ k := by omega
      by_cases hco : charOk k = false
      case pos =>
        have hbad : Hid (validL s.data.toList = false) := by
          show _ = _
          rw [hv1, if_pos hco]
        have hco2 : ¬ (97 ≤ k ∧ k ≤ 122) ∧ ¬ (48 ≤ k ∧ k ≤ 57) ∧ k ≠ 46 ∧ k ≠ 95 ∧ k ≠ 45 := by
          unfold charOk at hco
          simp at hco
          omega
        have q47 : ((k : Int) == 47) = false := by simp; omega
        have q46 : ((k : Int) == 46) = false := by simp; omega
        have q95 : ((k : Int) == 95) = false := by simp; omega
        have q45 : ((k : Int) == 45) = false := by simp; omega
        clear hv hv1 hdr htl hsz hss hcn hco hkk hc
        have key2 : k < 48 ∨ (58 ≤ k ∧ k ≤ 96) ∨ 123 ≤ k := by omega
        clear key hco2
        rcases key2 with h | h | h
        · have q1 : decide ((97 : Int) ≤ (k : Int)) = false := by simp; omega
          have q2 : decide ((48 : Int) ≤ (k : Int)) = false := by simp; omega
          go_wp2
          go_step3
          exact ⟨rfl, hbad, ⟨rfl, rfl, rfl⟩, _, rfl⟩
        · have q1 : decide ((97 : Int) ≤ (k : Int)) = false := by simp; omega
          have q2 : decide ((48 : Int) ≤ (k : Int)) = true := by simp; omega
          have q3 : decide ((k : Int) ≤ 57) = false := by simp; omega
          go_wp2
          go_step3
          exact ⟨rfl, hbad, ⟨rfl, rfl, rfl⟩, _, rfl⟩
        · have q1 : decide ((97 : Int) ≤ (k : Int)) = true := by simp; omega
          have q2 : decide ((48 : Int) ≤ (k : Int)) = true := by simp; omega
          have q3 : decide ((k : Int) ≤ 57) = false := by simp; omega
          have q4 : decide ((k : Int) ≤ 122) = false := by simp; omega
          go_wp2
          go_step3
          exact ⟨rfl, hbad, ⟨rfl, rfl, rfl⟩, _, rfl⟩
      rw [if_neg hco] at hv1
      have hco2 : (97 ≤ k ∧ k ≤ 122) ∨ (48 ≤ k ∧ k ≤ 57) ∨ k = 46 ∨ k = 95 ∨ k = 45 := by
        unfold charOk at hco
        simp at hco
        omega
      have q47 : ((k : Int) == 47) = false := by simp; omega
      have hlong : Hid (14 < cb.size + 1 → validL s.data.toList = false) := fun h => by
        rw [hv1, if_pos (by omega)]
      have hok : Hid (¬ 14 < cb.size + 1 → validL s.data.toList = runV (s.data.toList.drop (pos + 1)) n (cb ++ s.extract pos (pos + 1)).data.toList) := fun h => by
        rw [hv1, if_neg (by omega), hext'.out]
      clear hv hv1 hdr htl hsz hss hcn hco hkk hc key
      have hlen : (14 < cb.size + 1) ∨ ¬ (14 < cb.size + 1) := Decidable.em _
      rcases hco2 with h | h | h | h | h
      · have q1 : decide ((97 : Int) ≤ (k : Int)) = true := by simp; omega
        have q2 : decide ((k : Int) ≤ 122) = true := by simp; omega
        rcases hlen with hl | hl
        · have hbad := Lib.hid (hlong.out hl)
          have q9 : (14 : Int) < (cb.size : Int) + 1 := by omega
          go_wp2
          go_step3
          exact ⟨rfl, hbad, ⟨rfl, rfl, rfl⟩, _, rfl⟩
        · have hnew := Lib.hid (hok.out hl)
          have q9 : ¬ (14 : Int) < (cb.size : Int) + 1 := by omega
          go_wp2
          go_roundw
          case rel => exact ⟨pos + 1, n, cb ++ s.extract pos (pos + 1), rfl, rfl, by rw [hexs'.out]; go_num, rfl, by rw [hexs'.out]; omega, by omega, hpos1, hnew⟩
          case measure => simp; omega
      · have q1 : decide ((97 : Int) ≤ (k : Int)) = false := by simp; omega
        have q2 : decide ((48 : Int) ≤ (k : Int)) = true := by simp; omega
        have q3 : decide ((k : Int) ≤ 57) = true := by simp; omega
        rcases hlen with hl | hl
        · have hbad := Lib.hid (hlong.out hl)
          have q9 : (14 : Int) < (cb.size : Int) + 1 := by omega
          go_wp2
          go_step3
          exact ⟨rfl, hbad, ⟨rfl, rfl, rfl⟩, _, rfl⟩
        · have hnew := Lib.hid (hok.out hl)
          have q9 : ¬ (14 : Int) < (cb.size : Int) + 1 := by omega
          go_wp2
          go_roundw
          case rel => exact ⟨pos + 1, n, cb ++ s.extract pos (pos + 1), rfl, rfl, by rw [hexs'.out]; go_num, rfl, by rw [hexs'.out]; omega, by omega, hpos1, hnew⟩
          case measure => simp; omega
      · have q1 : decide ((97 : Int) ≤ (k : Int)) = false := by simp; omega
        have q2 : decide ((48 : Int) ≤ (k : Int)) = false := by simp; omega
        have q3 : ((k : Int) == 46) = true := by simp; omega
        rcases hlen with hl | hl
        · have hbad := Lib.hid (hlong.out hl)
          have q9 : (14 : Int) < (cb.size : Int) + 1 := by omega
          go_wp2
          go_step3
          exact ⟨rfl, hbad, ⟨rfl, rfl, rfl⟩, _, rfl⟩
        · have hnew := Lib.hid (hok.out hl)
          have q9 : ¬ (14 : Int) < (cb.size : Int) + 1 := by omega
          go_wp2
          go_roundw
          case rel => exact ⟨pos + 1, n, cb ++ s.extract pos (pos + 1), rfl, rfl, by rw [hexs'.out]; go_num, rfl, by rw [hexs'.out]; omega, by omega, hpos1, hnew⟩
          case measure => simp; omega
      · have q1 : decide ((97 : Int) ≤ (k : Int)) = false := by simp; omega
        have q2 : decide ((48 : Int) ≤ (k : Int)) = true := by simp; omega
        have q3 : decide ((k : Int) ≤ 57) = false := by simp; omega
        have q4 : ((k : Int) == 46) = false := by simp; omega
        have q5 : ((k : Int) == 95) = true := by simp; omega
        rcases hlen with hl | hl
        · have hbad := Lib.hid (hlong.out hl)
          have q9 : (14 : Int) < (cb.size : Int) + 1 := by omega
          go_wp2
          go_step3
          exact ⟨rfl, hbad, ⟨rfl, rfl, rfl⟩, _, rfl⟩
        · have hnew := Lib.hid (hok.out hl)
          have q9 : ¬ (14 : Int) < (cb.size : Int) + 1 := by omega
          go_wp2
          go_roundw
          case rel => exact ⟨pos + 1, n, cb ++ s.extract pos (pos + 1), rfl, rfl, by rw [hexs'.out]; go_num, rfl, by rw [hexs'.out]; omega, by omega, hpos1, hnew⟩
          case measure => simp; omega
      · have q1 : decide ((97 : Int) ≤ (k : Int)) = false := by simp; omega
        have q2 : decide ((48 : Int) ≤ (k : Int)) = false := by simp; omega
        have q4 : ((k : Int) == 46) = false := by simp; omega
        have q5 : ((k : Int) == 95) = false := by simp; omega
        have q6 : ((k : Int) == 45) = true := by simp; omega
        rcases hlen with hl | hl
        · have hbad := Lib.hid (hlong.out hl)
          have q9 : (14 : Int) < (cb.size : Int) + 1 := by omega
          go_wp2
          go_step3
          exact ⟨rfl, hbad, ⟨rfl, rfl, rfl⟩, _, rfl⟩
        · have hnew := Lib.hid (hok.out hl)
          have q9 : ¬ (14 : Int) < (cb.size : Int) + 1 := by omega
          go_wp2
          go_roundw
          case rel => exact ⟨pos + 1, n, cb ++ s.extract pos (pos + 1), rfl, rfl, by rw [hexs'.out]; go_num, rfl, by rw [hexs'.out]; omega, by omega, hpos1, hnew⟩
          case measure => simp; omega
  · rintro a' w' ⟨hv, hF, p, rfl⟩
    obtain ⟨f, rfl⟩ := Fm.lit (m := 79) hF rfl
    simp only [lits, Nat.reduceAdd, List.cons_append, List.nil_append]
    go_wp2
    simp only [Exit.jump]
    go_ret
    exact ⟨by rw [hv.out]; rfl, (Below.refl _ _).alloc (Nat.le_refl _) _⟩
end Go.Proofs.YtioonfceamgpmaaGreatDoor

namespace Go.Proofs.YtioonfceamgpmaaGreatDoor
open Go.RowKit Go.Shelf
set_option linter.unusedVariables false
attribute [local go_sem] Oper.semAt_some

/-- The cells of a slice of ints, in a block below n₀. -/
def CellsLow (n₀ : Nat) (W : World) (A : Option Addr) (xs : List Int) : Prop := ∀ k (hk : k < xs.length), ∃ ad, A = some ad ∧ ad.block < n₀ ∧ W.cell? (ad.add k) = some (.int .i64 xs[k])
theorem CellsLow.below {n₀ : Nat} {W W' : World} {A : Option Addr} {xs : List Int} (h : CellsLow n₀ W A xs) (hb : Below n₀ W W') : CellsLow n₀ W' A xs := fun k hk => by
  obtain ⟨ad, e, hl, hc⟩ := h k hk
  refine ⟨ad, e, hl, (hb.cell (p := ad.add k) ?_).trans hc⟩
  rw [block_of_add]
  exact hl

set_option maxRecDepth 100000 in
set_option maxHeartbeats 2000000 in
theorem vals1_in (F : Fence) (n : Nat) (h7 : F.fn 34) (hro : F.round = none) (hn : 1 ≤ n) (l Bs n₀ cap : Nat) (A : Option Addr) (xs : List Int) (hreach : xs.length ≤ maxLen) (J Jx : List Int → World → Prop)
    (hY : ∀ pre x W, J pre W → pre.length < xs.length → YieldAt F (n - 1) Tryz.prog l #[.int .i64 x] W fun e W' =>
      (e = .returned (.bool true) ∧ J (pre ++ [x]) W' ∧ Below n₀ W W') ∨ (e = .returned (.bool false) ∧ Jx (pre ++ [x]) W'))
    (W : World) (hBs : W.cell? ⟨Bs, 0, none⟩ = some (.slice A xs.length cap)) (hc : CellsLow n₀ W A xs) (h0 : J [] W) :
    CallsIn F n Tryz.prog 34 #[.func (.yield l) #[] #[], .pointer (some ⟨Bs, 0, none⟩)] W fun e W' => (∃ v, e = .returned v) ∧
      ((∃ ys, ys = xs ∧ J ys W') ∨ (∃ pre, pre <+: xs ∧ Jx pre W')) := by
  unfold maxLen at hreach
  refine callsIn_of_wp Tryz.func34 rfl h7 ?_ hro
  simp only [Tryz.ntmps34, List.size_toArray, List.length_cons, List.length_nil, Nat.reduceAdd, Nat.reduceSub, Array.replicate_succ, Array.replicate_zero, List.push_toArray, List.append_toArray, List.nil_append, List.cons_append]
  have hm : (xs.length : Int) ≤ 9223372036854775807 := by omega
  gi_wp2
  gi_loopw [7] (fun i wr => ∃ k : Nat, k ≤ xs.length ∧ i = .int .i64 k ∧ J (xs.take k) wr ∧ Below n₀ W wr)
    (fun i _ => xs.length - (intOf i).toNat)
  case atStart => exact ⟨0, Nat.zero_le _, rfl, by simpa using h0, Below.refl _ _⟩
  case round =>
    obtain ⟨k, hk, rfl, hJs, hnx⟩ := hrel
    by_cases hlt : k < xs.length
    · obtain ⟨ad, rfl, hl, hcx⟩ := (hc.below hnx) k hlt
      obtain ⟨fn, tmps, assign, body, hy, hR⟩ := hY _ xs[k] wr hJs (by rw [List.length_take]; omega)
      have hb1 : (0 : Int) ≤ (k : Int) := by omega
      have hb2 : (k : Int) < (xs.length : Int) := by omega
      gi_wp2
      refine hR.mono ?_
      rintro e W3 (⟨rfl, hJ3, hk3⟩ | ⟨rfl, hJx3⟩)
      · gi_wp2
        go_roundw
        case rel => exact ⟨k + 1, by omega, by simp, by rw [List.take_add_one, List.getElem?_eq_getElem hlt]; exact hJ3, hnx.trans hk3⟩
        case measure => simp [intOf]; omega
      · gi_wp2
        refine bodyPost_ret (results_none rfl _ _ _) rfl ?_
        exact ⟨⟨_, rfl⟩, .inr ⟨_, by
          have e : xs.take k ++ [xs[k]] = xs.take (k + 1) := by rw [List.take_add_one, List.getElem?_eq_getElem hlt]; rfl
          rw [e]
          exact List.take_prefix _ _, hJx3⟩⟩
    · obtain rfl : k = xs.length := by omega
      gi_wp2
      go_end0
      exact ⟨⟨_, rfl⟩, .inl ⟨_, rfl, by rw [List.take_length] at hJs; exact hJs⟩⟩

theorem vals_stops (F : Fence) (n : Nat) (h7 : F.fn 34) (hro : F.round = none) (hn : 1 ≤ n) (Bs n₀ cap : Nat) (A : Option Addr) (xs : List Int) (hreach : xs.length ≤ maxLen) (w : World) (hBs : Bs < w.heap.size) (hn₀ : n₀ ≤ w.heap.size)
    (hc : w.cell? ⟨Bs, 0, none⟩ = some (.slice A xs.length cap)) (hI : CellsLow n₀ w A xs) :
    SeqStopsK F n Tryz.prog 34 #[.pointer (some ⟨Bs, 0, none⟩)] (fun x : Int => #[Value.int .i64 x]) (Below n₀) (fun ys => ys = xs) (fun pre => pre <+: xs) xs.length w := fun l J Jx W hW _ _ hY h0 => by
  have hc' := (hW.cell (p := ⟨Bs, 0, none⟩) hBs).trans hc
  exact vals1_in F n h7 hro hn l Bs n₀ cap A xs hreach J Jx hY W hc' (hI.below (hW.mono hn₀)) h0

theorem values_any (A : Option Addr) (n c : Nat) (w : World) :
    Calls Tryz.prog 19 #[.slice A n c] w fun e w' => e = .returned (.func (.func 34) #[] #[.pointer (some ⟨w.heap.size, 0, none⟩)]) ∧ w' = w.alloc (.cells #[.slice A n c] 33) := by
  go_enter Tryz.func19, Tryz.ntmps19
  go_wp2
  go_ret
  exact ⟨rfl, rfl⟩

set_option maxRecDepth 100000 in
set_option maxHeartbeats 2000000 in
/-- slices.AppendSeq(nil, slices.Values(xs)). -/
theorem appendSeq_in (F : Fence) (n : Nat) (h3 : F.fn 53) (h5 : F.fn 34) (hro : F.round = none) (hn : 3 ≤ n) (Bs cap : Nat) (A : Option Addr) (xs : List Int) (hlen : xs.length ≤ maxLen) (hbytes : xs.length * 8 ≤ 140737488355328) (w : World)
    (hBs : Bs < w.heap.size) (hc : w.cell? ⟨Bs, 0, none⟩ = some (.slice A xs.length cap)) (hI : CellsLow w.heap.size w A xs) :
    CallsIn F n Tryz.prog 53 #[.slice none 0 0, .func (.func 34) #[] #[.pointer (some ⟨Bs, 0, none⟩)]] w fun e W' => ∃ v, e = .returned v ∧ W'.ownsRow w.heap.size 3 1 v xs.length (xs.map (Value.int .i64)) ∧ Below w.heap.size w W' := by
  have h1 : 1 ≤ n := by omega
  obtain ⟨i0, hi, hz0, hz1, hz2⟩ := info_parts info_int
  refine callsIn_of_wp_marks Tryz.func53 rfl h3 ?_ hro
  simp only [Tryz.ntmps53, List.size_toArray, List.length_cons, List.length_nil, Nat.reduceAdd, Nat.reduceSub, Array.replicate_succ, Array.replicate_zero, List.push_toArray, List.append_toArray, List.nil_append, List.cons_append]
  gi_wp2
  have bO := Boxed.new w 33 (.slice none 0 0)
  have hB0 : Below w.heap.size w (w.alloc (.cells #[.slice none 0 0] 33)) := (Below.refl _ w).alloc (Nat.le_refl _) _
  refine wpIn_rangeFunc_ownG hro h1 (gf := 34) (lb := #[.pointer (some ⟨Bs, 0, none⟩)]) rfl h5 (enters_of Tryz.func34 (by kernel_rfl) rfl)
    (vals_stops F (n - 1) h5 hro (by omega) Bs w.heap.size cap A xs hlen _ (by simp; omega) (by simp) ((hB0.cell (p := ⟨Bs, 0, none⟩) hBs).trans hc) (hI.below hB0)) belowK_t (belowK_b (by simp)) (Below.refl _ _) (fun _ => rfl)
    (fun pre W => (∃ v, Boxed W w.heap.size 33 v ∧ W.ownsRow w.heap.size 3 1 v pre.length (pre.map (Value.int .i64)) ∧ True) ∧ Below w.heap.size w W)
    (fun _ _ _ => False)
    (OwnFrom.and (Own.from (holdsRow_own w.heap.size w.heap.size 33 3 1 (fun pre : List Int => pre.length) (fun pre => pre.map (Value.int .i64)) (fun _ _ => True)) _) (ownFrom_below (Nat.le_refl _) (by simp)))
    (fun _ _ _ _ _ hs _ _ => hs)
    ⟨⟨_, bO, World.ownsRow_nil _ _ _ _, trivial⟩, hB0⟩
    (fun x => { tmps := #[.slice none 0 0, .func (.func 34) #[] #[.pointer (some ⟨Bs, 0, none⟩)], .pointer (some ⟨w.heap.size, 0, none⟩), undef, .slice none 0 0, .int .i64 x, .func (.func 34) #[] #[.pointer (some ⟨Bs, 0, none⟩)], .int .i64 x, undef, undef, undef, undef, undef], defers := [] }) ?assign ?body ?done ?stop
  case assign =>
    intro l x W K hK
    gi_wp2
    exact hK
  case body =>
    rintro l pre x W ⟨⟨v, hv, hrow, _⟩, hB⟩ hlt
    have hcv := hv.cell
    gi_wp2_with (gi_at_builtin; refine wpListIn_append_own _ rfl _ _ 33 rfl w.heap.size 3 i0 (.int .i64 0) 1 8 Tryz.underlying33 hi hz0 hz1 hz2 rfl (by decide) _ _ _ rfl (hrow.alloc _) ⟨W.heap.size, 0, none⟩ 1 1 [.int .i64 x] rfl rfl (cell_one_new _ _ _) (by simp [Value.oneCell']) (by omega) (by omega) (by have := hB.size; simp; omega) ?_; intro v' w1 hown' hgrow _; obtain ⟨g', cap', rfl⟩ := ownsRow_succ hown'; obtain ⟨hv1, hv2, hr2, hk2, hb2⟩ := hv.appended (by decide) hrow hB.size (Nat.le_refl _) hown' hgrow; have hc1 := hv1.cell; have hf1 := hv1.frozen)
    exact ⟨hk2.from _, hb2, ⟨_, hv2, by simpa using hr2, trivial⟩, hB.trans hb2⟩
  case done =>
    rintro D ys W hD rfl ⟨⟨v, hv, hrow, _⟩, hB⟩ hK
    have hcv := hv.cell
    gi_wp2
    refine ⟨by simp, .inl ⟨_, _, rfl, run_takeDeferred hK, ?_⟩⟩
    exact ⟨_, results_tmp rfl _ _ _, v, rfl, ownsRow_putObj hrow _ hK rfl, hB.trans (belowK_b (w := w) (Nat.le_refl _) W D _ _ (by simp at hD; omega) hK rfl rfl)⟩
  case stop =>
    rintro D c pre W _ _ h _
    exact h.elim
end Go.Proofs.YtioonfceamgpmaaGreatDoor
