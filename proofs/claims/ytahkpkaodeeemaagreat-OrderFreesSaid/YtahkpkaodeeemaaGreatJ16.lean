/- Path1, ShelfT, Lent0, laid together. -/
import Derived.Test.YtahkpkaodeeemaaGreatJ15
import Derived.Test.YtahkpkaodeeemaaGreatJ7
import Derived.Laws.RangeAny
import Derived.ScopeJumps
import Derived.WalkMore
import Derived.LoopTactic
import Derived.Lib.Strings
import Derived.Lib.SmallJoins
import Derived.Shelf.SlLaysM
import Derived.Shelf.Lays
import Derived.Ground.SlgmProg
import Derived.Ground.NamesProg
import Derived.Test.YtahkpkaodeeemaaGreatProg
namespace Go.Proofs.YtahkpkaodeeemaaGreat
open Go.RowKit
set_option linter.unusedVariables false

def charOk (c : Nat) : Bool := (decide (97 ≤ c) && decide (c ≤ 122)) || (decide (48 ≤ c) && decide (c ≤ 57)) || c == 46 || c == 95 || c == 45
def dots (cur : List UInt8) : Bool := cur == [46] || cur == [46, 46]
/-- Is what is left of a path right, n names and the bytes cur of the last having been read? -/
def runV : List UInt8 → Nat → List UInt8 → Bool
  | [], n, cur => decide (0 < cur.length) && !dots cur && decide (n ≤ 6)
  | c :: cs, n, cur =>
    if c = 47 then (if cur.length = 0 ∨ dots cur = true then false else runV cs (n + 1) [])
    else if charOk c.toNat = false then false else if 14 < cur.length + 1 then false else runV cs n (cur ++ [c])
def validL (p : List UInt8) : Bool := runV p 1 []

set_option maxRecDepth 100000 in
set_option maxHeartbeats 4000000 in
theorem valid_any (s : ByteArray) (w : World) (hs : s.size ≤ 4611686018427387904) :
    Calls Tryz.prog 23 #[.string s] w fun e w' => e = .returned (.bool (validL s.data.toList)) ∧ Below w.heap.size w w' := by
  have bs : (s.size : Int) ≤ 4611686018427387904 := by omega
  go_enter Tryz.func23, Tryz.ntmps23
  go_wp2
  refine wp_scope_jumps 0 (fun a' w' => Hid (validL s.data.toList = false) ∧ Fm 80 a' [.string s] ∧ ∃ p, w' = w.iter s p) (fun _ _ => 0) rfl ?_ ?_
  · go_wp2
    go_loopw [3, 4, 5] (fun v3 v4 v5 wr => ∃ (pos n : Nat) (cb : ByteArray), wr = w.iter s pos ∧ v3 = .int .i64 n ∧ v4 = .int .i64 cb.size ∧ v5 = .string cb ∧ cb.size ≤ 14 ∧ n ≤ pos + 1 ∧ pos ≤ s.size ∧ Hid (validL s.data.toList = runV (s.data.toList.drop pos) n cb.data.toList))
      (fun _ _ _ wr => s.size - wr.iterPos w.heap.size)
    case atStart => exact ⟨0, 1, ⟨#[]⟩, rfl, rfl, rfl, rfl, by decide, by omega, by omega, rfl⟩
    case round =>
      obtain ⟨pos, n, cb, rfl, rfl, rfl, rfl, hc14, hn, hps, hv⟩ := hrel
      have b1 : (n : Int) ≤ 4611686018427387905 := by omega
      have b2 : (cb.size : Int) ≤ 14 := by omega
      have htl : cb.toList = cb.data.toList := Lib.toList_data cb
      have hsz : cb.size = cb.data.toList.length := Lib.size_eq cb
      have hss : s.size = s.data.toList.length := Lib.size_eq s
      by_cases hp : pos < s.size
      case neg =>
        have hnx : ∀ ty, (Instr.next (.pointer (some ⟨w.heap.size, 0, none⟩)) true ty).run Tryz.prog (w.iter s pos) = _ := fun ty => run_next_end w s pos ty hp
        have hv2 : Hid (validL s.data.toList = (decide (0 < cb.size) && !dots cb.toList && decide (n ≤ 6))) := by
          have h := hv.out
          rw [List.drop_eq_nil_of_le (by omega), runV] at h
          show _ = _
          rw [h, hsz, htl]
        have htl' := Lib.hid htl
        clear htl hv hsz hss
        go_wp2
        all_goals
          simp only [Exit.jump]
          go_ret
          refine ⟨?_, (Below.refl _ _).alloc (Nat.le_refl _) _⟩
          rw [hv2.out]
          have e6 : decide ((n : Int) ≤ 6) = decide (n ≤ 6) := decide_eq_decide.2 (by omega)
          congr 2
          simp [dots, *]
      obtain ⟨c, hc⟩ : ∃ c, c = s[pos]'hp := ⟨_, rfl⟩
      have hdr : s.data.toList.drop pos = c :: s.data.toList.drop (pos + 1) := by
        rw [List.drop_eq_getElem_cons (by omega), hc]
        rfl
      have hv1 := hv.out
      rw [hdr, runV] at hv1
      have hcl : c.toNat < 256 := c.toNat_lt
      by_cases hasc : c.toNat < 128
      case neg =>
        have hnx : ∀ ty, (Instr.next (.pointer (some ⟨w.heap.size, 0, none⟩)) true ty).run Tryz.prog (w.iter s pos) = _ := fun ty => run_next_any w s pos ty hp
        have hhi := (decode_high s pos hp (by rw [← hc]; omega)).1
        have hle := decode_le s pos
        have hbad : Hid (validL s.data.toList = false) := by
          show _ = _
          rw [hv1, if_neg (by intro e; rw [e] at hasc; exact hasc (by decide)), if_pos (by unfold charOk; simp; omega)]
        generalize (Utf8.decode s pos).1 = r at hnx hhi hle
        generalize (Utf8.decode s pos).2 = wd at hnx
        have q1 : ((r : Int) == 47) = false := by simp; omega
        have q2 : ((r : Int) == 46) = false := by simp; omega
        have q3 : ((r : Int) == 95) = false := by simp; omega
        have q4 : ((r : Int) == 45) = false := by simp; omega
        have q5 : decide ((r : Int) ≤ 122) = false := by simp; omega
        have q6 : decide ((r : Int) ≤ 57) = false := by simp; omega
        have q7 : (97 : Int) ≤ (r : Int) := by omega
        have q8 : (48 : Int) ≤ (r : Int) := by omega
        clear hv hv1 hdr htl hsz hss
        go_wp2
        go_step3
        exact ⟨rfl, hbad, ⟨rfl, rfl, rfl⟩, _, rfl⟩
      have hnx : ∀ ty, (Instr.next (.pointer (some ⟨w.heap.size, 0, none⟩)) true ty).run Tryz.prog (w.iter s pos) = .ok (.tuple #[.bool true, .int .i64 pos, .int .i32 (c.toNat : Nat)]) (w.iter s (pos + 1)) := fun ty => by
        rw [hc]
        exact run_next_ascii w s pos ty hp (by rw [← hc]; exact hasc)
      have hcn : (c = 47) ↔ c.toNat = 47 := by
        constructor
        · rintro rfl; rfl
        · intro h; exact UInt8.toNat_inj.1 h
      have hpos1 : pos + 1 ≤ s.size := hp
      by_cases h47 : c = 47
      case pos =>
        subst h47
        rw [if_pos rfl] at hv1
        have q47 : ((47 : Nat) : Int) = 47 := rfl
        have hnx' : ∀ ty, (Instr.next (.pointer (some ⟨w.heap.size, 0, none⟩)) true ty).run Tryz.prog (w.iter s pos) = .ok (.tuple #[.bool true, .int .i64 pos, .int .i32 47]) (w.iter s (pos + 1)) := hnx
        clear hnx hdr hcn hasc hcl hv
        by_cases h0 : cb.size = 0
        case pos =>
          have hbad : Hid (validL s.data.toList = false) := by
            show _ = _
            rw [hv1, if_pos (.inl (by omega))]
          have z0 : ((cb.size : Int) == 0) = true := beq_iff_eq.2 (by omega)
          have z1 : cb.data.toList = [] := List.eq_nil_of_length_eq_zero (by omega)
          clear hv1 htl hsz hss z1
          go_wp2
          all_goals
            go_step3
            exact ⟨rfl, hbad, ⟨rfl, rfl, rfl⟩, _, rfl⟩
        have z0 : ((cb.size : Int) == 0) = false := beq_eq_false_iff_ne.2 (by omega)
        by_cases hd : dots cb.data.toList = true
        case pos =>
          have hbad : Hid (validL s.data.toList = false) := by
            show _ = _
            rw [hv1, if_pos (.inr hd)]
          have hd2 : cb.toList = [46] ∨ cb.toList = [46, 46] := by
            rw [htl]
            simpa [dots] using hd
          clear hv1 htl hsz hss hd
          rcases hd2 with hd2 | hd2
          all_goals
            have hd3 := Lib.hid hd2
            go_wp2
            all_goals
              go_step3
              exact ⟨rfl, hbad, ⟨rfl, rfl, rfl⟩, _, rfl⟩
        have hd2 : ¬ cb.toList = [46] ∧ ¬ cb.toList = [46, 46] := by
          rw [htl]
          simpa [dots] using hd
        have hd3 : (cb.toList == [46]) = false := beq_eq_false_iff_ne.2 hd2.1
        have hd4 : (cb.toList == [46, 46]) = false := beq_eq_false_iff_ne.2 hd2.2
        clear hd2
        have hnew : Hid (validL s.data.toList = runV (s.data.toList.drop (pos + 1)) (n + 1) []) := by
          show _ = _
          rw [hv1, if_neg (by simp only [not_or]; exact ⟨by omega, hd⟩)]
        clear hv1 htl hsz hss hd
        go_wp2
        go_roundw
        case rel => exact ⟨pos + 1, n + 1, ⟨#[]⟩, rfl, by go_num, rfl, rfl, by decide, by omega, hpos1, hnew⟩
        case measure => simp; omega
      rw [if_neg h47] at hv1
      have hk47 : c.toNat ≠ 47 := fun e => h47 (hcn.2 e)
      have hext : (cb ++ s.extract pos (pos + 1)).data.toList = cb.data.toList ++ [c] := by
        rw [Go.Joins.data_append, Lib.extract_data, hdr]
        simp
      have hexs : (cb ++ s.extract pos (pos + 1)).size = cb.size + 1 := by
        rw [Lib.size_eq, hext, List.length_append, ← hsz]
        rfl
      have hext' := Lib.hid hext
      have hexs' := Lib.hid hexs
      clear hext hexs
      generalize hkk : c.toNat = k at hnx hasc hk47 hv1
      have key : k < 45 ∨ k = 45 ∨ k = 46 ∨ (48 ≤ k ∧ k ≤ 57) ∨ (58 ≤ k ∧ k ≤ 94) ∨ k = 95 ∨ k = 96 ∨ (97 ≤ k ∧ k ≤ 122) ∨ 123 ≤ k := by omega
      by_cases hco : charOk k = false
      case pos =>
        have hbad : Hid (validL s.data.toList = false) := by
          show _ = _
          rw [hv1, if_pos hco]
        have hco2 : ¬ (97 ≤ k ∧ k ≤ 122) ∧ ¬ (48 ≤ k ∧ k ≤ 57) ∧ k ≠ 46 ∧ k ≠ 95 ∧ k ≠ 45 := by
          unfold charOk at hco
          simp at hco
          omega
        have q47 : ((k : Int) == 47) = false := by simp; omega
        have q46 : ((k : Int) == 46) = false := by simp; omega
        have q95 : ((k : Int) == 95) = false := by simp; omega
        have q45 : ((k : Int) == 45) = false := by simp; omega
        clear hv hv1 hdr htl hsz hss hcn hco hkk hc
        have key2 : k < 48 ∨ (58 ≤ k ∧ k ≤ 96) ∨ 123 ≤ k := by omega
        clear key hco2
        rcases key2 with h | h | h
        · have q1 : decide ((97 : Int) ≤ (k : Int)) = false := by simp; omega
          have q2 : decide ((48 : Int) ≤ (k : Int)) = false := by simp; omega
          go_wp2
          go_step3
          exact ⟨rfl, hbad, ⟨rfl, rfl, rfl⟩, _, rfl⟩
        · have q1 : decide ((97 : Int) ≤ (k : Int)) = false := by simp; omega
          have q2 : decide ((48 : Int) ≤ (k : Int)) = true := by simp; omega
          have q3 : decide ((k : Int) ≤ 57) = false := by simp; omega
          go_wp2
          go_step3
          exact ⟨rfl, hbad, ⟨rfl, rfl, rfl⟩, _, rfl⟩
        · have q1 : decide ((97 : Int) ≤ (k : Int)) = true := by simp; omega
          have q2 : decide ((48 : Int) ≤ (k : Int)) = true := by simp; omega
          have q3 : decide ((k : Int) ≤ 57) = false := by simp; omega
          have q4 : decide ((k : Int) ≤ 122) = false := by simp; omega
          go_wp2
          go_step3
          exact ⟨rfl, hbad, ⟨rfl, rfl, rfl⟩, _, rfl⟩
      rw [if_neg hco] at hv1
      have hco2 : (97 ≤ k ∧ k ≤ 122) ∨ (48 ≤ k ∧ k ≤ 57) ∨ k = 46 ∨ k = 95 ∨ k = 45 := by
        unfold charOk at hco
        simp at hco
        omega
      have q47 : ((k : Int) == 47) = false := by simp; omega
      have hlong : Hid (14 < cb.size + 1 → validL s.data.toList = false) := fun h => by
        rw [hv1, if_pos (by omega)]
      have hok : Hid (¬ 14 < cb.size + 1 → validL s.data.toList = runV (s.data.toList.drop (pos + 1)) n (cb ++ s.extract pos (pos + 1)).data.toList) := fun h => by
        rw [hv1, if_neg (by omega), hext'.out]
      clear hv hv1 hdr htl hsz hss hcn hco hkk hc key
      have hlen : (14 < cb.size + 1) ∨ ¬ (14 < cb.size + 1) := Decidable.em _
      rcases hco2 with h | h | h | h | h
      · have q1 : decide ((97 : Int) ≤ (k : Int)) = true := by simp; omega
        have q2 : decide ((k : Int) ≤ 122) = true := by simp; omega
        rcases hlen with hl | hl
        · have hbad := Lib.hid (hlong.out hl)
          have q9 : (14 : Int) < (cb.size : Int) + 1 := by omega
          go_wp2
          go_step3
          exact ⟨rfl, hbad, ⟨rfl, rfl, rfl⟩, _, rfl⟩
        · have hnew := Lib.hid (hok.out hl)
          have q9 : ¬ (14 : Int) < (cb.size : Int) + 1 := by omega
          go_wp2
          go_roundw
          case rel => exact ⟨pos + 1, n, cb ++ s.extract pos (pos + 1), rfl, rfl, by rw [hexs'.out]; go_num, rfl, by rw [hexs'.out]; omega, by omega, hpos1, hnew⟩
          case measure => simp; omega
      · have q1 : decide ((97 : Int) ≤ (k : Int)) = false := by simp; omega
        have q2 : decide ((48 : Int) ≤ (k : Int)) = true := by simp; omega
        have q3 : decide ((k : Int) ≤ 57) = true := by simp; omega
        rcases hlen with hl | hl
        · have hbad := Lib.hid (hlong.out hl)
          have q9 : (14 : Int) < (cb.size : Int) + 1 := by omega
          go_wp2
          go_step3
          exact ⟨rfl, hbad, ⟨rfl, rfl, rfl⟩, _, rfl⟩
        · have hnew := Lib.hid (hok.out hl)
          have q9 : ¬ (14 : Int) < (cb.size : Int) + 1 := by omega
          go_wp2
          go_roundw
          case rel => exact ⟨pos + 1, n, cb ++ s.extract pos (pos + 1), rfl, rfl, by rw [hexs'.out]; go_num, rfl, by rw [hexs'.out]; omega, by omega, hpos1, hnew⟩
          case measure => simp; omega
      · have q1 : decide ((97 : Int) ≤ (k : Int)) = false := by simp; omega
        have q2 : decide ((48 : Int) ≤ (k : Int)) = false := by simp; omega
        have q3 : ((k : Int) == 46) = true := by simp; omega
        rcases hlen with hl | hl
        · have hbad := Lib.hid (hlong.out hl)
          have q9 : (14 : Int) < (cb.size : Int) + 1 := by omega
          go_wp2
          go_step3
          exact ⟨rfl, hbad, ⟨rfl, rfl, rfl⟩, _, rfl⟩
        · have hnew := Lib.hid (hok.out hl)
          have q9 : ¬ (14 : Int) < (cb.size : Int) + 1 := by omega
          go_wp2
          go_roundw
          case rel => exact ⟨pos + 1, n, cb ++ s.extract pos (pos + 1), rfl, rfl, by rw [hexs'.out]; go_num, rfl, by rw [hexs'.out]; omega, by omega, hpos1, hnew⟩
          case measure => simp; omega
      · have q1 : decide ((97 : Int) ≤ (k : Int)) = false := by simp; omega
        have q2 : decide ((48 : Int) ≤ (k : Int)) = true := by simp; omega
        have q3 : decide ((k : Int) ≤ 57) = false := by simp; omega
        have q4 : ((k : Int) == 46) = false := by simp; omega
        have q5 : ((k : Int) == 95) = true := by simp; omega
        rcases hlen with hl | hl
        · have hbad := Lib.hid (hlong.out hl)
          have q9 : (14 : Int) < (cb.size : Int) + 1 := by omega
          go_wp2
          go_step3
          exact ⟨rfl, hbad, ⟨rfl, rfl, rfl⟩, _, rfl⟩
        · have hnew := Lib.hid (hok.out hl)
          have q9 : ¬ (14 : Int) < (cb.size : Int) + 1 := by omega
          go_wp2
          go_roundw
          case rel => exact ⟨pos + 1, n, cb ++ s.extract pos (pos + 1), rfl, rfl, by rw [hexs'.out]; go_num, rfl, by rw [hexs'.out]; omega, by omega, hpos1, hnew⟩
          case measure => simp; omega
      · have q1 : decide ((97 : Int) ≤ (k : Int)) = false := by simp; omega
        have q2 : decide ((48 : Int) ≤ (k : Int)) = false := by simp; omega
        have q4 : ((k : Int) == 46) = false := by simp; omega
        have q5 : ((k : Int) == 95) = false := by simp; omega
        have q6 : ((k : Int) == 45) = true := by simp; omega
        rcases hlen with hl | hl
        · have hbad := Lib.hid (hlong.out hl)
          have q9 : (14 : Int) < (cb.size : Int) + 1 := by omega
          go_wp2
          go_step3
          exact ⟨rfl, hbad, ⟨rfl, rfl, rfl⟩, _, rfl⟩
        · have hnew := Lib.hid (hok.out hl)
          have q9 : ¬ (14 : Int) < (cb.size : Int) + 1 := by omega
          go_wp2
          go_roundw
          case rel => exact ⟨pos + 1, n, cb ++ s.extract pos (pos + 1), rfl, rfl, by rw [hexs'.out]; go_num, rfl, by rw [hexs'.out]; omega, by omega, hpos1, hnew⟩
          case measure => simp; omega
  · rintro a' w' ⟨hv, hF, p, rfl⟩
    obtain ⟨f, rfl⟩ := Fm.lit (m := 79) hF rfl
    simp only [lits, Nat.reduceAdd, List.cons_append, List.nil_append]
    go_wp2
    simp only [Exit.jump]
    go_ret
    exact ⟨by rw [hv.out]; rfl, (Below.refl _ _).alloc (Nat.le_refl _) _⟩
end Go.Proofs.YtahkpkaodeeemaaGreat

namespace Go.Proofs
open Go.Shelf
def Tryz.sortStrings_ren : Go.Shelf.Ren := ⟨fun | 6 => 59 | 8 => 49 | 9 => 98 | 19 => 76 | 20 => 77 | 21 => 115 | 22 => 116 | 23 => 117 | 24 => 118 | 25 => 119 | 26 => 120 | 27 => 121 | 28 => 122 | 29 => 123 | 36 => 126 | 31 => 101 | 32 => 102 | 37 => 127 | 38 => 128 | 39 => 129 | 41 => 130 | n => n, fun | 27 => 122 | 29 => 9 | 3 => 3 | 32 => 100 | 26 => 122 | 0 => 0 | 44 => 146 | 46 => 148 | 4 => 4 | 36 => 140 | 35 => 139 | 41 => 75 | 5 => 5 | 9 => 9 | 53 => 164 | 57 => 162 | 63 => 182 | 64 => 183 | n => n, fun | n => n⟩
theorem Tryz.sortStrings : Go.Proofs.SlLaysM.n6 Tryz.prog Tryz.sortStrings_ren := {
  mixed := by kernel_rfl
  f6 := ⟨Tryz.f59.name, by decide, Tryz.func59.trans (congrArg some (by kernel_rfl))⟩
  f8 := Tryz.func49.trans (congrArg some (by kernel_rfl))
  f9 := ⟨Tryz.f98.name, by decide, Tryz.func98.trans (congrArg some (by kernel_rfl))⟩
  f19 := Tryz.func76.trans (congrArg some (by kernel_rfl))
  f20 := Tryz.func77.trans (congrArg some (by kernel_rfl))
  f21 := ⟨Tryz.f115.name, by decide, Tryz.func115.trans (congrArg some (by kernel_rfl))⟩
  f22 := ⟨Tryz.f116.name, by decide, Tryz.func116.trans (congrArg some (by kernel_rfl))⟩
  f23 := ⟨Tryz.f117.name, by decide, Tryz.func117.trans (congrArg some (by kernel_rfl))⟩
  f24 := ⟨Tryz.f118.name, by decide, Tryz.func118.trans (congrArg some (by kernel_rfl))⟩
  f25 := ⟨Tryz.f119.name, by decide, Tryz.func119.trans (congrArg some (by kernel_rfl))⟩
  f26 := ⟨Tryz.f120.name, by decide, Tryz.func120.trans (congrArg some (by kernel_rfl))⟩
  f27 := ⟨Tryz.f121.name, by decide, Tryz.func121.trans (congrArg some (by kernel_rfl))⟩
  f28 := ⟨Tryz.f122.name, by decide, Tryz.func122.trans (congrArg some (by kernel_rfl))⟩
  f29 := ⟨Tryz.f123.name, by decide, Tryz.func123.trans (congrArg some (by kernel_rfl))⟩
  f31 := Tryz.func101.trans (congrArg some (by kernel_rfl))
  f32 := Tryz.func102.trans (congrArg some (by kernel_rfl))
  f36 := ⟨Tryz.f126.name, by decide, Tryz.func126.trans (congrArg some (by kernel_rfl))⟩
  f37 := ⟨Tryz.f127.name, by decide, Tryz.func127.trans (congrArg some (by kernel_rfl))⟩
  f38 := ⟨Tryz.f128.name, by decide, Tryz.func128.trans (congrArg some (by kernel_rfl))⟩
  f39 := ⟨Tryz.f129.name, by decide, Tryz.func129.trans (congrArg some (by kernel_rfl))⟩
  f41 := ⟨Tryz.f130.name, by decide, Tryz.func130.trans (congrArg some (by kernel_rfl))⟩
  t0 := Tryz.underlying0
  a0 := Tryz.isAgg0
  z0 := Tryz.sizeOf0
  v0 := Tryz.zeroValue0
  t3 := Tryz.underlying3
  a3 := Tryz.isAgg3
  z3 := Tryz.sizeOf3
  v3 := Tryz.zeroValue3
  t4 := Tryz.underlying4
  a4 := Tryz.isAgg4
  z4 := Tryz.sizeOf4
  v4 := Tryz.zeroValue4
  t5 := Tryz.underlying5
  a5 := Tryz.isAgg5
  z5 := Tryz.sizeOf5
  v5 := Tryz.zeroValue5
  t9 := Tryz.underlying9
  a9 := Tryz.isAgg9
  z9 := Tryz.sizeOf9
  v9 := Tryz.zeroValue9
  t26 := Tryz.underlying122
  a26 := Tryz.isAgg122
  z26 := Tryz.sizeOf122
  v26 := Tryz.zeroValue122
  t27 := Tryz.underlying122
  a27 := Tryz.isAgg122
  z27 := Tryz.sizeOf122
  v27 := Tryz.zeroValue122
  t29 := Tryz.underlying9
  a29 := Tryz.isAgg9
  z29 := Tryz.sizeOf9
  v29 := Tryz.zeroValue9
  t32 := Tryz.underlying100
  a32 := Tryz.isAgg100
  z32 := Tryz.sizeOf100
  v32 := Tryz.zeroValue100
  t35 := Tryz.underlying139
  a35 := Tryz.isAgg139
  z35 := Tryz.sizeOf139
  v35 := Tryz.zeroValue139
  t36 := Tryz.underlying140
  a36 := Tryz.isAgg140
  z36 := Tryz.sizeOf140
  v36 := Tryz.zeroValue140
  t41 := Tryz.underlying75
  a41 := Tryz.isAgg75
  z41 := Tryz.sizeOf75
  v41 := Tryz.zeroValue75
  t44 := Tryz.underlying146
  a44 := Tryz.isAgg146
  z44 := Tryz.sizeOf146
  v44 := Tryz.zeroValue146
  t46 := Tryz.underlying148
  a46 := Tryz.isAgg148
  z46 := Tryz.sizeOf148
  v46 := Tryz.zeroValue148
  t53 := Tryz.underlying164
  a53 := Tryz.isAgg164
  z53 := Tryz.sizeOf164
  v53 := Tryz.zeroValue164
  t57 := Tryz.underlying162
  a57 := Tryz.isAgg162
  z57 := Tryz.sizeOf162
  v57 := Tryz.zeroValue162
  t63 := Tryz.underlying182
  a63 := Tryz.isAgg182
  z63 := Tryz.sizeOf182
  v63 := Tryz.zeroValue182
  t64 := Tryz.underlying183
  a64 := Tryz.isAgg183
  z64 := Tryz.sizeOf183
  v64 := Tryz.zeroValue183 }
def Tryz.lastIndexByte_ren : Go.Shelf.Ren := ⟨fun | 149 => 44 | 222 => 62 | n => n, fun | 9 => 9 | 5 => 5 | 3 => 3 | 4 => 4 | n => n, fun | n => n⟩
theorem Tryz.lastIndexByte : Go.Proofs.Lays.n149 Tryz.prog Tryz.lastIndexByte_ren := {
  mixed := by kernel_rfl
  f149 := Tryz.func44.trans (congrArg some (by kernel_rfl))
  f222 := Tryz.func62.trans (congrArg some (by kernel_rfl))
  t3 := Tryz.underlying3
  a3 := Tryz.isAgg3
  z3 := Tryz.sizeOf3
  v3 := Tryz.zeroValue3
  t4 := Tryz.underlying4
  a4 := Tryz.isAgg4
  z4 := Tryz.sizeOf4
  v4 := Tryz.zeroValue4
  t5 := Tryz.underlying5
  a5 := Tryz.isAgg5
  z5 := Tryz.sizeOf5
  v5 := Tryz.zeroValue5
  t9 := Tryz.underlying9
  a9 := Tryz.isAgg9
  z9 := Tryz.sizeOf9
  v9 := Tryz.zeroValue9 }
end Go.Proofs

namespace Go.Proofs.YtahkpkaodeeemaaGreat
open Go.RowKit
set_option linter.unusedVariables false

/-- A slice value with one place more. -/
def more : Value → Value
  | .slice A n c => .slice A (n + 1) c
  | v => v
theorem more_form {v : Value} {A : Option Addr} {n c : Nat} (h : more v = .slice A (n + 1) c) : v = .slice A n c := by
  cases v <;> simp [more] at h
  obtain ⟨rfl, rfl, rfl⟩ := h
  rfl
theorem Rd.fst {w : World} {sz n m c : Nat} {A : Option Addr} {cs ds : List Value} (h : Rd w sz (.slice A (n + m) c) (n + m) (cs ++ ds)) (hl : cs.length = n * sz) : Rd w sz (.slice A n c) n cs := by
  obtain ⟨_, A', c', e, h1, h2, h3⟩ := h
  cases e
  refine ⟨hl, A, c, rfl, by omega, h2, fun hn => ?_⟩
  obtain ⟨ad, e, hb, hc⟩ := h3 (by omega)
  refine ⟨ad, e, hb, fun j u hu => hc j u ?_⟩
  rw [List.getElem?_append_left (by rcases List.getElem?_eq_some_iff.1 hu with ⟨h, _⟩; exact h)]
  exact hu

theorem Rd.news {w : World} {sz n c : Nat} {ad : Addr} {cs : List Value} (h : Rd w sz (.slice (some ad) n c) n cs) : ∀ j u, cs[j]? = some u → w.cell? (ad.add j) = some u := by
  obtain ⟨hl, A, c', e, _, _, h3⟩ := h
  cases e
  intro j u hu
  have hn : 0 < n := by
    rcases Nat.eq_zero_or_pos n with h0 | h0
    · subst h0
      rw [Nat.zero_mul] at hl
      rw [List.eq_nil_of_length_eq_zero hl] at hu
      simp at hu
    · exact h0
  obtain ⟨ad', e, _, hc⟩ := h3 hn
  cases e
  exact hc j u hu

section
variable {w0 w : World} {As R : List Asn}
theorem Sep.lit (h : Sep w0 w As) (e : TypeId) (cs : Array Value) (hm : cs.size ≤ maxLen) : Sep w0 (w.alloc (.cells cs e)) (.sl e 1 (.slice (some ⟨w.heap.size, 0, none⟩) cs.size cs.size) cs.size cs.toList :: As) := by
  have hown := World.ownsRow_lit (base := 0) (e := e) (size := 1) w cs cs.size (Nat.zero_le _) hm (by omega)
  exact h.new (F := [w.heap.size]) ((Below.refl _ _).alloc (Nat.le_refl _) _) ⟨hown, rfl⟩ (by simp)
end

end Go.Proofs.YtahkpkaodeeemaaGreat
