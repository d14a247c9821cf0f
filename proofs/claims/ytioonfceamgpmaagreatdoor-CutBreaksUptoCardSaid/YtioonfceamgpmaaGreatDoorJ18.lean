/- Shelf15, Path2, laid together. -/
import Derived.Shelf.SlLaysM
import Derived.Shelf.Lays2
import Derived.Shelf.Lays
import Derived.Ground.SlgmProg
import Derived.Ground.Names2Prog
import Derived.Ground.NamesProg
import Derived.Test.YtioonfceamgpmaaGreatDoorProg
import Derived.Test.YtioonfceamgpmaaGreatDoorJ17
import Derived.Shelf.Strings.Prefix
import Derived.Shelf.Small.Strs
import Derived.Shelf.Strconv.Itoa3
namespace Go.Proofs
open Go.Shelf
def Tryz.sortInts_ren : Go.Shelf.Ren := ⟨fun | 5 => 33 | 8 => 55 | 7 => 54 | 19 => 75 | 20 => 76 | 10 => 66 | 11 => 67 | 12 => 68 | 13 => 69 | 14 => 70 | 15 => 71 | 16 => 72 | 17 => 73 | 18 => 74 | 30 => 90 | 31 => 91 | 32 => 92 | 33 => 93 | 34 => 94 | 35 => 95 | 40 => 101 | n => n, fun | 23 => 33 | 25 => 3 | 3 => 3 | 32 => 91 | 22 => 33 | 0 => 0 | 44 => 113 | 46 => 115 | 4 => 4 | 36 => 105 | 35 => 104 | 41 => 110 | 5 => 5 | 9 => 9 | 53 => 123 | 57 => 101 | 63 => 131 | 64 => 132 | n => n, fun | n => n⟩
theorem Tryz.sortInts : Go.Proofs.SlLaysM.n5 Tryz.prog Tryz.sortInts_ren := {
  mixed := by kernel_rfl
  f5 := ⟨Tryz.f33.name, by decide, Tryz.func33.trans (congrArg some (by kernel_rfl))⟩
  f7 := ⟨Tryz.f54.name, by decide, Tryz.func54.trans (congrArg some (by kernel_rfl))⟩
  f8 := Tryz.func55.trans (congrArg some (by kernel_rfl))
  f10 := ⟨Tryz.f66.name, by decide, Tryz.func66.trans (congrArg some (by kernel_rfl))⟩
  f11 := ⟨Tryz.f67.name, by decide, Tryz.func67.trans (congrArg some (by kernel_rfl))⟩
  f12 := ⟨Tryz.f68.name, by decide, Tryz.func68.trans (congrArg some (by kernel_rfl))⟩
  f13 := ⟨Tryz.f69.name, by decide, Tryz.func69.trans (congrArg some (by kernel_rfl))⟩
  f14 := ⟨Tryz.f70.name, by decide, Tryz.func70.trans (congrArg some (by kernel_rfl))⟩
  f15 := ⟨Tryz.f71.name, by decide, Tryz.func71.trans (congrArg some (by kernel_rfl))⟩
  f16 := ⟨Tryz.f72.name, by decide, Tryz.func72.trans (congrArg some (by kernel_rfl))⟩
  f17 := ⟨Tryz.f73.name, by decide, Tryz.func73.trans (congrArg some (by kernel_rfl))⟩
  f18 := ⟨Tryz.f74.name, by decide, Tryz.func74.trans (congrArg some (by kernel_rfl))⟩
  f19 := Tryz.func75.trans (congrArg some (by kernel_rfl))
  f20 := Tryz.func76.trans (congrArg some (by kernel_rfl))
  f30 := ⟨Tryz.f90.name, by decide, Tryz.func90.trans (congrArg some (by kernel_rfl))⟩
  f31 := Tryz.func91.trans (congrArg some (by kernel_rfl))
  f32 := Tryz.func92.trans (congrArg some (by kernel_rfl))
  f33 := ⟨Tryz.f93.name, by decide, Tryz.func93.trans (congrArg some (by kernel_rfl))⟩
  f34 := ⟨Tryz.f94.name, by decide, Tryz.func94.trans (congrArg some (by kernel_rfl))⟩
  f35 := ⟨Tryz.f95.name, by decide, Tryz.func95.trans (congrArg some (by kernel_rfl))⟩
  f40 := ⟨Tryz.f101.name, by decide, Tryz.func101.trans (congrArg some (by kernel_rfl))⟩
  t0 := Tryz.underlying0
  a0 := Tryz.isAgg0
  z0 := Tryz.sizeOf0
  v0 := Tryz.zeroValue0
  t3 := Tryz.underlying3
  a3 := Tryz.isAgg3
  z3 := Tryz.sizeOf3
  v3 := Tryz.zeroValue3
  t4 := Tryz.underlying4
  a4 := Tryz.isAgg4
  z4 := Tryz.sizeOf4
  v4 := Tryz.zeroValue4
  t5 := Tryz.underlying5
  a5 := Tryz.isAgg5
  z5 := Tryz.sizeOf5
  v5 := Tryz.zeroValue5
  t9 := Tryz.underlying9
  a9 := Tryz.isAgg9
  z9 := Tryz.sizeOf9
  v9 := Tryz.zeroValue9
  t22 := Tryz.underlying33
  a22 := Tryz.isAgg33
  z22 := Tryz.sizeOf33
  v22 := Tryz.zeroValue33
  t23 := Tryz.underlying33
  a23 := Tryz.isAgg33
  z23 := Tryz.sizeOf33
  v23 := Tryz.zeroValue33
  t25 := Tryz.underlying3
  a25 := Tryz.isAgg3
  z25 := Tryz.sizeOf3
  v25 := Tryz.zeroValue3
  t32 := Tryz.underlying91
  a32 := Tryz.isAgg91
  z32 := Tryz.sizeOf91
  v32 := Tryz.zeroValue91
  t35 := Tryz.underlying104
  a35 := Tryz.isAgg104
  z35 := Tryz.sizeOf104
  v35 := Tryz.zeroValue104
  t36 := Tryz.underlying105
  a36 := Tryz.isAgg105
  z36 := Tryz.sizeOf105
  v36 := Tryz.zeroValue105
  t41 := Tryz.underlying110
  a41 := Tryz.isAgg110
  z41 := Tryz.sizeOf110
  v41 := Tryz.zeroValue110
  t44 := Tryz.underlying113
  a44 := Tryz.isAgg113
  z44 := Tryz.sizeOf113
  v44 := Tryz.zeroValue113
  t46 := Tryz.underlying115
  a46 := Tryz.isAgg115
  z46 := Tryz.sizeOf115
  v46 := Tryz.zeroValue115
  t53 := Tryz.underlying123
  a53 := Tryz.isAgg123
  z53 := Tryz.sizeOf123
  v53 := Tryz.zeroValue123
  t57 := Tryz.underlying101
  a57 := Tryz.isAgg101
  z57 := Tryz.sizeOf101
  v57 := Tryz.zeroValue101
  t63 := Tryz.underlying131
  a63 := Tryz.isAgg131
  z63 := Tryz.sizeOf131
  v63 := Tryz.zeroValue131
  t64 := Tryz.underlying132
  a64 := Tryz.isAgg132
  z64 := Tryz.sizeOf132
  v64 := Tryz.zeroValue132 }
def Tryz.compactInts_ren : Go.Shelf.Ren := ⟨fun | 20 => 17 | n => n, fun | 22 => 33 | 3 => 3 | 4 => 4 | 0 => 0 | n => n, fun | n => n⟩
theorem Tryz.compactInts : Go.Proofs.Lays2.n20 Tryz.prog Tryz.compactInts_ren := {
  mixed := by kernel_rfl
  f20 := Tryz.func17.trans (congrArg some (by kernel_rfl))
  t0 := Tryz.underlying0
  a0 := Tryz.isAgg0
  z0 := Tryz.sizeOf0
  v0 := Tryz.zeroValue0
  t3 := Tryz.underlying3
  a3 := Tryz.isAgg3
  z3 := Tryz.sizeOf3
  v3 := Tryz.zeroValue3
  t4 := Tryz.underlying4
  a4 := Tryz.isAgg4
  z4 := Tryz.sizeOf4
  v4 := Tryz.zeroValue4
  t22 := Tryz.underlying33
  a22 := Tryz.isAgg33
  z22 := Tryz.sizeOf33
  v22 := Tryz.zeroValue33
  i3 := by kernel_rfl }
def Tryz.hasPrefix_ren : Go.Shelf.Ren := ⟨fun | 99 => 60 | 206 => 87 | n => n, fun | 9 => 9 | 4 => 4 | 3 => 3 | n => n, fun | n => n⟩
theorem Tryz.hasPrefix : Go.Proofs.Lays.n99 Tryz.prog Tryz.hasPrefix_ren := {
  mixed := by kernel_rfl
  f99 := Tryz.func60.trans (congrArg some (by kernel_rfl))
  f206 := Tryz.func87.trans (congrArg some (by kernel_rfl))
  t3 := Tryz.underlying3
  a3 := Tryz.isAgg3
  z3 := Tryz.sizeOf3
  v3 := Tryz.zeroValue3
  t4 := Tryz.underlying4
  a4 := Tryz.isAgg4
  z4 := Tryz.sizeOf4
  v4 := Tryz.zeroValue4
  t9 := Tryz.underlying9
  a9 := Tryz.isAgg9
  z9 := Tryz.sizeOf9
  v9 := Tryz.zeroValue9 }
def Tryz.indexByte_ren : Go.Shelf.Ren := ⟨fun | 137 => 86 | 217 => 99 | 266 => 103 | n => n, fun | 9 => 9 | 5 => 5 | 3 => 3 | n => n, fun | n => n⟩
theorem Tryz.indexByte : Go.Proofs.Lays.n137 Tryz.prog Tryz.indexByte_ren := {
  mixed := by kernel_rfl
  f137 := Tryz.func86.trans (congrArg some (by kernel_rfl))
  f217 := Tryz.func99.trans (congrArg some (by kernel_rfl))
  f266 := Tryz.func103.trans (congrArg some (by kernel_rfl))
  t3 := Tryz.underlying3
  a3 := Tryz.isAgg3
  z3 := Tryz.sizeOf3
  v3 := Tryz.zeroValue3
  t5 := Tryz.underlying5
  a5 := Tryz.isAgg5
  z5 := Tryz.sizeOf5
  v5 := Tryz.zeroValue5
  t9 := Tryz.underlying9
  a9 := Tryz.isAgg9
  z9 := Tryz.sizeOf9
  v9 := Tryz.zeroValue9 }
def Tryz.itoaSmall_ren : Go.Shelf.Ren := ⟨fun | 171 => 61 | 243 => 88 | 246 => 100 | 283 => 104 | 284 => 105 | 285 => 106 | 286 => 107 | 129 => 76 | 317 => 108 | 318 => 109 | 319 => 110 | 320 => 111 | 337 => 112 | 338 => 113 | n => n, fun | 3 => 3 | 9 => 9 | 2 => 2 | 4 => 4 | 171 => 135 | 0 => 0 | 53 => 115 | 37 => 137 | 5 => 5 | 173 => 138 | 212 => 142 | 51 => 113 | 20 => 20 | 213 => 143 | 46 => 91 | 232 => 144 | 233 => 145 | n => n, fun | 17 => 1 | 18 => 2 | 19 => 3 | n => n⟩
theorem Tryz.itoaSmall : Go.Proofs.Lays.n171 Tryz.prog Tryz.itoaSmall_ren := {
  mixed := by kernel_rfl
  f129 := Tryz.func76.trans (congrArg some (by kernel_rfl))
  f171 := Tryz.func61.trans (congrArg some (by kernel_rfl))
  f243 := Tryz.func88.trans (congrArg some (by kernel_rfl))
  f246 := Tryz.func100.trans (congrArg some (by kernel_rfl))
  f283 := Tryz.func104.trans (congrArg some (by kernel_rfl))
  f284 := Tryz.func105.trans (congrArg some (by kernel_rfl))
  f285 := Tryz.func106.trans (congrArg some (by kernel_rfl))
  f286 := Tryz.func107.trans (congrArg some (by kernel_rfl))
  f317 := Tryz.func108.trans (congrArg some (by kernel_rfl))
  f318 := Tryz.func109.trans (congrArg some (by kernel_rfl))
  f319 := Tryz.func110.trans (congrArg some (by kernel_rfl))
  f320 := Tryz.func111.trans (congrArg some (by kernel_rfl))
  f337 := Tryz.func112.trans (congrArg some (by kernel_rfl))
  f338 := Tryz.func113.trans (congrArg some (by kernel_rfl))
  t0 := Tryz.underlying0
  a0 := Tryz.isAgg0
  z0 := Tryz.sizeOf0
  v0 := Tryz.zeroValue0
  t2 := Tryz.underlying2
  a2 := Tryz.isAgg2
  z2 := Tryz.sizeOf2
  v2 := Tryz.zeroValue2
  t3 := Tryz.underlying3
  a3 := Tryz.isAgg3
  z3 := Tryz.sizeOf3
  v3 := Tryz.zeroValue3
  t4 := Tryz.underlying4
  a4 := Tryz.isAgg4
  z4 := Tryz.sizeOf4
  v4 := Tryz.zeroValue4
  t5 := Tryz.underlying5
  a5 := Tryz.isAgg5
  z5 := Tryz.sizeOf5
  v5 := Tryz.zeroValue5
  t9 := Tryz.underlying9
  a9 := Tryz.isAgg9
  z9 := Tryz.sizeOf9
  v9 := Tryz.zeroValue9
  t20 := Tryz.underlying20
  a20 := Tryz.isAgg20
  z20 := Tryz.sizeOf20
  v20 := Tryz.zeroValue20
  t37 := Tryz.underlying137
  a37 := Tryz.isAgg137
  z37 := Tryz.sizeOf137
  v37 := Tryz.zeroValue137
  t46 := Tryz.underlying91
  a46 := Tryz.isAgg91
  z46 := Tryz.sizeOf91
  v46 := Tryz.zeroValue91
  t51 := Tryz.underlying113
  a51 := Tryz.isAgg113
  z51 := Tryz.sizeOf113
  v51 := Tryz.zeroValue113
  t53 := Tryz.underlying115
  a53 := Tryz.isAgg115
  z53 := Tryz.sizeOf115
  v53 := Tryz.zeroValue115
  t171 := Tryz.underlying135
  a171 := Tryz.isAgg135
  z171 := Tryz.sizeOf135
  v171 := Tryz.zeroValue135
  t173 := Tryz.underlying138
  a173 := Tryz.isAgg138
  z173 := Tryz.sizeOf138
  v173 := Tryz.zeroValue138
  t212 := Tryz.underlying142
  a212 := Tryz.isAgg142
  z212 := Tryz.sizeOf142
  v212 := Tryz.zeroValue142
  t213 := Tryz.underlying143
  a213 := Tryz.isAgg143
  z213 := Tryz.sizeOf143
  t232 := Tryz.underlying144
  a232 := Tryz.isAgg144
  z232 := Tryz.sizeOf144
  v232 := Tryz.zeroValue144
  t233 := Tryz.underlying145
  a233 := Tryz.isAgg145
  z233 := Tryz.sizeOf145
  v233 := Tryz.zeroValue145
  g17 := by kernel_rfl
  g18 := by kernel_rfl
  g19 := by kernel_rfl }
end Go.Proofs

namespace Go.Proofs.YtioonfceamgpmaaGreatDoor
open Go.RowKit Go.Shelf
set_option linter.unusedVariables false
attribute [local go_sem] Oper.semAt_some

/-- The parts between slashes. -/
def splitB : List UInt8 → List (List UInt8)
  | [] => [[]]
  | c :: l => if c = 47 then [] :: splitB l else match splitB l with
    | [] => [[c]]
    | h :: t => (c :: h) :: t
theorem splitB_cons (c : UInt8) (l : List UInt8) : splitB (c :: l) = if c = 47 then [] :: splitB l else match splitB l with
    | [] => [[c]]
    | h :: t => (c :: h) :: t := rfl
theorem splitB_ne (l : List UInt8) : splitB l ≠ [] := by
  cases l with
  | nil => simp [splitB]
  | cons c l =>
    unfold splitB
    split
    · simp
    · split <;> simp
theorem splitB_none {l : List UInt8} (h : (47 : UInt8) ∉ l) : splitB l = [l] := by
  induction l with
  | nil => rfl
  | cons c l ih =>
    have h1 : c ≠ 47 := fun e => h (by simp [e])
    have h2 : (47 : UInt8) ∉ l := fun e => h (List.mem_cons_of_mem _ e)
    unfold splitB
    rw [if_neg h1, ih h2]
theorem splitB_some {a b : List UInt8} (h : (47 : UInt8) ∉ a) : splitB (a ++ 47 :: b) = a :: splitB b := by
  induction a with
  | nil => rfl
  | cons c a ih =>
    have h1 : c ≠ 47 := fun e => h (by simp [e])
    have h2 : (47 : UInt8) ∉ a := fun e => h (List.mem_cons_of_mem _ e)
    rw [List.cons_append, splitB_cons, if_neg h1, ih h2]
theorem index_cases (l : List UInt8) : ((47 : UInt8) ∉ l ∧ Lib.indexByte l 47 = -1) ∨ ∃ a b, l = a ++ 47 :: b ∧ (47 : UInt8) ∉ a ∧ Lib.indexByte l 47 = (a.length : Int) := by
  induction l with
  | nil => exact .inl ⟨by simp, rfl⟩
  | cons c l ih =>
    by_cases e : c = 47
    · subst e
      exact .inr ⟨[], l, rfl, by simp, by simp [Lib.indexByte]⟩
    · have e' : (c == 47) = false := beq_eq_false_iff_ne.2 e
      rcases ih with ⟨h1, h2⟩ | ⟨a, b, rfl, h1, h2⟩
      · refine .inl ⟨fun h => ?_, by simp [Lib.indexByte, e, h2]⟩
        rcases List.mem_cons.1 h with h | h
        · exact e h.symm
        · exact h1 h
      · refine .inr ⟨c :: a, b, rfl, fun h => ?_, ?_⟩
        · rcases List.mem_cons.1 h with h | h
          · exact e h.symm
          · exact h1 h
        · have hne : ((a.length : Int) == -1) = false := beq_eq_false_iff_ne.2 (by omega)
          unfold Lib.indexByte
          rw [e', h2, hne]
          simp
def nm (x : Nat × ByteArray) : List UInt8 := x.2.data.toList

set_option maxRecDepth 100000 in
set_option maxHeartbeats 2000000 in
theorem each1_in (F : Fence) (n : Nat) (h7 : F.fn 85) (h65 : F.fn 86) (hix : ∀ (s : ByteArray) W, CallsIn F (n - 1) Tryz.prog 86 #[.string s, .int .u8 47] W fun e w' => e = .returned (.int .i64 (Lib.indexByte s.data.toList 47)) ∧ w' = W) (hro : F.round = none) (hn : 1 ≤ n) (l Bs n₀ : Nat) (p : ByteArray) (hs : p.size ≤ 4611686018427387904) (J Jx : List (Nat × ByteArray) → World → Prop)
    (hY : ∀ pre x W, J pre W → pre.length < (splitB p.data.toList).length → YieldAt F (n - 1) Tryz.prog l #[.int .i64 (x.1 : Int), .string x.2] W fun e W' =>
      (e = .returned (.bool true) ∧ J (pre ++ [x]) W' ∧ Below n₀ W W') ∨ (e = .returned (.bool false) ∧ Jx (pre ++ [x]) W'))
    (W : World) (hb : Bs < n₀) (hBs : W.cell? ⟨Bs, 0, none⟩ = some (.string p)) (h0 : J [] W) :
    CallsIn F n Tryz.prog 85 #[.func (.yield l) #[] #[], .pointer (some ⟨Bs, 0, none⟩)] W fun e W' => (∃ v, e = .returned v) ∧
      ((∃ ys : List (Nat × ByteArray), ys.map nm = splitB p.data.toList ∧ J ys W') ∨ (∃ pre : List (Nat × ByteArray), (∃ rest, pre.map nm ++ rest = splitB p.data.toList) ∧ Jx pre W')) := by
  have hsz : p.size = p.data.toList.length := Lib.size_eq p
  have bs : (p.size : Int) ≤ 4611686018427387904 := by omega
  refine callsIn_of_wp Tryz.func85 rfl h7 ?_ hro
  simp only [Tryz.ntmps85, List.size_toArray, List.length_cons, List.length_nil, Nat.reduceAdd, Nat.reduceSub, Array.replicate_succ, Array.replicate_zero, List.push_toArray, List.append_toArray, List.nil_append, List.cons_append]
  gi_wp2
  gi_loopw [3] (fun i wr => ∃ (from_ : Nat) (pre : List (Nat × ByteArray)), i = .int .i64 from_ ∧ J pre wr ∧ Below n₀ W wr ∧ ((from_ ≤ p.size ∧ pre.map nm ++ splitB (p.data.toList.drop from_) = splitB p.data.toList) ∨ (from_ = p.size + 1 ∧ pre.map nm = splitB p.data.toList)))
    (fun i _ => p.size + 1 - (intOf i).toNat)
  case atStart => exact ⟨0, [], rfl, h0, Below.refl _ _, .inl ⟨Nat.zero_le _, by simp⟩⟩
  case round =>
    obtain ⟨from_, pre, rfl, hJs, hnx, hst⟩ := hrel
    have hcx : wr.cell? ⟨Bs, 0, none⟩ = some (.string p) := (hnx.cell (p := ⟨Bs, 0, none⟩) hb).trans hBs
    rcases hst with ⟨hle, hsp⟩ | ⟨hgt, hsp⟩
    case inr =>
      have q1 : ¬ (from_ : Int) ≤ (p.size : Int) := by omega
      have q2 : (p.size : Int) < (from_ : Int) := by omega
      clear hgt hsz
      gi_wp2
      go_end0
      exact ⟨⟨_, rfl⟩, .inl ⟨_, hsp, hJs⟩⟩
    have q1 : (from_ : Int) ≤ (p.size : Int) := by omega
    have q0 : (0 : Int) ≤ (from_ : Int) := by omega
    have hpl : pre.length < (splitB p.data.toList).length := by
      rw [← hsp, List.length_append, List.length_map]
      have := List.length_pos_iff.2 (splitB_ne (p.data.toList.drop from_))
      omega
    have hix := fun W => hix (p.extract from_ p.size) W
    have hex : (p.extract from_ p.size).data.toList = p.data.toList.drop from_ := by
      rw [Lib.extract_data, List.take_of_length_le (by rw [List.length_drop]; omega)]
    rw [hex] at hix
    rcases index_cases (p.data.toList.drop from_) with ⟨hno, hval⟩ | ⟨a, b, hab, hno, hval⟩
    · rw [hval] at hix
      have hnm : nm (p.size, p.extract from_ p.size) = p.data.toList.drop from_ := hex
      have hend : (pre ++ [(p.size, p.extract from_ p.size)]).map nm = splitB p.data.toList := by
        rw [List.map_append, ← hsp, splitB_none hno, List.map_cons, List.map_nil, hnm]
      obtain ⟨fn, tmps, assign, body, hy, hR⟩ := hY pre (p.size, p.extract from_ p.size) wr hJs hpl
      dsimp only at hy
      have hend' := Lib.hid hend
      clear hend hnm hsp hex hno hval hsz
      gi_wp2_with (gi_at_call 86; refine (hix _).mono ?_; rintro e w' ⟨rfl, rfl⟩)
      refine hR.mono ?_
      rintro e W3 (⟨rfl, hJ3, hk3⟩ | ⟨rfl, hJx3⟩)
      · gi_wp2
        go_roundw
        case rel => exact ⟨p.size + 1, _, by simp, hJ3, hnx.trans hk3, .inr ⟨rfl, hend'⟩⟩
        case measure => simp [intOf]; omega
      · gi_wp2
        refine bodyPost_ret (results_none rfl _ _ _) rfl ?_
        exact ⟨⟨_, rfl⟩, .inr ⟨_, ⟨[], (List.append_nil _).trans hend'⟩, hJx3⟩⟩
    · rw [hval] at hix
      have hal : a.length < p.data.toList.length - from_ := by
        rw [← List.length_drop, hab, List.length_append, List.length_cons]; omega
      have q3 : (from_ : Int) + (a.length : Int) < (p.size : Int) := by omega
      have q4 : (0 : Int) ≤ (a.length : Int) := by omega
      have q5 : (from_ : Int) ≤ (from_ : Int) + (a.length : Int) := by omega
      have hex2 : nm (from_ + a.length, p.extract from_ (from_ + a.length)) = a := by
        show (p.extract from_ (from_ + a.length)).data.toList = a
        rw [Lib.extract_data, Nat.add_sub_cancel_left, hab, List.take_left']
        rfl
      have hb' : p.data.toList.drop (from_ + a.length + 1) = b := by
        rw [Nat.add_assoc, ← List.drop_drop, hab, ← List.drop_drop]
        simp
      have hnext : (pre ++ [(from_ + a.length, p.extract from_ (from_ + a.length))]).map nm ++ splitB (p.data.toList.drop (from_ + a.length + 1)) = splitB p.data.toList := by
        rw [List.map_append, List.map_cons, List.map_nil, hex2, hb', ← hsp, hab, splitB_some hno, List.append_assoc]
        rfl
      obtain ⟨fn, tmps, assign, body, hy, hR⟩ := hY pre (from_ + a.length, p.extract from_ (from_ + a.length)) wr hJs hpl
      simp only [Int.natCast_add] at hy
      have hnext' := Lib.hid hnext
      have hal' := Lib.hid hal
      clear hnext hal hsp hex hno hval hex2 hb' hab hsz hpl
      gi_wp2_with (gi_at_call 86; refine (hix _).mono ?_; rintro e w' ⟨rfl, rfl⟩)
      refine hR.mono ?_
      rintro e W3 (⟨rfl, hJ3, hk3⟩ | ⟨rfl, hJx3⟩)
      · gi_wp2
        go_roundw
        case rel => exact ⟨from_ + a.length + 1, _, by simp, hJ3, hnx.trans hk3, .inl ⟨by omega, hnext'⟩⟩
        case measure => simp [intOf]; omega
      · gi_wp2
        refine bodyPost_ret (results_none rfl _ _ _) rfl ?_
        exact ⟨⟨_, rfl⟩, .inr ⟨_, ⟨_, hnext'⟩, hJx3⟩⟩
end Go.Proofs.YtioonfceamgpmaaGreatDoor
