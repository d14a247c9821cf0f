/- RingPlain, Ring, BreaksW, laid together. -/
import Derived.Test.YtioonfceamgpmaaGreatDoorJ26
import Derived.Test.YtioonfceamgpmaaGreatDoorJ34
import Derived.Test.YtioonfceamgpmaaGreatDoorJ31
import Derived.Test.YtioonfceamgpmaaGreatDoorJ32
import Derived.Test.YtioonfceamgpmaaGreatDoorJ33
namespace Go.Proofs.YtioonfceamgpmaaGreatDoor
set_option linter.unusedVariables false

theorem mendTo_none {acts : List Ins} {to : ByteArray} {r more : Int} {xss : List (List Int)} (h : ∀ a ∈ acts, wantsX a = false) (i : Nat) : mendTo acts to r more xss i = xss := by
  induction i with
  | zero => rfl
  | succ i ih =>
    unfold mendTo
    split
    · rename_i a l ha hl
      have hb : mendB a to r l = false := by
        unfold mendB
        rw [h a (List.mem_of_getElem? ha)]
        rfl
      rw [hb]
      exact ih
    · exact ih

section
variable {n : Nat} {acts : List Ins}
/-- What the cut of a ring leaves. -/
theorem ring_next (h2 : 2 ≤ n) (hl : acts.length = n) (hall : ∀ a ∈ acts, a.op = 3) : cutNext acts (longX n true) 0 0 = cutRows (longX n true) 0 [1] := by
  have e : (longX n true).getD 0 [] = [1] := by
    rw [List.getD_eq_getElem?_getD, List.getElem?_eq_getElem (by rw [longX_len]; omega), longX_at, if_pos (by omega)]
    rfl
  unfold cutNext
  rw [e]
  refine mendTo_none (fun a ha => ?_) _
  have ho : a.op = 3 := by
    unfold cutActs at ha
    rcases List.mem_or_eq_of_mem_set ha with ha | rfl
    · rcases List.mem_append.1 ha with ha | ha
      · exact hall a ha
      · rw [List.mem_singleton] at ha
        rw [ha]
    · show (acts.getD 0 insZ).op = 3
      rw [List.getD_eq_getElem?_getD, List.getElem?_eq_getElem (by omega)]
      exact hall _ (List.getElem_mem _)
  unfold wantsX
  rw [ho]
  rfl
theorem rows_len : (cutRows (longX n true) 0 [1]).length = n + 1 := by rw [cutRows_len2, longX_len]
theorem two_norm : normL [1, ((0 : Nat) : Int)] = [0, 1] := normL_of (by simp) (by intro x; simp; omega)
theorem rows_at {v : Nat} (h2 : 2 ≤ n) (hv : v < n + 1) : (cutRows (longX n true) 0 [1])[v]? = some (if v = 0 then [] else if v = n then [0, 1] else if v + 1 < n then [(v : Int) + 1] else [0]) := by
  unfold cutRows
  by_cases h0 : v = 0
  · subst h0
    rw [List.getElem?_set_self (by simp), if_pos rfl]
  · rw [List.getElem?_set_ne (Ne.symm h0), if_neg h0]
    by_cases hn : v = n
    · subst hn
      rw [List.getElem?_append_right (by rw [longX_len]; exact Nat.le_refl _), longX_len, Nat.sub_self, if_pos rfl]
      simp only [List.getElem?_cons_zero, List.singleton_append]
      rw [two_norm]
    · rw [if_neg hn, List.getElem?_append_left (by rw [longX_len]; omega), List.getElem?_eq_getElem (by rw [longX_len]; omega), longX_at]
      simp
theorem rows_none (h2 : 2 ≤ n) (hn : n ≤ 1000) : roundRows (cutRows (longX n true) 0 [1]) = [] := by
  have hok : refused (cutRows (longX n true) 0 [1]) = 0 := by
    refine refused_none (by rw [rows_len]; omega) (fun j hj => ?_) (fun j hj i hi => ?_)
    · rw [rows_len] at hj
      have e := rows_at h2 hj
      rw [List.getElem?_eq_getElem (by rw [rows_len]; omega)] at e
      rw [Option.some.inj e]
      split
      · simp
      · split
        · simp
        · split <;> simp
    · rw [rows_len] at hj ⊢
      have e := rows_at h2 hj
      rw [List.getElem?_eq_getElem (by rw [rows_len]; omega)] at e
      have hm := List.getElem_mem hi
      generalize (cutRows (longX n true) 0 [1])[j][i] = y at hm ⊢
      rw [Option.some.inj e] at hm
      split at hm
      · cases hm
      · split at hm
        · simp at hm; omega
        · split at hm
          · rw [List.mem_singleton] at hm; omega
          · rw [List.mem_singleton] at hm; omega
  refine none_round (fun v => if v = 0 then 0 else if v = n then n + 1 else n - v) (fun v hv u hu => ?_) hok
  rw [rows_len] at hv
  unfold adjOf at hu
  rw [List.getD_eq_getElem?_getD, rows_at h2 hv] at hu
  obtain ⟨y, hy, rfl⟩ := List.mem_map.1 hu
  rw [Option.getD_some] at hy
  split at hy
  · cases hy
  · rename_i h0
    rw [if_neg h0]
    split at hy
    · rename_i hn'
      rw [if_pos hn']
      simp at hy
      rcases hy with rfl | rfl
      · simp
      · simp; split <;> omega
    · rename_i hn'
      rw [if_neg hn']
      split at hy
      · rw [List.mem_singleton] at hy
        subst hy
        have e : ((v : Int) + 1).toNat = v + 1 := by omega
        rw [e, if_neg (by omega), if_neg (by omega)]
        omega
      · rw [List.mem_singleton] at hy
        subst hy
        simp
        omega
/-- A ring of renames is cut once. -/
theorem ring_break (h2 : 2 ≤ n) (hn : n ≤ 50) (hl : acts.length = n) (hall : ∀ a ∈ acts, a.op = 3) (h0 : cutsX (acts.getD 0 insZ) = true) :
    breakT acts (longX n true) = ⟨cutActs acts (acts.getD 0 insZ) 0 0, cutRows (longX n true) 0 [1], 1, 0⟩ := by
  obtain ⟨l, rest, hr⟩ := ring_head (n := n) (by omega) (by omega)
  unfold breakT
  rw [if_neg (by rw [ring_ok (by omega) (by omega)]; simp), if_neg (by rw [longX_len]; omega), ring_norm]
  unfold breakP
  rw [hr]
  have hf : firstL acts (0 :: l) = 0 := by
    unfold firstL findL
    rw [if_pos]
    · rfl
    · rw [List.getD_eq_getElem?_getD] at h0
      rw [Int.toNat_zero]
      cases hx : acts[0]? with
      | none => rw [List.getElem?_eq_none_iff] at hx; omega
      | some x => rw [hx] at h0; exact h0
  have hp : placeR (0 :: l) 0 = 0 := rfl
  simp only [hf, hp]
  rw [if_neg (by omega), ring_next h2 hl hall]
  rw [hl]
  obtain ⟨m, rfl⟩ : ∃ m, n = m + 1 := ⟨n - 1, by omega⟩
  unfold breakP
  rw [rows_none h2 (by omega)]
  rfl
/-- Without a rename it is refused. -/
theorem stuck_break (h1 : 1 ≤ n) (hn : n ≤ 50) (hl : acts.length = n) (hall : ∀ a ∈ acts, a.op ≠ 3) : breakT acts (longX n true) = ⟨[], [], 0, 33⟩ := by
  obtain ⟨l, rest, hr⟩ := ring_head (n := n) h1 (by omega)
  unfold breakT
  rw [if_neg (by rw [ring_ok h1 (by omega)]; simp), if_neg (by rw [longX_len]; omega), ring_norm]
  unfold breakP
  rw [hr]
  have hf : firstL acts (0 :: l) < 0 := by
    rcases Int.lt_or_le (firstL acts (0 :: l)) 0 with h | h
    · exact h
    · obtain ⟨j, _, _, h3⟩ := findL_good h
      exfalso
      cases hx : acts[((0 :: l).getD j 0).toNat]? with
      | none => rw [hx] at h3; cases h3
      | some x =>
        rw [hx] at h3
        have := hall x (List.mem_of_getElem? hx)
        simp [cutsX, this] at h3
  simp only
  rw [if_pos hf]
end
end Go.Proofs.YtioonfceamgpmaaGreatDoor

namespace Go.Proofs.YtioonfceamgpmaaGreatDoor
open Go.RowKit
set_option linter.unusedVariables false

theorem Sep.litN {w0 w : World} {As : List Asn} (h : Sep w0 w As) (e : TypeId) (sz n : Nat) (cs : Array Value) (hs : cs.size = n * sz) (hm : n ≤ maxLen) : Sep w0 (w.alloc (.cells cs e)) (.sl e sz (.slice (some ⟨w.heap.size, 0, none⟩) n n) n cs.toList :: As) := by
  have hown := World.ownsRow_lit (base := 0) (e := e) (size := sz) w cs n (Nat.zero_le _) hm hs
  exact h.new (F := [w.heap.size]) ((Below.refl _ _).alloc (Nat.le_refl _) _) ⟨hown, rfl⟩ (by simp)
theorem temp_zero : tempS 0 = ⟨#[46, 116, 115, 45, 48]⟩ := by
  have h : (tempS 0).data = #[46, 116, 115, 45, 48] := by decide +kernel
  cases h2 : tempS 0 with
  | mk d => rw [h2] at h; simp only at h; rw [h]

/-- What Break of a ring leaves, as the law reads it. -/
def RingRead (w : World) (va vn : Value) (n : Nat) (x : Ins) : Prop :=
  ∃ g c h c' A c0 p c2, va = .slice (some ⟨g, 0, none⟩) (n + 1) c ∧ vn = .slice (some ⟨h, 0, none⟩) (n + 1) c' ∧
    (w.cell? ⟨g, 0, none⟩ = some (.int .i64 x.op) ∧ w.cell? ⟨g, 1, none⟩ = some (.string x.path) ∧ w.cell? ⟨g, 2, none⟩ = some (.string ⟨#[46, 116, 115, 45, 48]⟩) ∧ w.cell? ⟨g, 3, none⟩ = some (.int .i64 x.mode) ∧ w.cell? ⟨g, 4, none⟩ = some (.int .i64 x.ref)) ∧
    (w.cell? ⟨g, n * 5, none⟩ = some (.int .i64 3) ∧ w.cell? ⟨g, n * 5 + 1, none⟩ = some (.string ⟨#[46, 116, 115, 45, 48]⟩) ∧ w.cell? ⟨g, n * 5 + 2, none⟩ = some (.string x.to) ∧ w.cell? ⟨g, n * 5 + 3, none⟩ = some (.int .i64 0) ∧ w.cell? ⟨g, n * 5 + 4, none⟩ = some (.int .i64 0)) ∧
    w.cell? ⟨h, 0, none⟩ = some (.slice A 0 c0) ∧ w.cell? ⟨h, n, none⟩ = some (.slice (some ⟨p, 0, none⟩) 2 c2) ∧ w.cell? ⟨p, 0, none⟩ = some (.int .i64 0) ∧ w.cell? ⟨p, 1, none⟩ = some (.int .i64 1)

theorem ring_read {w0 w : World} {n : Nat} {acts : List Ins} {va vn : Value} {x : Ins} (h2 : 2 ≤ n) (hl : acts.length = n) (hx : acts.getD 0 insZ = x) (hS : Sep w0 w [insR va (cutActs acts x 0 0), rowsR vn (cutRows (longX n true) 0 [1])]) : RingRead w va vn n x := by
  have hal : (cutActs acts x 0 0).length = n + 1 := by rw [cutActs_len, hl]
  have hrl : (cutRows (longX n true) 0 [1]).length = n + 1 := rows_len
  have hi : insR va (cutActs acts x 0 0) = .sl 29 5 va (n + 1) (insCells (cutActs acts x 0 0)) := by unfold insR; rw [hal]
  have hS2 := hS.perm (List.Perm.swap _ _ _)
  rw [hi] at hS
  obtain ⟨g, c, rfl, _⟩ := hS.sl_form 0 rfl (by omega)
  have a0 : (cutActs acts x 0 0)[0]? = some { x with to := tempS 0 } := by
    unfold cutActs
    rw [List.getElem?_set_self (by simp)]
  have an : (cutActs acts x 0 0)[n]? = some (Ins.mk 3 (tempS 0) x.to 0 0) := by
    unfold cutActs
    rw [List.getElem?_set_ne (by omega), List.getElem?_append_right (by omega), hl, Nat.sub_self]
    rfl
  have c0 := fun (f : Nat) (hf : f < 5) => (hS.cellAt 0 rfl (0 * 5 + f) (by omega)).trans (insCells_at a0 f hf)
  have cn := fun (f : Nat) (hf : f < 5) => (hS.cellAt 0 rfl (n * 5 + f) (by omega)).trans (insCells_at an f hf)
  obtain ⟨h, c', u0, rfl, r0, ⟨A, k0, e0⟩, _⟩ := rows_cells (k := 0) hS2 (by omega)
  obtain ⟨h', c'', un, e1, rn, _, hn⟩ := rows_cells (k := n) hS2 (by omega)
  cases e1
  have l0 : (cutRows (longX n true) 0 [1])[0] = [] := by
    have := rows_at (n := n) (v := 0) h2 (by omega)
    rw [List.getElem?_eq_getElem (by omega), if_pos rfl] at this
    exact Option.some.inj this
  have ln : (cutRows (longX n true) 0 [1])[n]'(by omega) = [0, 1] := by
    have := rows_at (n := n) (v := n) h2 (by omega)
    rw [List.getElem?_eq_getElem (by omega), if_neg (by omega), if_pos rfl] at this
    exact Option.some.inj this
  rw [l0] at e0
  obtain ⟨p, c2, e2, hp⟩ := hn (by rw [ln]; decide)
  rw [ln] at e2
  subst e0 e2
  have p0 := hp 0 (by rw [ln]; decide)
  have p1 := hp 1 (by rw [ln]; decide)
  simp only [ln] at p0 p1
  refine ⟨g, c, h, c', A, k0, p, c2, rfl, by rw [hrl], ⟨?_, ?_, ?_, ?_, ?_⟩, ⟨?_, ?_, ?_, ?_, ?_⟩, r0, rn, p0, p1⟩
  · exact c0 0 (by omega)
  · exact c0 1 (by omega)
  · rw [← temp_zero]; exact c0 2 (by omega)
  · exact c0 3 (by omega)
  · exact c0 4 (by omega)
  · exact cn 0 (by omega)
  · rw [← temp_zero]; exact cn 1 (by omega)
  · exact cn 2 (by omega)
  · exact cn 3 (by omega)
  · exact cn 4 (by omega)

theorem num_any15 (x : Int) (w : World) : Calls Tryz.prog 13 #[.int .i64 x] w fun e w' => e = .returned (.int .i64 x) ∧ w = w' := by
  go_enter Tryz.func13, Tryz.ntmps13
  go_wp2
  go_ret
  exact ⟨rfl, rfl⟩

def aliveA : List Ins := [⟨3, ⟨#[97]⟩, ⟨#[98]⟩, 0, 0⟩, ⟨3, ⟨#[98]⟩, ⟨#[97]⟩, 0, 0⟩]
theorem alive_ring : breakT aliveA (longX 2 true) = ⟨cutActs aliveA (aliveA.getD 0 insZ) 0 0, cutRows (longX 2 true) 0 [1], 1, 0⟩ :=
  ring_break (by omega) (by omega) rfl (by simp [aliveA]) (by decide +kernel)

theorem alive_args {w0 W : World} {b : Nat} (hS : Sep w0 W [.sl 33 1 (.slice (some ⟨b + 1 + 1 + 1, 0, Option.none⟩) 2 2) 2 [.slice (some ⟨b + 1, 0, Option.none⟩) 1 1, .slice (some ⟨b + 1 + 1, 0, Option.none⟩) 1 1], .sl 3 1 (.slice (some ⟨b + 1 + 1, 0, Option.none⟩) 1 1) 1 [.int .i64 0], .sl 3 1 (.slice (some ⟨b + 1, 0, Option.none⟩) 1 1) 1 [.int .i64 1],
    .sl 29 5 (.slice (some ⟨b, 0, Option.none⟩) 2 2) 2 [.int .i64 3, .string ⟨#[97]⟩, .string ⟨#[98]⟩, .int .i64 0, .int .i64 0, .int .i64 3, .string ⟨#[98]⟩, .string ⟨#[97]⟩, .int .i64 0, .int .i64 0]]) :
    InsAt W (.slice (some ⟨b, 0, Option.none⟩) 2 2) aliveA ∧ RowsAt W (.slice (some ⟨b + 1 + 1 + 1, 0, Option.none⟩) 2 2) (longX 2 true) := by
  refine ⟨hS.ins 3 rfl, _, hS.rd 0 rfl, fun k u x hu hx => ?_⟩
  match k, hu, hx with
  | 0, hu, hx =>
    simp [longX] at hu hx
    subst hu hx
    exact hS.ints 2 rfl
  | 1, hu, hx =>
    simp [longX] at hu hx
    subst hu hx
    exact hS.ints 1 rfl
  | k + 2, hu, hx => simp [longX] at hx

theorem alive_read {w0 w : World} {va vn : Value} (hS : Sep w0 w [insR va (cutActs aliveA (aliveA.getD 0 insZ) 0 0), rowsR vn (cutRows (longX 2 true) 0 [1])]) :
    ∃ g c h c', va = .slice (some ⟨g, 0, Option.none⟩) 3 c ∧ vn = .slice (some ⟨h, 0, Option.none⟩) 3 c' ∧ w.cell? ⟨g, 2, Option.none⟩ = some (.string ⟨#[46, 116, 115, 45, 48]⟩) ∧
      (w.cell? ⟨g, 10, Option.none⟩ = some (.int .i64 3) ∧ w.cell? ⟨g, 11, Option.none⟩ = some (.string ⟨#[46, 116, 115, 45, 48]⟩) ∧ w.cell? ⟨g, 12, Option.none⟩ = some (.string ⟨#[98]⟩) ∧ w.cell? ⟨g, 13, Option.none⟩ = some (.int .i64 0) ∧ w.cell? ⟨g, 14, Option.none⟩ = some (.int .i64 0)) := by
  obtain ⟨g, c, h, c', A, c0, p, c2, e1, e2, ⟨_, _, d2, _, _⟩, ⟨f0, f1, f2, f3, f4⟩, _⟩ := ring_read (n := 2) (by omega) rfl rfl hS
  exact ⟨g, c, h, c', e1, e2, d2, f0, f1, f2, f3, f4⟩

set_option maxRecDepth 100000 in
theorem alive15_any (w : World) : Calls Tryz.prog 4 #[] w fun e w' => e = .returned (.bool true) ∧ Below w.heap.size w w' := by
  have hS := ((((Sep.nil w).litN 29 5 2 #[.int .i64 3, .string ⟨#[97]⟩, .string ⟨#[98]⟩, .int .i64 0, .int .i64 0, .int .i64 3, .string ⟨#[98]⟩, .string ⟨#[97]⟩, .int .i64 0, .int .i64 0] rfl (by simp [maxLen])).lit 3 #[.int .i64 1] (by simp [maxLen])).lit 3 #[.int .i64 0] (by simp [maxLen])).lit 33 #[.slice (some ⟨w.heap.size + 1, 0, none⟩) 1 1, .slice (some ⟨w.heap.size + 1 + 1, 0, none⟩) 1 1] (by simp [maxLen])
  simp only [World.size_alloc, List.size_toArray, List.length_cons, List.length_nil, Nat.reduceAdd] at hS
  obtain ⟨hA, hN⟩ := alive_args hS
  have hb := break_any hA hN (by simp [longX]) (by simp [aliveA]) (by intro x hx; simp [aliveA] at hx; rcases hx with rfl | rfl <;> simp [ByteArray.size])
  rw [alive_ring] at hb
  have hb' := Lib.hid hb
  have hbel := Lib.hid hS.below
  clear hb hA hN hS
  go_enter Tryz.func4, Tryz.ntmps4
  go_wp2_with (first
    | (go_at_call 8; refine hb'.out.mono ?_; rintro e w1 ⟨va, vn, rfl, hS⟩; obtain ⟨g, c, h, c', rfl, rfl, d2, f0, f1, f2, f3, f4⟩ := alive_read hS; have hb2 := Lib.hid hS.below; clear hS)
    | (go_at_call 13; refine (num_any15 _ _).mono ?_; rintro e w2 ⟨rfl, rfl⟩))
  go_ret
  exact ⟨rfl, hbel.out.trans (hb2.out.mono (by simp; omega))⟩
end Go.Proofs.YtioonfceamgpmaaGreatDoor

namespace Go.Proofs.YtioonfceamgpmaaGreatDoor
open Go.RowKit
set_option linter.unusedVariables false

noncomputable def cbBlock (k : Nat) : Code := inBlock ((Tryz.f3.body.bind (blockAt k)).getD .skip)

theorem one_store0 {w0 w : World} {R : List Asn} {e : TypeId} {g n c sz : Nat} {cs : List Value} (h : Sep w0 w (.sl e sz (.slice (some ⟨g, 0, none⟩) n c) n cs :: R)) (hl : cs.length = n * sz) (o : Nat) (ho : o < n * sz) (v : Value) :
    w.frozen? ⟨g, o, none⟩ = false ∧ (∃ z, w.cell? ⟨g, o, none⟩ = some z) ∧ Sep w0 (w.setCell ⟨g, o, none⟩ v) (.sl e sz (.slice (some ⟨g, 0, none⟩) n c) n (cs.set o v) :: R) := by
  refine ⟨h.frozenAt 0 rfl o, ⟨cs[o]'(by omega), ?_⟩, h.stored 0 rfl o v⟩
  rw [h.cellAt 0 rfl o ho]
  exact List.getElem?_eq_getElem _

set_option maxRecDepth 100000 in
set_option maxHeartbeats 1000000 in
theorem cb_wipe {w0 w : World} {R : List Asn} {g n c : Nat} {cs : List Value} {ac : Act} {Q : Exit → Act → World → Prop} (hn : n ≤ 1000)
    (hf : Fs 133 ac [(13, .slice (some ⟨g, 0, none⟩) n c), (17, .int .i64 0)]) (hl : cs.length = n * 5)
    (hS : Sep w0 w (.sl 29 5 (.slice (some ⟨g, 0, none⟩) n c) n cs :: R))
    (hQ : ∀ ac' w' cs', ac'.tmps.toList.take 17 = ac.tmps.toList.take 17 → ac'.tmps.size = 133 → ac'.defers = [] → Sep w0 w' (.sl 29 5 (.slice (some ⟨g, 0, none⟩) n c) n cs' :: R) → Q .normal ac' w') :
    (cbBlock 0).wp Tryz.prog (Exit.inBlock 0 Q) ac w := by
  obtain ⟨f, rfl, h13, h17, -⟩ := hf.lit
  simp only at h13 h17
  clear hf
  simp only [lits, Nat.reduceAdd, h13, h17] at hQ ⊢
  have hQ' := Lib.hid hQ
  clear hQ h13 h17
  conv => arg 2; whnf
  have b1 : (n : Int) ≤ 1000 := by omega
  go_loopw [17] (fun iv wr => ∃ (i : Nat) (cs : List Value), i ≤ n ∧ iv = .int .i64 i ∧ Hid (cs.length = n * 5) ∧ Sep w0 wr (.sl 29 5 (.slice (some ⟨g, 0, none⟩) n c) n cs :: R)) (fun iv _ => n - (intOf iv).toNat)
  case atStart => exact ⟨0, cs, Nat.zero_le _, rfl, hl, hS⟩
  case round =>
    clear hS hl
    obtain ⟨i, cs, hi, rfl, hcsl, hS⟩ := hrel
    have q3 : (0 : Int) ≤ (i : Int) := by omega
    by_cases hlt : i < n
    case neg =>
      obtain rfl : i = n := by omega
      have hS' := Lib.hid hS
      clear hS
      go_wp2_with fail
      exact hQ'.out _ _ _ rfl rfl rfl hS'.out
    have q4 : (i : Int) < (n : Int) := by omega
    obtain ⟨f0, ⟨z0, d0⟩, S0⟩ := one_store0 hS hcsl.out (i * 5) (by omega) (.int .i64 (-1))
    obtain ⟨f1, ⟨z1, d1⟩, S1⟩ := one_store0 S0 (by simpa using hcsl.out) (i * 5 + 1) (by omega) (.string ⟨#[]⟩)
    obtain ⟨f2, ⟨z2, d2⟩, S2⟩ := one_store0 S1 (by simpa using hcsl.out) (i * 5 + 2) (by omega) (.string ⟨#[]⟩)
    obtain ⟨f3, ⟨z3, d3⟩, S3⟩ := one_store0 S2 (by simpa using hcsl.out) (i * 5 + 3) (by omega) (.int .i64 0)
    obtain ⟨f4, ⟨z4, d4⟩, S4⟩ := one_store0 S3 (by simpa using hcsl.out) (i * 5 + 4) (by omega) (.int .i64 0)
    have hcl4 : Hid ((((((cs.set (i * 5) (.int .i64 (-1))).set (i * 5 + 1) (.string ⟨#[]⟩)).set (i * 5 + 2) (.string ⟨#[]⟩)).set (i * 5 + 3) (.int .i64 0)).set (i * 5 + 4) (.int .i64 0)).length = n * 5) := by have := hcsl.out; simpa [Hid] using this
    have S4' := Lib.hid S4
    clear hS S0 S1 S2 S3 S4
    go_wp2_with fail
    go_roundw
    case rel => exact ⟨i + 1, _, by omega, by go_num, hcl4, S4'.out⟩
    case measure => simp [intOf]; omega

set_option maxRecDepth 100000 in
set_option maxHeartbeats 1000000 in
theorem breaks_much {acts : List Ins} {xss : List (List Int)} {w : World} {va vn : Value} (ha : InsAt w va acts) (hn : RowsAt w vn xss) (hm : muchB xss = true ∨ longB acts = true ∨ 40 < xss.length) :
    Calls Tryz.prog 3 #[va, vn] w fun e w' => e = .returned (.bool true) ∧ Below w.heap.size w w' := by
  obtain ⟨A, cA, rfl, _⟩ := ha.shape
  obtain ⟨B, cB, rfl, _⟩ := hn.shape
  have hn' := Lib.hid hn
  have ha' := Lib.hid ha
  clear hn ha
  have hal := Lib.hid (alive15_any w)
  cases hmb : muchB xss
  case true =>
    clear hm
    go_enter Tryz.func3, Tryz.ntmps3
    go_wp2_with (first
      | (go_at_call 4; refine hal.out.mono ?_; rintro e w1 ⟨rfl, hb1⟩; (have hmu := much_any (hn'.out.below hb1)); rw [hmb] at hmu)
      | (go_at_call 5; refine hmu.mono ?_; rintro e w2 ⟨rfl, rfl⟩))
    go_ret
    exact ⟨rfl, hb1⟩
  cases hlb : longB acts
  case true =>
    clear hm
    go_enter Tryz.func3, Tryz.ntmps3
    go_wp2_with (first
      | (go_at_call 4; refine hal.out.mono ?_; rintro e w1 ⟨rfl, hb1⟩; (have hmu := much_any (hn'.out.below hb1)); rw [hmb] at hmu; (have hlo := long15_any (ha'.out.below hb1)); rw [hlb] at hlo)
      | (go_at_call 5; refine hmu.mono ?_; rintro e w2 ⟨rfl, rfl⟩)
      | (go_at_call 6; refine hlo.mono ?_; rintro e w2 ⟨rfl, hb2⟩))
    go_ret
    exact ⟨rfl, hb1.trans (hb2.mono hb1.size)⟩
  have hlen : 40 < xss.length := by
    rcases hm with h | h | h
    · rw [hmb] at h; cases h
    · rw [hlb] at h; cases h
    · exact h
  have b1 : (40 : Int) < (xss.length : Int) := by omega
  clear hm
  go_enter Tryz.func3, Tryz.ntmps3
  go_wp2_with (first
    | (go_at_call 4; refine hal.out.mono ?_; rintro e w1 ⟨rfl, hb1⟩; (have hmu := much_any (hn'.out.below hb1)); rw [hmb] at hmu; (have hlo := long15_any (ha'.out.below hb1)); rw [hlb] at hlo)
    | (go_at_call 5; refine hmu.mono ?_; rintro e w2 ⟨rfl, rfl⟩)
    | (go_at_call 6; refine hlo.mono ?_; rintro e w2 ⟨rfl, hb2⟩))
  go_ret
  exact ⟨rfl, hb1.trans (hb2.mono hb1.size)⟩
end Go.Proofs.YtioonfceamgpmaaGreatDoor
