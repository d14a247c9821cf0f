/- Path3, Clone, First, laid together. -/
import Derived.Test.YtioonfceamgpmaaGreatDoorJ18
import Derived.Shelf.Strings.Prefix
import Derived.Shelf.Small.Strs
import Derived.Shelf.Strconv.Itoa3
import Derived.Test.YtioonfceamgpmaaGreatDoorJ14
namespace Go.Proofs.YtioonfceamgpmaaGreatDoor
open Go.RowKit Go.Shelf
set_option linter.unusedVariables false
attribute [local go_sem] Oper.semAt_some

theorem each_stops (F : Fence) (n : Nat) (h7 : F.fn 85) (h65 : F.fn 86) (hix : ∀ m (s : ByteArray) W, CallsIn F m Tryz.prog 86 #[.string s, .int .u8 47] W fun e w' => e = .returned (.int .i64 (Lib.indexByte s.data.toList 47)) ∧ w' = W) (hro : F.round = none) (hn : 1 ≤ n) (Bs n₀ : Nat) (p : ByteArray) (hs : p.size ≤ 4611686018427387904) (w : World) (hBs : Bs < n₀) (hn₀ : n₀ ≤ w.heap.size)
    (hc : w.cell? ⟨Bs, 0, none⟩ = some (.string p)) :
    SeqStopsK F n Tryz.prog 85 #[.pointer (some ⟨Bs, 0, none⟩)] (fun x : Nat × ByteArray => #[Value.int .i64 (x.1 : Int), .string x.2]) (Below n₀) (fun ys => ys.map nm = splitB p.data.toList) (fun pre => ∃ rest, pre.map nm ++ rest = splitB p.data.toList) (splitB p.data.toList).length w := fun l J Jx W hW _ _ hY h0 => by
  have hc' := (hW.cell (p := ⟨Bs, 0, none⟩) (Nat.lt_of_lt_of_le hBs hn₀)).trans hc
  exact each1_in F n h7 h65 (fun s W => hix _ s W) hro hn l Bs n₀ p hs J Jx hY W hBs hc' h0

theorem each_in (F : Fence) (n : Nat) (h41 : F.fn 59) (hro : F.round = none) (p : ByteArray) (w : World) :
    CallsIn F n Tryz.prog 59 #[.string p] w fun e w' => e = .returned (.func (.func 85) #[] #[.pointer (some ⟨w.heap.size, 0, none⟩)]) ∧ w' = w.alloc (.cells #[.string p] 9) := by
  refine callsIn_of_wp Tryz.func59 rfl h41 ?_ hro
  simp only [Tryz.ntmps59, List.size_toArray, List.length_cons, List.length_nil, Nat.reduceAdd, Nat.reduceSub, Array.replicate_succ, Array.replicate_zero, List.push_toArray, List.append_toArray, List.nil_append, List.cons_append]
  gi_wp2
  go_ret
  exact ⟨rfl, rfl⟩

def tsB (s : List UInt8) : Bool := [46, 116, 115].isPrefixOf s
def keptL (l : List UInt8) : Bool := validL l && (splitB l).any tsB

set_option maxRecDepth 100000 in
set_option maxHeartbeats 2000000 in
theorem kept_in (F : Fence) (n : Nat) (h26 : F.fn 40) (h40 : F.fn 58) (h42 : F.fn 60) (h41 : F.fn 59) (h7 : F.fn 85) (h65 : F.fn 86) (hro : F.round = none) (hn : 3 ≤ n) (p : ByteArray) (hs : p.size ≤ 4611686018427387904)
    (hix : ∀ m (s : ByteArray) W, CallsIn F m Tryz.prog 86 #[.string s, .int .u8 47] W fun e w' => e = .returned (.int .i64 (Lib.indexByte s.data.toList 47)) ∧ w' = W)
    (hva : ∀ m W, CallsIn F m Tryz.prog 58 #[.string p] W fun e w' => e = .returned (.bool (validL p.data.toList)) ∧ Below W.heap.size W w')
    (hpr : ∀ m (s q : ByteArray) W, CallsIn F m Tryz.prog 60 #[.string s, .string q] W fun e w' => e = .returned (.bool (Lib.hasPrefix s.data.toList q.data.toList)) ∧ w' = W) (w : World) :
    CallsIn F n Tryz.prog 40 #[.string p] w fun e w' => e = .returned (.bool (keptL p.data.toList)) ∧ Below w.heap.size w w' := by
  have h1 : 1 ≤ n := by omega
  refine callsIn_of_wp_marks Tryz.func40 rfl h26 ?_ hro
  simp only [Tryz.ntmps40, List.size_toArray, List.length_cons, List.length_nil, Nat.reduceAdd, Nat.reduceSub, Array.replicate_succ, Array.replicate_zero, List.push_toArray, List.append_toArray, List.nil_append, List.cons_append]
  obtain ⟨bv, hbv⟩ : ∃ b, validL p.data.toList = b := ⟨_, rfl⟩
  rw [hbv] at hva
  have bR := Boxed.new w 4 (.bool false)
  gi_wp2_with (gi_at_call 58; refine (hva _ _).mono ?_; rintro e w1 ⟨rfl, hb1⟩; have hc1 := (hb1.cell (p := ⟨w.heap.size, 0, none⟩) (by simp)).trans bR.cell; have hf1 := (hb1.frozen (p := ⟨w.heap.size, 0, none⟩) (by simp)).trans bR.frozen; rw [World.size_alloc] at hb1; cases bv)
  · have hc2 := World.cell?_setCell_same' w1 ⟨w.heap.size, 0, none⟩ (.bool false) (by rw [hc1]; rfl)
    refine ⟨.bool false, ?_, by simp [keptL, hbv], ((((Below.refl _ w).alloc (Nat.le_refl _) _).trans (hb1.mono (by omega)))).setCell (p := ⟨w.heap.size, 0, none⟩) (Nat.le_refl _) _⟩
    simp [results, Tryz.f40, go_sem, hc2]
  gi_wp2_with (gi_at_call 59; refine (each_in F _ h41 hro _ _).mono ?_; rintro e w2 ⟨rfl, rfl⟩)
  have hkey : keptL p.data.toList = (splitB p.data.toList).any tsB := by simp [keptL, hbv]
  have hB0 : Below w.heap.size w (w1.alloc (.cells #[.string p] 9)) := ((((Below.refl _ w).alloc (Nat.le_refl _) _).trans (hb1.mono (by omega)))).alloc (by have := hb1.size; simp at this; omega) _
  have hsz1 : w.heap.size + 1 ≤ w1.heap.size := by have := hb1.size; simpa using this
  have bA : Below w1.heap.size w1 (w1.alloc (.cells #[.string p] 9)) := (Below.refl _ w1).alloc (Nat.le_refl _) _
  have bN := Boxed.new w1 9 (.string p)
  refine wpIn_rangeFunc_ownG hro h1 (gf := 85) (lb := #[.pointer (some ⟨w1.heap.size, 0, none⟩)]) rfl h7 (enters_of Tryz.func85 (by kernel_rfl) rfl)
    (each_stops F (n - 1) h7 h65 hix hro (by omega) w1.heap.size (w1.heap.size + 1) p hs _ (by omega) (by simp) bN.cell) belowK_t (belowK_b (by simp)) (Below.refl _ _) (fun _ => rfl)
    (fun pre W => ((∀ x ∈ pre, tsB (nm x) = false) ∧ W.cell? ⟨w.heap.size, 0, none⟩ = some (.bool false) ∧ W.frozen? ⟨w.heap.size, 0, none⟩ = false) ∧ Below w.heap.size w W)
    (fun c pre W => (c = .ret ∧ (∃ x ∈ pre, tsB (nm x) = true) ∧ W.cell? ⟨w.heap.size, 0, none⟩ = some (.bool true)) ∧ Below w.heap.size w W)
    (OwnFrom.and (Own.from (fun s A B row hs hg hr => ⟨hs.1, cell_kept hs.2.1 hg hr, (frozen_kept hs.2.1 hg hr).trans hs.2.2⟩) _) (ownFrom_below (Nat.le_refl _) (by simp; omega)))
    (fun c => OwnFrom.and (Own.from (fun s A B row hs hg hr => by obtain ⟨hc, hx, e4⟩ := hs; exact ⟨hc, hx, cell_kept e4 hg hr⟩) _) (ownFrom_below (Nat.le_refl _) (by simp; omega)))
    ⟨⟨by simp, (bA.cell (p := ⟨w.heap.size, 0, none⟩) (by simp; omega)).trans hc1, (bA.frozen (p := ⟨w.heap.size, 0, none⟩) (by simp; omega)).trans hf1⟩, hB0⟩
    (fun x => { tmps := #[.string p, undef, .pointer (some ⟨w.heap.size, 0, none⟩), undef, .string x.2, .string p, .bool true, .bool false, .string p, .func (.func 85) #[] #[.pointer (some ⟨w1.heap.size, 0, none⟩)], .int .i64 (x.1 : Int), .string x.2, undef, undef], defers := [] }) ?assign ?body ?done ?stop
  case assign =>
    intro l x W K hK
    gi_wp2
    exact hK
  case body =>
    rintro l pre x W ⟨⟨hp, hcr, hfr⟩, hB⟩ _
    have hd : 1 ≤ n - 1 - 1 := by omega
    have hpx : ∀ m W, CallsIn (F.inRound l) m Tryz.prog 60 #[.string x.2, .string ⟨#[46, 116, 115]⟩] W fun e w' => e = .returned (.bool (tsB (nm x))) ∧ w' = W := fun m W => CallsIn.inRound l (hpr _ _ _ _)
    obtain ⟨bx, hbx⟩ : ∃ b, tsB (nm x) = b := ⟨_, rfl⟩
    rw [hbx] at hpx
    gi_wp2_with (gi_at_call 60; refine (hpx _ _).mono ?_; rintro e w2 ⟨rfl, rfl⟩; cases bx)
    · exact ⟨KeepsFrom.refl _ _, Below.refl _ _, ⟨fun y hy => (List.mem_append.1 hy).elim (hp y) (fun e => by simp at e; subst e; exact hbx), hcr, hfr⟩, hB⟩
    · exact ⟨(KeepsOthers.setCell _ _ _).from _, ⟨rfl, ⟨x, by simp, hbx⟩, World.cell?_setCell_same' _ _ _ (by rw [hcr]; rfl)⟩, hB.setCell (p := ⟨w.heap.size, 0, none⟩) (Nat.le_refl _) _⟩
  case done =>
    rintro D ys W hD hys ⟨⟨hne, hcr, hfr⟩, hB⟩ hK
    have hkf : (splitB p.data.toList).any tsB = false := by
      rw [← hys, List.any_map, List.any_eq_false]
      intro x hx
      have := hne x hx
      simpa using this
    gi_wp2
    have hK' := (KeepsOthers.setCell W ⟨w.heap.size, 0, none⟩ (.bool false)).same D _ hK rfl
    refine ⟨by simp, .inl ⟨_, _, rfl, run_takeDeferred hK', ?_⟩⟩
    have hc5 := cell_kept (World.cell?_setCell_same' W ⟨w.heap.size, 0, none⟩ (.bool false) (by rw [hcr]; rfl)) (grownBy_putObj' _ D (.deferred none)) (fun r e => by cases e; exact ⟨_, hK', rfl⟩)
    refine ⟨.bool false, ?_, by rw [hkey, hkf], (hB.setCell (p := ⟨w.heap.size, 0, none⟩) (Nat.le_refl _) _).trans (belowK_b (w := w) (Nat.le_refl _) _ D _ _ (by simp at hD; omega) hK' rfl rfl)⟩
    simp [results, Tryz.f40, go_sem, hc5]
  case stop =>
    rintro D c pre W hD ⟨rest, hk⟩ ⟨⟨rfl, ⟨x, hx, hx2⟩, hcr⟩, hB⟩ hK
    have hkf : (splitB p.data.toList).any tsB = true := by
      rw [← hk, List.any_append, List.any_map, Bool.or_eq_true]
      exact .inl (List.any_eq_true.2 ⟨x, hx, hx2⟩)
    gi_wp2
    refine ⟨by simp, .inl ⟨_, _, rfl, run_takeDeferred hK, ?_⟩⟩
    have hc5 := cell_kept hcr (grownBy_putObj' _ D (.deferred none)) (fun r e => by cases e; exact ⟨_, hK, rfl⟩)
    refine ⟨.bool true, ?_, by rw [hkey, hkf], hB.trans (belowK_b (w := w) (Nat.le_refl _) W D _ _ (by simp at hD; omega) hK rfl rfl)⟩
    simp [results, Tryz.f40, go_sem, hc5]

theorem kept_any (p : ByteArray) (hs : p.size ≤ 4611686018427387904) (w : World) :
    Calls Tryz.prog 40 #[.string p] w fun e w' => e = .returned (.bool (keptL p.data.toList)) ∧ Below w.heap.size w w' :=
  (callsIn_wide (n := 3)).1 (kept_in Fence.wide 3 trivial trivial trivial trivial trivial trivial rfl (by omega) p hs (fun m s W => callsIn_wide.2 (Any.strings_IndexByte Tryz.indexByte s 47 W)) (fun m W => callsIn_wide.2 (valid_any p W hs)) (fun m s q W => callsIn_wide.2 (Any.strings_HasPrefix Tryz.hasPrefix s q W)) w)

/-- The k-th temporary name. -/
def tempS (k : Nat) : ByteArray := ⟨#[46, 116, 115, 45]⟩ ++ ⟨(Lib.decDigits k).toArray⟩
theorem digits_len {k : Nat} (hk : k < 100) : (Lib.decDigits k).length ≤ 2 := by
  by_cases h : k < 10
  · rw [Lib.decDigits_one h]
    simp
  · rw [Lib.decDigits_two h hk]
    simp
theorem temp_any (k : Nat) (hk : k < 100) (w : World) :
    Calls Tryz.prog 41 #[.int .i64 k] w fun e w' => e = .returned (.string (tempS k)) ∧ w' = w := by
  have h0 : (0 : Int) ≤ (k : Int) := by omega
  have h1 : (k : Int) ≤ 9999 := by omega
  have h2 : ¬ 9223372036854775807 < 4 + (Lib.decDigits k).length := by have := digits_len hk; omega
  go_enter Tryz.func41, Tryz.ntmps41
  go_wp2_with (go_at_call 61; refine (Any.strconv_Itoa_small Tryz.itoaSmall k hk _).mono ?_; rintro e w' ⟨rfl, rfl⟩)
  go_ret
  exact ⟨rfl, rfl⟩
end Go.Proofs.YtioonfceamgpmaaGreatDoor

namespace Go.Proofs.YtioonfceamgpmaaGreatDoor
open Go.RowKit
set_option linter.unusedVariables false

set_option maxRecDepth 100000 in
theorem clone_ints_any {w : World} {v : Value} {xs : List Int} (h : IntsAt w v xs) (hl : xs.length ≤ 1048576) :
    Calls Tryz.prog 42 #[v] w fun e w' => ∃ v', e = .returned v' ∧ Sep w w' [intsR v' xs] := by
  obtain ⟨i0, hinf, hz0, hz1, hz2⟩ := info_parts info_int
  obtain ⟨A, c, rfl, _⟩ := h.shape
  have h' := Lib.hid h
  have re := fun (W : World) (a : Option Addr) (n c : Nat) => Lib.run_eql_slice_nil (P := Tryz.prog) W 33 3 a n c 0 0 Tryz.underlying33
  cases A with
  | none =>
    have h0 : xs = [] := by
      rcases Nat.eq_zero_or_pos xs.length with h0 | h0
      · exact List.eq_nil_of_length_eq_zero h0
      · obtain ⟨ad, _, e, _⟩ := h.at_ h0
        cases e
    clear h
    subst h0
    go_enter Tryz.func42, Tryz.ntmps42
    go_wp2_with fail
    go_ret
    exact ⟨_, rfl, intsR_nil (Sep.nil w)⟩
  | some ad =>
    clear h
    have hS := Lib.hid ((Sep.nil w).lit_empty 3 1)
    go_enter Tryz.func42, Tryz.ntmps42
    go_wp2_with (first
      | (at_builtin; refine wpList_append_any_sep 0 rfl _ _ 33 rfl 3 i0 (.int .i64 0) 1 8 Tryz.underlying33 hinf hz0 hz1 hz2 rfl (by decide) hS.out _ 0 [] rfl rfl (.slice (some ad) xs.length c) xs.length (xs.map (.int .i64)) rfl (h'.out.below hS.out.below) (by simp [Value.oneCell']) (by unfold maxLen; omega) (by omega) ?_)
      | fail)
    intro v' w' hS2 hsz
    have hS3 : Sep w w' [intsR v' xs] := by simpa [intsR] using hS2
    have hS3' := Lib.hid hS3
    clear hS2 hS3 hS hsz
    go_wp2_with fail
    go_ret
    exact ⟨v', rfl, hS3'.out⟩

set_option maxRecDepth 100000 in
theorem clone_ins_any {w : World} {v : Value} {xs : List Ins} (h : InsAt w v xs) (hl : xs.length ≤ 1048576) :
    Calls Tryz.prog 16 #[v] w fun e w' => ∃ v', e = .returned v' ∧ Sep w w' [insR v' xs] := by
  obtain ⟨i0, hinf, hz0, hz1, hz2⟩ := info_parts info_ins
  obtain ⟨A, c, rfl, _⟩ := h.shape
  have h' := Lib.hid h
  have re := fun (W : World) (a : Option Addr) (n c : Nat) => Lib.run_eql_slice_nil (P := Tryz.prog) W 22 29 a n c 0 0 Tryz.underlying22
  cases A with
  | none =>
    have h0 : xs = [] := by
      rcases Nat.eq_zero_or_pos xs.length with h0 | h0
      · exact List.eq_nil_of_length_eq_zero h0
      · obtain ⟨_, A, c', e, _, _, h3⟩ := h
        cases e
        obtain ⟨ad, e, _⟩ := h3 h0
        cases e
    clear h
    subst h0
    go_enter Tryz.func16, Tryz.ntmps16
    go_wp2_with fail
    go_ret
    exact ⟨_, rfl, (Sep.nil w).sl_nil _ _⟩
  | some ad =>
    clear h
    have hS := Lib.hid ((Sep.nil w).lit_empty 29 5)
    go_enter Tryz.func16, Tryz.ntmps16
    go_wp2_with (first
      | (at_builtin; refine wpList_append_any_sep 0 rfl _ _ 22 rfl 29 i0 _ 5 56 Tryz.underlying22 hinf hz0 hz1 hz2 rfl (by decide) hS.out _ 0 [] rfl rfl (.slice (some ad) xs.length c) xs.length (insCells xs) rfl (h'.out.below hS.out.below) (fun u hu => insCells_one hu) (by unfold maxLen; omega) (by omega) ?_)
      | fail)
    intro v' w' hS2 hsz
    have hS3 : Sep w w' [insR v' xs] := by simpa [insR] using hS2
    have hS3' := Lib.hid hS3
    clear hS2 hS3 hS hsz
    go_wp2_with fail
    go_ret
    exact ⟨v', rfl, hS3'.out⟩
end Go.Proofs.YtioonfceamgpmaaGreatDoor

namespace Go.Proofs.YtioonfceamgpmaaGreatDoor
open Go.RowKit Go.Shelf
set_option linter.unusedVariables false

/-- Whether an action can be cut. -/
def cutsX (x : Ins) : Bool := decide (x.op = 3) && !keptL x.path.data.toList

set_option maxRecDepth 100000 in
theorem first1_any {w : World} {b B g : Nat} {len c : Nat} (hB : w.cell? ⟨B, 0, none⟩ = some (.pointer (some ⟨b, 0, none⟩))) (hb : w.cell? ⟨b, 0, none⟩ = some (.slice (some ⟨g, 0, none⟩) len c))
    (i : Nat) (x : Ins) (hi : i < len) (e0 : w.cell? ⟨g, i * 5, none⟩ = some (.int .i64 x.op)) (e1 : w.cell? ⟨g, i * 5 + 1, none⟩ = some (.string x.path)) (hs : x.path.size ≤ 4611686018427387904) :
    Calls Tryz.prog 39 #[.int .i64 i, .pointer (some ⟨B, 0, none⟩)] w fun e w' => e = .returned (.bool (cutsX x)) ∧ Below w.heap.size w w' := by
  have q0 : (0 : Int) ≤ (i : Int) := by omega
  have q1 : (i : Int) < (len : Int) := by omega
  have hk := fun W => kept_any x.path hs W
  obtain ⟨kb, hkb⟩ : ∃ k, keptL x.path.data.toList = k := ⟨_, rfl⟩
  simp only [hkb] at hk
  have hx : cutsX x = (decide (x.op = 3) && !kb) := by rw [cutsX, hkb]
  rw [hx]
  clear hx hi hkb
  have hrefl := Below.refl w.heap.size w
  go_enter Tryz.func39, Tryz.ntmps39
  go_wp2_with (go_at_call 40; refine (hk _).mono ?_; rintro e w' ⟨rfl, hb'⟩)
  · go_ret
    exact ⟨by simp_all, hb'⟩
  · go_ret
    exact ⟨by simp_all, hrefl⟩

/-- The place of the first number that answers. -/
def findL (q : Int → Bool) : List Int → Nat → Int
  | [], _ => -1
  | y :: l, k => if q y = true then (k : Int) else findL q l (k + 1)

theorem indexFunc_any {xs : List Int} {w : World} {v : Value} (h : IntsAt w v xs) (q : Int → Bool) (B : Nat)
    (hq : ∀ wr, Below w.heap.size w wr → ∀ y ∈ xs, Calls Tryz.prog 39 #[.int .i64 y, .pointer (some ⟨B, 0, none⟩)] wr fun e w' => e = .returned (.bool (q y)) ∧ Below wr.heap.size wr w') :
    Calls Tryz.prog 38 #[v, .func (.func 39) #[] #[.pointer (some ⟨B, 0, none⟩)]] w fun e w' => e = .returned (.int .i64 (findL q xs 0)) ∧ Below w.heap.size w w' := by
  obtain ⟨A, c, rfl, hm⟩ := h.shape
  unfold maxLen at hm
  have hm' : (xs.length : Int) ≤ 9223372036854775807 := by omega
  go_enter Tryz.func38, Tryz.ntmps38
  go_wp2_with fail
  go_loopw [8] (fun i wr => ∃ (k : Nat), k ≤ xs.length ∧ i = .int .i64 k ∧ Hid (findL q xs 0 = findL q (xs.drop k) k) ∧ Below w.heap.size w wr) (fun i _ => xs.length - (intOf i).toNat)
  case atStart => exact ⟨0, Nat.zero_le _, rfl, rfl, Below.refl _ _⟩
  case round =>
    obtain ⟨k, hk, rfl, hd, hbr⟩ := hrel
    by_cases hlt : k < xs.length
    · obtain ⟨ad, c', e, h3⟩ := (h.below hbr).at_ hlt
      cases e
      have b1 : (k : Int) < (xs.length : Int) := by omega
      have b2 : (0 : Int) ≤ (k : Int) := by omega
      have hd2 := hd.out
      have hq' := hq wr hbr xs[k] (List.getElem_mem hlt)
      rw [List.drop_eq_getElem_cons hlt, findL] at hd2
      generalize xs[k] = y at h3 hd2 hq'
      obtain ⟨qb, hqb⟩ : ∃ b, q y = b := ⟨_, rfl⟩
      rw [hqb] at hd2 hq'
      clear hqb hd hq
      have hd' := Lib.hid hd2
      clear hd2
      cases qb with
      | true =>
        go_wp2_with (go_at_call 39; refine hq'.mono ?_; rintro e w' ⟨rfl, hb'⟩)
        go_ret
        exact ⟨by rw [hd'.out]; rfl, hbr.trans (hb'.mono hbr.size)⟩
      | false =>
        go_wp2_with (go_at_call 39; refine hq'.mono ?_; rintro e w' ⟨rfl, hb'⟩)
        all_goals exact ⟨⟨k + 1, by omega, by go_num, hd', hbr.trans (hb'.mono hbr.size)⟩, by simp [intOf]; omega⟩
    · obtain rfl : k = xs.length := by omega
      have hd2 := hd.out
      rw [List.drop_length, findL] at hd2
      have hd' := Lib.hid hd2
      clear hd hd2
      go_wp2_with fail
      go_ret
      exact ⟨by rw [hd'.out]; rfl, hbr⟩

/-- The place of the first number whose action can be cut. -/
def firstL (acts : List Ins) (xs : List Int) : Int := findL (fun i => match acts[i.toNat]? with | some x => cutsX x | none => false) xs 0
theorem first_any {w0 w : World} {R : List Asn} {b : Nat} {va vn : Value} {k : Int} {acts : List Ins} (hS : Sep w0 w (.box b 48 #[va, vn, .int .i64 k] :: insR va acts :: R)) {xs : List Int} {v : Value} (h : IntsAt w v xs)
    (hr : ∀ y ∈ xs, 0 ≤ y ∧ y.toNat < acts.length) (hs : ∀ x ∈ acts, x.path.size ≤ 4611686018427387904) (hm : acts.length ≤ 1048576) :
    Calls Tryz.prog 21 #[.pointer (some ⟨b, 0, none⟩), v] w fun e w' => e = .returned (.int .i64 (firstL acts xs)) ∧ Below w.heap.size w w' := by
  obtain ⟨A, c, rfl, _⟩ := h.shape
  have hx := fun W h B hq => indexFunc_any (w := W) (v := .slice A xs.length c) (xs := xs) h (fun i => match acts[i.toNat]? with | some x => cutsX x | none => false) B hq
  have bB := Boxed.new w 43 (.pointer (some ⟨b, 0, none⟩))
  have hS1 := hS.alloc (.cells #[.pointer (some ⟨b, 0, none⟩)] 43)
  have h1 := hx _ (h.below ((Below.refl _ w).alloc (Nat.le_refl _) (.cells #[.pointer (some ⟨b, 0, none⟩)] 43))) w.heap.size (by
    intro wr hbr y hy
    obtain ⟨hy0, hyl⟩ := hr y hy
    obtain ⟨j, rfl⟩ : ∃ j : Nat, y = (j : Int) := ⟨y.toNat, by omega⟩
    have hS2 := hS1.pure hbr
    obtain ⟨g, cap, rfl, _⟩ := hS2.sl_form 1 rfl (by omega)
    have hx := List.getElem?_eq_getElem hyl
    have e0 := (hS2.cellAt 1 rfl (j * 5 + 0) (by simp at hyl; omega)).trans (insCells_at hx 0 (by omega))
    have e1 := (hS2.cellAt 1 rfl (j * 5 + 1) (by simp at hyl; omega)).trans (insCells_at hx 1 (by omega))
    have bB' := hbr.cell (p := ⟨w.heap.size, 0, none⟩) (by simp)
    have hb0 : wr.cell? ⟨b, 0, none⟩ = some (.slice (some ⟨g, 0, none⟩) acts.length cap) := by rw [hS2.box_cell 0 rfl 0]; rfl
    have := first1_any (bB'.trans bB.cell) hb0 j acts[(j : Int).toNat] (by simpa using hyl) e0 e1 (hs _ (List.getElem_mem hyl))
    rw [hx]
    exact this)
  clear hx
  go_enter Tryz.func21, Tryz.ntmps21
  go_wp2_with (go_at_call 38; refine h1.mono ?_; rintro e w' ⟨rfl, hb'⟩)
  go_ret
  exact ⟨rfl, ((Below.refl _ w).alloc (Nat.le_refl _) _).trans (hb'.mono (by simp))⟩
end Go.Proofs.YtioonfceamgpmaaGreatDoor
