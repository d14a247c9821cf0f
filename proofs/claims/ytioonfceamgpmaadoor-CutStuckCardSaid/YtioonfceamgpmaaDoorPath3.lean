/- path.Kept, path.Temp, walked. -/
import Derived.Test.YtioonfceamgpmaaDoorPath2
import Derived.Test.YtioonfceamgpmaaDoorShelf15
import Derived.Shelf.Strings.Prefix
import Derived.Shelf.Small.Strs
import Derived.Shelf.Strconv.Itoa3
namespace Go.Proofs.YtioonfceamgpmaaDoor
open Go.RowKit Go.Shelf
set_option linter.unusedVariables false
attribute [local go_sem] Oper.semAt_some

theorem each_stops (F : Fence) (n : Nat) (h7 : F.fn 64) (h65 : F.fn 65) (hix : ∀ m (s : ByteArray) W, CallsIn F m Tryd.prog 65 #[.string s, .int .u8 47] W fun e w' => e = .returned (.int .i64 (Lib.indexByte s.data.toList 47)) ∧ w' = W) (hro : F.round = none) (hn : 1 ≤ n) (Bs n₀ : Nat) (p : ByteArray) (hs : p.size ≤ 4611686018427387904) (w : World) (hBs : Bs < n₀) (hn₀ : n₀ ≤ w.heap.size)
    (hc : w.cell? ⟨Bs, 0, none⟩ = some (.string p)) :
    SeqStopsK F n Tryd.prog 64 #[.pointer (some ⟨Bs, 0, none⟩)] (fun x : Nat × ByteArray => #[Value.int .i64 (x.1 : Int), .string x.2]) (Below n₀) (fun ys => ys.map nm = splitB p.data.toList) (fun pre => ∃ rest, pre.map nm ++ rest = splitB p.data.toList) (splitB p.data.toList).length w := fun l J Jx W hW _ _ hY h0 => by
  have hc' := (hW.cell (p := ⟨Bs, 0, none⟩) (Nat.lt_of_lt_of_le hBs hn₀)).trans hc
  exact each1_in F n h7 h65 (fun s W => hix _ s W) hro hn l Bs n₀ p hs J Jx hY W hBs hc' h0

theorem each_in (F : Fence) (n : Nat) (h41 : F.fn 41) (hro : F.round = none) (p : ByteArray) (w : World) :
    CallsIn F n Tryd.prog 41 #[.string p] w fun e w' => e = .returned (.func (.func 64) #[] #[.pointer (some ⟨w.heap.size, 0, none⟩)]) ∧ w' = w.alloc (.cells #[.string p] 9) := by
  refine callsIn_of_wp Tryd.func41 rfl h41 ?_ hro
  simp only [Tryd.ntmps41, List.size_toArray, List.length_cons, List.length_nil, Nat.reduceAdd, Nat.reduceSub, Array.replicate_succ, Array.replicate_zero, List.push_toArray, List.append_toArray, List.nil_append, List.cons_append]
  gi_wp2
  go_ret
  exact ⟨rfl, rfl⟩

def tsB (s : List UInt8) : Bool := [46, 116, 115].isPrefixOf s
def keptL (l : List UInt8) : Bool := validL l && (splitB l).any tsB

set_option maxRecDepth 100000 in
set_option maxHeartbeats 2000000 in
theorem kept_in (F : Fence) (n : Nat) (h26 : F.fn 26) (h40 : F.fn 40) (h42 : F.fn 42) (h41 : F.fn 41) (h7 : F.fn 64) (h65 : F.fn 65) (hro : F.round = none) (hn : 3 ≤ n) (p : ByteArray) (hs : p.size ≤ 4611686018427387904)
    (hix : ∀ m (s : ByteArray) W, CallsIn F m Tryd.prog 65 #[.string s, .int .u8 47] W fun e w' => e = .returned (.int .i64 (Lib.indexByte s.data.toList 47)) ∧ w' = W)
    (hva : ∀ m W, CallsIn F m Tryd.prog 40 #[.string p] W fun e w' => e = .returned (.bool (validL p.data.toList)) ∧ Below W.heap.size W w')
    (hpr : ∀ m (s q : ByteArray) W, CallsIn F m Tryd.prog 42 #[.string s, .string q] W fun e w' => e = .returned (.bool (Lib.hasPrefix s.data.toList q.data.toList)) ∧ w' = W) (w : World) :
    CallsIn F n Tryd.prog 26 #[.string p] w fun e w' => e = .returned (.bool (keptL p.data.toList)) ∧ Below w.heap.size w w' := by
  have h1 : 1 ≤ n := by omega
  refine callsIn_of_wp_marks Tryd.func26 rfl h26 ?_ hro
  simp only [Tryd.ntmps26, List.size_toArray, List.length_cons, List.length_nil, Nat.reduceAdd, Nat.reduceSub, Array.replicate_succ, Array.replicate_zero, List.push_toArray, List.append_toArray, List.nil_append, List.cons_append]
  obtain ⟨bv, hbv⟩ : ∃ b, validL p.data.toList = b := ⟨_, rfl⟩
  rw [hbv] at hva
  have bR := Boxed.new w 4 (.bool false)
  gi_wp2_with (gi_at_call 40; refine (hva _ _).mono ?_; rintro e w1 ⟨rfl, hb1⟩; have hc1 := (hb1.cell (p := ⟨w.heap.size, 0, none⟩) (by simp)).trans bR.cell; have hf1 := (hb1.frozen (p := ⟨w.heap.size, 0, none⟩) (by simp)).trans bR.frozen; rw [World.size_alloc] at hb1; cases bv)
  · have hc2 := World.cell?_setCell_same' w1 ⟨w.heap.size, 0, none⟩ (.bool false) (by rw [hc1]; rfl)
    refine ⟨.bool false, ?_, by simp [keptL, hbv], ((((Below.refl _ w).alloc (Nat.le_refl _) _).trans (hb1.mono (by omega)))).setCell (p := ⟨w.heap.size, 0, none⟩) (Nat.le_refl _) _⟩
    simp [results, Tryd.f26, go_sem, hc2]
  gi_wp2_with (gi_at_call 41; refine (each_in F _ h41 hro _ _).mono ?_; rintro e w2 ⟨rfl, rfl⟩)
  have hkey : keptL p.data.toList = (splitB p.data.toList).any tsB := by simp [keptL, hbv]
  have hB0 : Below w.heap.size w (w1.alloc (.cells #[.string p] 9)) := ((((Below.refl _ w).alloc (Nat.le_refl _) _).trans (hb1.mono (by omega)))).alloc (by have := hb1.size; simp at this; omega) _
  have hsz1 : w.heap.size + 1 ≤ w1.heap.size := by have := hb1.size; simpa using this
  have bA : Below w1.heap.size w1 (w1.alloc (.cells #[.string p] 9)) := (Below.refl _ w1).alloc (Nat.le_refl _) _
  have bN := Boxed.new w1 9 (.string p)
  refine wpIn_rangeFunc_ownG hro h1 (gf := 64) (lb := #[.pointer (some ⟨w1.heap.size, 0, none⟩)]) rfl h7 (enters_of Tryd.func64 (by kernel_rfl) rfl)
    (each_stops F (n - 1) h7 h65 hix hro (by omega) w1.heap.size (w1.heap.size + 1) p hs _ (by omega) (by simp) bN.cell) belowK_t (belowK_b (by simp)) (Below.refl _ _) (fun _ => rfl)
    (fun pre W => ((∀ x ∈ pre, tsB (nm x) = false) ∧ W.cell? ⟨w.heap.size, 0, none⟩ = some (.bool false) ∧ W.frozen? ⟨w.heap.size, 0, none⟩ = false) ∧ Below w.heap.size w W)
    (fun c pre W => (c = .ret ∧ (∃ x ∈ pre, tsB (nm x) = true) ∧ W.cell? ⟨w.heap.size, 0, none⟩ = some (.bool true)) ∧ Below w.heap.size w W)
    (OwnFrom.and (Own.from (fun s A B row hs hg hr => ⟨hs.1, cell_kept hs.2.1 hg hr, (frozen_kept hs.2.1 hg hr).trans hs.2.2⟩) _) (ownFrom_below (Nat.le_refl _) (by simp; omega)))
    (fun c => OwnFrom.and (Own.from (fun s A B row hs hg hr => by obtain ⟨hc, hx, e4⟩ := hs; exact ⟨hc, hx, cell_kept e4 hg hr⟩) _) (ownFrom_below (Nat.le_refl _) (by simp; omega)))
    ⟨⟨by simp, (bA.cell (p := ⟨w.heap.size, 0, none⟩) (by simp; omega)).trans hc1, (bA.frozen (p := ⟨w.heap.size, 0, none⟩) (by simp; omega)).trans hf1⟩, hB0⟩
    (fun x => { tmps := #[.string p, undef, .pointer (some ⟨w.heap.size, 0, none⟩), undef, .string x.2, .string p, .bool true, .bool false, .string p, .func (.func 64) #[] #[.pointer (some ⟨w1.heap.size, 0, none⟩)], .int .i64 (x.1 : Int), .string x.2, undef, undef], defers := [] }) ?assign ?body ?done ?stop
  case assign =>
    intro l x W K hK
    gi_wp2
    exact hK
  case body =>
    rintro l pre x W ⟨⟨hp, hcr, hfr⟩, hB⟩ _
    have hd : 1 ≤ n - 1 - 1 := by omega
    have hpx : ∀ m W, CallsIn (F.inRound l) m Tryd.prog 42 #[.string x.2, .string ⟨#[46, 116, 115]⟩] W fun e w' => e = .returned (.bool (tsB (nm x))) ∧ w' = W := fun m W => CallsIn.inRound l (hpr _ _ _ _)
    obtain ⟨bx, hbx⟩ : ∃ b, tsB (nm x) = b := ⟨_, rfl⟩
    rw [hbx] at hpx
    gi_wp2_with (gi_at_call 42; refine (hpx _ _).mono ?_; rintro e w2 ⟨rfl, rfl⟩; cases bx)
    · exact ⟨KeepsFrom.refl _ _, Below.refl _ _, ⟨fun y hy => (List.mem_append.1 hy).elim (hp y) (fun e => by simp at e; subst e; exact hbx), hcr, hfr⟩, hB⟩
    · exact ⟨(KeepsOthers.setCell _ _ _).from _, ⟨rfl, ⟨x, by simp, hbx⟩, World.cell?_setCell_same' _ _ _ (by rw [hcr]; rfl)⟩, hB.setCell (p := ⟨w.heap.size, 0, none⟩) (Nat.le_refl _) _⟩
  case done =>
    rintro D ys W hD hys ⟨⟨hne, hcr, hfr⟩, hB⟩ hK
    have hkf : (splitB p.data.toList).any tsB = false := by
      rw [← hys, List.any_map, List.any_eq_false]
      intro x hx
      have := hne x hx
      simpa using this
    gi_wp2
    have hK' := (KeepsOthers.setCell W ⟨w.heap.size, 0, none⟩ (.bool false)).same D _ hK rfl
    refine ⟨by simp, .inl ⟨_, _, rfl, run_takeDeferred hK', ?_⟩⟩
    have hc5 := cell_kept (World.cell?_setCell_same' W ⟨w.heap.size, 0, none⟩ (.bool false) (by rw [hcr]; rfl)) (grownBy_putObj' _ D (.deferred none)) (fun r e => by cases e; exact ⟨_, hK', rfl⟩)
    refine ⟨.bool false, ?_, by rw [hkey, hkf], (hB.setCell (p := ⟨w.heap.size, 0, none⟩) (Nat.le_refl _) _).trans (belowK_b (w := w) (Nat.le_refl _) _ D _ _ (by simp at hD; omega) hK' rfl rfl)⟩
    simp [results, Tryd.f26, go_sem, hc5]
  case stop =>
    rintro D c pre W hD ⟨rest, hk⟩ ⟨⟨rfl, ⟨x, hx, hx2⟩, hcr⟩, hB⟩ hK
    have hkf : (splitB p.data.toList).any tsB = true := by
      rw [← hk, List.any_append, List.any_map, Bool.or_eq_true]
      exact .inl (List.any_eq_true.2 ⟨x, hx, hx2⟩)
    gi_wp2
    refine ⟨by simp, .inl ⟨_, _, rfl, run_takeDeferred hK, ?_⟩⟩
    have hc5 := cell_kept hcr (grownBy_putObj' _ D (.deferred none)) (fun r e => by cases e; exact ⟨_, hK, rfl⟩)
    refine ⟨.bool true, ?_, by rw [hkey, hkf], hB.trans (belowK_b (w := w) (Nat.le_refl _) W D _ _ (by simp at hD; omega) hK rfl rfl)⟩
    simp [results, Tryd.f26, go_sem, hc5]

theorem kept_any (p : ByteArray) (hs : p.size ≤ 4611686018427387904) (w : World) :
    Calls Tryd.prog 26 #[.string p] w fun e w' => e = .returned (.bool (keptL p.data.toList)) ∧ Below w.heap.size w w' :=
  (callsIn_wide (n := 3)).1 (kept_in Fence.wide 3 trivial trivial trivial trivial trivial trivial rfl (by omega) p hs (fun m s W => callsIn_wide.2 (Any.strings_IndexByte Tryd.indexByte s 47 W)) (fun m W => callsIn_wide.2 (valid_any p W hs)) (fun m s q W => callsIn_wide.2 (Any.strings_HasPrefix Tryd.hasPrefix s q W)) w)

/-- The k-th temporary name. -/
def tempS (k : Nat) : ByteArray := ⟨#[46, 116, 115, 45]⟩ ++ ⟨(Lib.decDigits k).toArray⟩
theorem digits_len {k : Nat} (hk : k < 100) : (Lib.decDigits k).length ≤ 2 := by
  by_cases h : k < 10
  · rw [Lib.decDigits_one h]
    simp
  · rw [Lib.decDigits_two h hk]
    simp
theorem temp_any (k : Nat) (hk : k < 100) (w : World) :
    Calls Tryd.prog 27 #[.int .i64 k] w fun e w' => e = .returned (.string (tempS k)) ∧ w' = w := by
  have h0 : (0 : Int) ≤ (k : Int) := by omega
  have h1 : (k : Int) ≤ 9999 := by omega
  have h2 : ¬ 9223372036854775807 < 4 + (Lib.decDigits k).length := by have := digits_len hk; omega
  go_enter Tryd.func27, Tryd.ntmps27
  go_wp2_with (go_at_call 43; refine (Any.strconv_Itoa_small Tryd.itoaSmall k hk _).mono ?_; rintro e w' ⟨rfl, rfl⟩)
  go_ret
  exact ⟨rfl, rfl⟩
end Go.Proofs.YtioonfceamgpmaaDoor
