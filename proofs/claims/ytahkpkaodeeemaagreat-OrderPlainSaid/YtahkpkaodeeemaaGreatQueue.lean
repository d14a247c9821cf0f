/- order's queue: BinarySearchFunc, Insert at the end, Delete; put, take. Walked. -/
import Derived.Test.YtahkpkaodeeemaaGreatSortC
import Derived.Test.YtahkpkaodeeemaaGreatApp
import Derived.Test.YtahkpkaodeeemaaGreatShelf16
import Derived.Shelf.Slices.Delete
namespace Go.Proofs.YtahkpkaodeeemaaGreat
open Go.RowKit
set_option linter.unusedVariables false

theorem minus_any (a b : Int) (w : World) (ha : 0 ≤ a ∧ a ≤ 1048576) (hb : 0 ≤ b ∧ b ≤ 1048576) :
    Calls Tryz.prog 12 #[.int .i64 a, .int .i64 b] w fun e w' => e = .returned (.int .i64 (a - b)) ∧ w = w' := by
  obtain ⟨a1, a2⟩ := ha
  obtain ⟨b1, b2⟩ := hb
  go_enter Tryz.func12, Tryz.ntmps12
  go_wp2
  go_ret
  exact ⟨rfl, rfl⟩

set_option maxRecDepth 100000 in
set_option maxHeartbeats 1000000 in
/-- The place of a number greater than all. -/
theorem bsearch_any {xs : List Int} {w : World} {v : Value} (h : IntsAt w v xs) (x : Int) (hx : 0 ≤ x ∧ x ≤ 1048576) (hlt : ∀ y ∈ xs, 0 ≤ y ∧ y < x) (hl : xs.length ≤ 1048576) :
    Calls Tryz.prog 33 #[v, .int .i64 x, .func (.func 12) #[] #[]] w fun e w' => e = .returned (.tuple #[.int .i64 xs.length, .bool false]) ∧ w = w' := by
  obtain ⟨A, c, rfl, hm⟩ := h.shape
  unfold maxLen at hm
  have h' := Lib.hid h
  have hlt' := Lib.hid hlt
  clear h hlt
  go_enter Tryz.func33, Tryz.ntmps33
  go_wp2_with fail
  go_loopg [9, 10] xs.length (fun g lv hv wr => ∃ lo : Nat, lv = .int .i64 lo ∧ hv = .int .i64 xs.length ∧ lo ≤ xs.length ∧ Hid (g = xs.length - lo) ∧ w = wr)
  case atStart => exact ⟨0, rfl, rfl, Nat.zero_le _, Lib.hid (by omega), rfl⟩
  case round =>
    obtain ⟨lo, rfl, rfl, hlo, hg, rfl⟩ := hrel
    by_cases hc : lo < xs.length
    · have hmid : (lo + xs.length) / 2 < xs.length := by omega
      obtain ⟨ad, c', e, h3⟩ := h'.out.at_ hmid
      cases e
      have hy := hlt'.out _ (List.getElem_mem hmid)
      generalize xs[(lo + xs.length) / 2] = y at h3 hy
      have hcmp := minus_any y x w (by omega) hx
      obtain ⟨y1, y2⟩ := hy
      obtain ⟨x1, x2⟩ := hx
      have q1 : (0 : Int) ≤ (lo : Int) := by omega
      have q2 : (lo : Int) < (xs.length : Int) := by omega
      have q3 : (xs.length : Int) ≤ 1048576 := by omega
      have q4 : y - x < 0 := by omega
      go_wp2_with (go_at_call 12; refine hcmp.mono ?_; rintro e w' ⟨rfl, rfl⟩)
      go_roundg (xs.length - ((lo + xs.length) / 2 + 1))
      case measure => rw [hg.out]; omega
      case rel => exact ⟨(lo + xs.length) / 2 + 1, by rw [show ((lo : Int) + (xs.length : Int)) / 2 + 1 = (((lo + xs.length) / 2 + 1 : Nat) : Int) by omega], rfl, by omega, rfl, rfl⟩
    · obtain rfl : lo = xs.length := by omega
      go_wp2_with fail
      go_ret2
      exact ⟨rfl, rfl⟩

set_option maxRecDepth 100000 in
set_option maxHeartbeats 1000000 in
/-- slices.Insert at the end, one value. -/
theorem insert_end {w0 w : World} {As : List Asn} {v : Value} {xs : List Int} (k : Nat) (hS : Sep w0 w As) (hk : As[k]? = some (intsR v xs)) (x : Int) (g : Nat) (hg : w.cell? ⟨g, 0, none⟩ = some (.int .i64 x)) (hl : xs.length ≤ 1048576) :
    Calls Tryz.prog 34 #[v, .int .i64 xs.length, .slice (some ⟨g, 0, none⟩) 1 1] w fun e w' => ∃ v', e = .returned v' ∧ Sep w0 w' (As.set k (intsR v' (xs ++ [x]))) := by
  obtain ⟨i0, hinf, hz0, hz1, hz2⟩ := info_parts info_int
  obtain ⟨A, c, rfl, hm⟩ := (hS.ints k hk).shape
  unfold maxLen at hm
  obtain ⟨n, hn⟩ : ∃ n, xs.length = n := ⟨_, rfl⟩
  have hk2 : As[k]? = some (.sl 3 1 (.slice A n c) n (xs.map (.int .i64))) := by rw [hk, ← hn]; rfl
  have hcap : (n : Int) ≤ (c : Int) := by
    obtain ⟨A', c', e, h1, _⟩ := hS.sl_any k hk2
    cases e
    omega
  have hS' := Lib.hid hS
  have hk' := Lib.hid hk2
  rw [hn] at hm hl ⊢
  have hn' := Lib.hid hn
  clear hS hk hk2 hn
  have q1 : (0 : Int) ≤ (n : Int) := by omega
  have q2 : ((n : Int) == (n : Int)) = true := by simp
  have hcells : ∀ j u, [Value.int .i64 x][j]? = some u → w.cell? ((⟨g, 0, none⟩ : Addr).add j) = some u := by
    intro j u hu
    cases j with
    | zero => simp at hu; subst hu; exact hg
    | succ j => simp at hu
  have hcells' := Lib.hid hcells
  clear hcells
  go_enter Tryz.func34, Tryz.ntmps34
  go_wp2_with (first
    | (at_builtin; refine wpList_append_sep k rfl _ _ 27 rfl 3 i0 (.int .i64 0) 1 8 Tryz.underlying27 hinf hz0 hz1 hz2 rfl (by decide) hS'.out _ n (xs.map (.int .i64)) hk'.out rfl ⟨g, 0, none⟩ 1 1 [.int .i64 x] rfl rfl hcells'.out (by simp [Value.oneCell']) (by decide) (by unfold maxLen; omega) (by omega) ?_)
    | fail)
  all_goals
    intro g2 c2 w2 hS2 _
    have hS2' := Lib.hid hS2
    clear hS2
    go_wp2_with fail
    go_ret
    refine ⟨.slice (some ⟨g2, 0, none⟩) (n + 1) c2, rfl, ?_⟩
    have e : intsR (.slice (some ⟨g2, 0, none⟩) (n + 1) c2) (xs ++ [x]) = .sl 3 1 (.slice (some ⟨g2, 0, none⟩) (n + 1) c2) (n + 1) (xs.map (.int .i64) ++ [.int .i64 x]) := by
      unfold intsR
      rw [List.length_append, hn'.out, List.map_append]
      rfl
    rw [e]
    exact hS2'.out

/-- slices.Delete of the first. -/
theorem delete_any {w0 w : World} {As : List Asn} {v : Value} {xs : List Int} (k i : Nat) (h : Sep w0 w As) (hk : As[k]? = some (intsR v xs)) (hi : i < xs.length) :
    Calls Tryz.prog 38 #[v, .int .i64 i, .int .i64 (i + 1 : Nat)] w fun e w' => ∃ v', e = .returned v' ∧ Sep w0 w' (As.set k (intsR v' (xs.take i ++ xs.drop (i + 1)))) := by
  obtain ⟨g, c, rfl, _, hg, hc, hmax⟩ := h.sl_form k hk (by omega)
  have hH := ints_holds k h hk rfl
  have hcon := Go.Proofs.Any.slices_Delete_int Go.Proofs.Tryz.deleteInts g 0 c i (i + 1) xs w hH hc (by unfold maxLen at hmax; omega) (by omega) (by omega)
  change Calls Tryz.prog 38 _ _ _ at hcon
  refine hcon.mono ?_
  rintro e w' ⟨rfl, q, rfl⟩
  refine ⟨_, rfl, ?_⟩
  have hl : (xs.take i ++ xs.drop (i + 1)).length = xs.length - (i + 1 - i) := by rw [List.length_append, List.length_take, List.length_drop]; omega
  have hd : (xs.take i ++ xs.drop (i + 1) ++ List.replicate (i + 1 - i) 0).toArray.size = xs.length := by
    rw [List.size_toArray, List.length_append, hl, List.length_replicate]; omega
  have hS := h.sorted (α := Int) (Value.int .i64) k hk q (xs.take i ++ xs.drop (i + 1) ++ List.replicate (i + 1 - i) 0).toArray hd #[]
  have hlt : k < As.length := (List.getElem?_eq_some_iff.1 hk).1
  have hS2 := hS.sl_cut k (List.getElem?_set_self hlt) (xs.length - (i + 1 - i)) (by omega)
  rw [List.set_set] at hS2
  have e1 : intsR (.slice (some ⟨g, 0, none⟩) (xs.length - (i + 1 - i)) c) (xs.take i ++ xs.drop (i + 1)) = .sl 3 1 (.slice (some ⟨g, 0, none⟩) (xs.length - (i + 1 - i)) c) (xs.length - (i + 1 - i)) (((xs.take i ++ xs.drop (i + 1) ++ List.replicate (i + 1 - i) 0).toArray.toList.map (Value.int .i64)).take ((xs.length - (i + 1 - i)) * 1)) := by
    unfold intsR
    rw [hl]
    congr 1
    rw [Nat.mul_one, List.toList_toArray, List.map_append (l₁ := xs.take i ++ xs.drop (i + 1)) (l₂ := List.replicate (i + 1 - i) 0), List.take_left' (by rw [List.length_map, hl])]
  rw [e1]
  have e2 : Go.Proofs.sortWorld (Value.int .i64) w g 0 q (xs.take i ++ xs.drop (i + 1) ++ List.replicate (i + 1 - i) 0).toArray #[] = Go.Sort.putRow (Value.int .i64) (Go.Sort.ahead w q) g 0 (xs.take i ++ xs.drop (i + 1) ++ List.replicate (i + 1 - i) 0).toArray := by
    unfold Go.Proofs.sortWorld
    rw [Go.Sort.grow_empty]
  rw [e2] at hS2
  exact hS2

/-- The queue in the memory. -/
def queueCells (v : Value) : Array Value := #[v, .func (.func 12) #[] #[]]

set_option maxRecDepth 100000 in
set_option maxHeartbeats 1000000 in
/-- A number greater than all comes into the queue. -/
theorem put_any {w0 w : World} {R : List Asn} {b : Nat} {v : Value} {xs : List Int} (hS : Sep w0 w (.box b 51 (queueCells v) :: intsR v xs :: R)) (x : Int) (hx : 0 ≤ x ∧ x ≤ 1048576) (hlt : ∀ y ∈ xs, 0 ≤ y ∧ y < x) (hl : xs.length ≤ 1048576) :
    Calls Tryz.prog 16 #[.pointer (some ⟨b, 0, none⟩), .int .i64 x] w fun e w' => e = .returned (.tuple #[]) ∧ ∃ v', Sep w0 w' (.box b 51 (queueCells v') :: intsR v' (xs ++ [x]) :: R) := by
  have d0 : w.cell? ⟨b, 0, none⟩ = some v := by rw [hS.box_cell 0 rfl 0]; rfl
  have d1 : w.cell? ⟨b, 1, none⟩ = some (.func (.func 12) #[] #[]) := by rw [hS.box_cell 0 rfl 1]; rfl
  have hbs : ∀ W, Below w.heap.size w W → Calls Tryz.prog 33 #[v, .int .i64 x, .func (.func 12) #[] #[]] W fun e w' => e = .returned (.tuple #[.int .i64 xs.length, .bool false]) ∧ w' = W :=
    fun W hW => (bsearch_any ((hS.ints 1 rfl).below hW) x hx hlt hl).mono fun e w' h => ⟨h.1, h.2.symm⟩
  obtain ⟨A, c, rfl, _⟩ := (hS.ints 1 rfl).shape
  have hbs' := Lib.hid hbs
  have hS' := Lib.hid hS
  have hbq : ∀ n, Below w.heap.size w (w.drewN n) := fun n => ⟨rfl, rfl, rfl, Nat.le_refl _, fun _ _ => rfl⟩
  have hbq' := Lib.hid hbq
  clear hbs hS hbq
  go_enter Tryz.func16, Tryz.ntmps16
  go_wp2_with fail
  go_quiet ((go_at_call 33; exact Calls.quiet_of_same (hbs'.out _ (hbq'.out _))))
  have hSq := hS'.out.drewN nq
  generalize w.drewN nq = w1 at hSq ⊢
  have e0 : w1.cell? ⟨b, 0, none⟩ = some (.slice A xs.length c) := by rw [hSq.box_cell 0 rfl 0]; rfl
  have hSa := hSq.alloc (.cells #[.int .i64 x] 3)
  have e1 : (w1.alloc (.cells #[.int .i64 x] 3)).cell? ⟨b, 0, none⟩ = some (.slice A xs.length c) := by rw [hSa.box_cell 0 rfl 0]; rfl
  have hin := insert_end 1 hSa rfl x w1.heap.size (cell_one_new _ _ _ 0 _ rfl) hl
  have hin' := Lib.hid hin
  clear hin hSa hSq d0 d1
  go_wp2_with (go_at_call 34; refine hin'.out.mono ?_; rintro e w2 ⟨v2, rfl, hT⟩; obtain ⟨A2, c2, rfl, _⟩ := (hT.ints 1 rfl).shape; have f0 := hT.box_cell 0 rfl 0; have f1 := hT.box_frozen 0 rfl 0; have hT' := Lib.hid hT; clear hT)
  go_end0
  refine ⟨rfl, .slice A2 (xs.length + 1) c2, ?_⟩
  have h1 := hT'.out.box_stored 0 rfl 0 (.slice A2 (xs.length + 1) c2)
  rw [List.length_append] at h1
  exact h1

set_option maxRecDepth 100000 in
set_option maxHeartbeats 1000000 in
/-- The first is taken out. -/
theorem take_any {w0 w : World} {R : List Asn} {b : Nat} {v : Value} {y : Int} {xs : List Int} (hS : Sep w0 w (.box b 51 (queueCells v) :: intsR v (y :: xs) :: R)) :
    Calls Tryz.prog 20 #[.pointer (some ⟨b, 0, none⟩), .int .i64 0] w fun e w' => e = .returned (.int .i64 y) ∧ ∃ v', Sep w0 w' (.box b 51 (queueCells v') :: intsR v' xs :: R) := by
  obtain ⟨g, c, rfl, _⟩ := hS.sl_form 1 rfl (by simp)
  have d0 : w.cell? ⟨b, 0, none⟩ = some (.slice (some ⟨g, 0, none⟩) (y :: xs).length c) := by rw [hS.box_cell 0 rfl 0]; rfl
  have d1 : w.cell? ⟨g, 0, none⟩ = some (.int .i64 y) := by rw [hS.cellAt 1 rfl 0 (by simp)]; rfl
  have hde := delete_any 1 0 hS rfl (by simp)
  simp only [List.take_zero, List.nil_append, Nat.zero_add, List.drop_succ_cons, List.drop_zero] at hde
  have hpos : (0 : Int) < (((y :: xs).length : Nat) : Int) := by rw [List.length_cons]; omega
  generalize (y :: xs).length = n at d0 hde hpos
  have hde' := Lib.hid hde
  clear hde hS
  go_enter Tryz.func20, Tryz.ntmps20
  go_wp2_with (go_at_call 38; refine hde'.out.mono ?_; rintro e w2 ⟨v2, rfl, hT⟩; obtain ⟨A2, c2, rfl, _⟩ := (hT.ints 1 rfl).shape; have f0 := hT.box_cell 0 rfl 0; have f1 := hT.box_frozen 0 rfl 0; have hT' := Lib.hid hT; clear hT)
  go_ret
  refine ⟨rfl, .slice A2 xs.length c2, ?_⟩
  exact hT'.out.box_stored 0 rfl 0 (.slice A2 xs.length c2)
end Go.Proofs.YtahkpkaodeeemaaGreat
