/- slices.Clone over []int and over []Ins, walked. -/
import Derived.Test.YtioonfceamgpmaaDoorLent0
import Derived.Lib.SliceRun
namespace Go.Proofs.YtioonfceamgpmaaDoor
open Go.RowKit
set_option linter.unusedVariables false

theorem Sep.lit_empty {w0 w : World} {As : List Asn} (h : Sep w0 w As) (e : TypeId) (sz : Nat) : Sep w0 (w.alloc (.cells #[] e)) (.sl e sz (.slice (some ⟨w.heap.size, 0, none⟩) 0 0) 0 [] :: As) := by
  have hown := World.ownsRow_lit (base := 0) (e := e) (size := sz) w #[] 0 (Nat.zero_le _) (Nat.zero_le _) (by simp)
  exact h.new (F := [w.heap.size]) ((Below.refl _ _).alloc (Nat.le_refl _) _) ⟨hown, rfl⟩ (by simp)

set_option maxRecDepth 100000 in
theorem clone_ints_any {w : World} {v : Value} {xs : List Int} (h : IntsAt w v xs) (hl : xs.length ≤ 1048576) :
    Calls Tryd.prog 28 #[v] w fun e w' => ∃ v', e = .returned v' ∧ Sep w w' [intsR v' xs] := by
  obtain ⟨i0, hinf, hz0, hz1, hz2⟩ := info_parts info_int
  obtain ⟨A, c, rfl, _⟩ := h.shape
  have h' := Lib.hid h
  have re := fun (W : World) (a : Option Addr) (n c : Nat) => Lib.run_eql_slice_nil (P := Tryd.prog) W 27 3 a n c 0 0 Tryd.underlying27
  cases A with
  | none =>
    have h0 : xs = [] := by
      rcases Nat.eq_zero_or_pos xs.length with h0 | h0
      · exact List.eq_nil_of_length_eq_zero h0
      · obtain ⟨ad, _, e, _⟩ := h.at_ h0
        cases e
    clear h
    subst h0
    go_enter Tryd.func28, Tryd.ntmps28
    go_wp2_with fail
    go_ret
    exact ⟨_, rfl, intsR_nil (Sep.nil w)⟩
  | some ad =>
    clear h
    have hS := Lib.hid ((Sep.nil w).lit_empty 3 1)
    go_enter Tryd.func28, Tryd.ntmps28
    go_wp2_with (first
      | (at_builtin; refine wpList_append_any_sep 0 rfl _ _ 27 rfl 3 i0 (.int .i64 0) 1 8 Tryd.underlying27 hinf hz0 hz1 hz2 rfl (by decide) hS.out _ 0 [] rfl rfl (.slice (some ad) xs.length c) xs.length (xs.map (.int .i64)) rfl (h'.out.below hS.out.below) (by simp [Value.oneCell']) (by unfold maxLen; omega) (by omega) ?_)
      | fail)
    intro v' w' hS2 hsz
    have hS3 : Sep w w' [intsR v' xs] := by simpa [intsR] using hS2
    have hS3' := Lib.hid hS3
    clear hS2 hS3 hS hsz
    go_wp2_with fail
    go_ret
    exact ⟨v', rfl, hS3'.out⟩

/-! Instructions. -/
structure Ins where
  op : Int
  path : ByteArray
  to : ByteArray
  mode : Int
  ref : Int
def Ins.cells (x : Ins) : List Value := [.int .i64 x.op, .string x.path, .string x.to, .int .i64 x.mode, .int .i64 x.ref]
theorem Ins.cells_len (x : Ins) : x.cells.length = 5 := rfl
def insCells (xs : List Ins) : List Value := xs.flatMap Ins.cells
theorem insCells_len (xs : List Ins) : (insCells xs).length = xs.length * 5 := by
  induction xs with
  | nil => rfl
  | cons x xs ih =>
    unfold insCells at *
    rw [List.flatMap_cons, List.length_append, ih, List.length_cons, Ins.cells_len]
    omega
theorem insCells_snoc (xs : List Ins) (x : Ins) : insCells (xs ++ [x]) = insCells xs ++ x.cells := by simp [insCells]
theorem insCells_one {xs : List Ins} {u : Value} (h : u ∈ insCells xs) : u.oneCell' = true := by
  unfold insCells at h
  obtain ⟨x, _, hx⟩ := List.mem_flatMap.1 h
  unfold Ins.cells at hx
  simp at hx
  rcases hx with rfl | rfl | rfl | rfl | rfl <;> rfl
/-- The cells of the i-th instruction. -/
theorem insCells_at {xs : List Ins} {i : Nat} {x : Ins} (h : xs[i]? = some x) (f : Nat) (hf : f < 5) : (insCells xs)[i * 5 + f]? = x.cells[f]? := by
  induction xs generalizing i with
  | nil => simp at h
  | cons y xs ih =>
    unfold insCells
    rw [List.flatMap_cons]
    cases i with
    | zero =>
      simp at h
      subst h
      rw [List.getElem?_append_left (by rw [Ins.cells_len]; omega)]
      congr 1
      omega
    | succ i =>
      have h' : xs[i]? = some x := by simpa using h
      have e : (i + 1) * 5 + f - y.cells.length = i * 5 + f := by rw [Ins.cells_len]; omega
      rw [List.getElem?_append_right (by rw [Ins.cells_len]; omega), e]
      exact ih h'
def InsAt (w : World) (v : Value) (xs : List Ins) : Prop := Rd w 5 v xs.length (insCells xs)
def insR (v : Value) (xs : List Ins) : Asn := .sl 26 5 v xs.length (insCells xs)
theorem insR_at {w : World} {F : List Nat} {v : Value} {xs : List Ins} (h : (insR v xs).on w F) : InsAt w v xs := sl_rd h
theorem Sep.ins {w0 w : World} {As : List Asn} (i : Nat) {v : Value} {xs : List Ins} (h : Sep w0 w As) (hi : As[i]? = some (insR v xs)) : InsAt w v xs := by
  obtain ⟨F, ho, _⟩ := h.get i hi
  exact insR_at ho
theorem InsAt.shape {w : World} {v : Value} {xs : List Ins} (h : InsAt w v xs) : ∃ A c, v = .slice A xs.length c ∧ xs.length ≤ maxLen := Rd.shape h
theorem InsAt.below {w w' : World} {v : Value} {xs : List Ins} (h : InsAt w v xs) (hb : Below w.heap.size w w') : InsAt w' v xs := Rd.below h hb
theorem info_ins : (Tryd.prog.info? 26).map (fun i => (i.zero, i.size, i.bytes)) = some (some (.agg #[.int .i64 0, .string ⟨#[]⟩, .string ⟨#[]⟩, .int .i64 0, .int .i64 0]), 5, 56) := by kernel_rfl

set_option maxRecDepth 100000 in
theorem clone_ins_any {w : World} {v : Value} {xs : List Ins} (h : InsAt w v xs) (hl : xs.length ≤ 1048576) :
    Calls Tryd.prog 9 #[v] w fun e w' => ∃ v', e = .returned v' ∧ Sep w w' [insR v' xs] := by
  obtain ⟨i0, hinf, hz0, hz1, hz2⟩ := info_parts info_ins
  obtain ⟨A, c, rfl, _⟩ := h.shape
  have h' := Lib.hid h
  have re := fun (W : World) (a : Option Addr) (n c : Nat) => Lib.run_eql_slice_nil (P := Tryd.prog) W 23 26 a n c 0 0 Tryd.underlying23
  cases A with
  | none =>
    have h0 : xs = [] := by
      rcases Nat.eq_zero_or_pos xs.length with h0 | h0
      · exact List.eq_nil_of_length_eq_zero h0
      · obtain ⟨_, A, c', e, _, _, h3⟩ := h
        cases e
        obtain ⟨ad, e, _⟩ := h3 h0
        cases e
    clear h
    subst h0
    go_enter Tryd.func9, Tryd.ntmps9
    go_wp2_with fail
    go_ret
    exact ⟨_, rfl, (Sep.nil w).sl_nil _ _⟩
  | some ad =>
    clear h
    have hS := Lib.hid ((Sep.nil w).lit_empty 26 5)
    go_enter Tryd.func9, Tryd.ntmps9
    go_wp2_with (first
      | (at_builtin; refine wpList_append_any_sep 0 rfl _ _ 23 rfl 26 i0 _ 5 56 Tryd.underlying23 hinf hz0 hz1 hz2 rfl (by decide) hS.out _ 0 [] rfl rfl (.slice (some ad) xs.length c) xs.length (insCells xs) rfl (h'.out.below hS.out.below) (fun u hu => insCells_one hu) (by unfold maxLen; omega) (by omega) ?_)
      | fail)
    intro v' w' hS2 hsz
    have hS3 : Sep w w' [insR v' xs] := by simpa [insR] using hS2
    have hS3' := Lib.hid hS3
    clear hS2 hS3 hS hsz
    go_wp2_with fail
    go_ret
    exact ⟨v', rfl, hS3'.out⟩
end Go.Proofs.YtioonfceamgpmaaDoor
