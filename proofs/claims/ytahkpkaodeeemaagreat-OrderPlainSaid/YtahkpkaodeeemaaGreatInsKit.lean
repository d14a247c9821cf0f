/- Instructions in the memory; a literal without elements. -/
import Derived.Test.YtahkpkaodeeemaaGreatLent0
import Derived.Lib.SliceRun
namespace Go.Proofs.YtahkpkaodeeemaaGreat
open Go.RowKit
set_option linter.unusedVariables false

theorem Sep.lit_empty {w0 w : World} {As : List Asn} (h : Sep w0 w As) (e : TypeId) (sz : Nat) : Sep w0 (w.alloc (.cells #[] e)) (.sl e sz (.slice (some ⟨w.heap.size, 0, none⟩) 0 0) 0 [] :: As) := by
  have hown := World.ownsRow_lit (base := 0) (e := e) (size := sz) w #[] 0 (Nat.zero_le _) (Nat.zero_le _) (by simp)
  exact h.new (F := [w.heap.size]) ((Below.refl _ _).alloc (Nat.le_refl _) _) ⟨hown, rfl⟩ (by simp)

/-! Instructions. -/
structure Ins where
  op : Int
  path : ByteArray
  to : ByteArray
  mode : Int
  ref : Int
def Ins.cells (x : Ins) : List Value := [.int .i64 x.op, .string x.path, .string x.to, .int .i64 x.mode, .int .i64 x.ref]
theorem Ins.cells_len (x : Ins) : x.cells.length = 5 := rfl
def insCells (xs : List Ins) : List Value := xs.flatMap Ins.cells
theorem insCells_len (xs : List Ins) : (insCells xs).length = xs.length * 5 := by
  induction xs with
  | nil => rfl
  | cons x xs ih =>
    unfold insCells at *
    rw [List.flatMap_cons, List.length_append, ih, List.length_cons, Ins.cells_len]
    omega
theorem insCells_snoc (xs : List Ins) (x : Ins) : insCells (xs ++ [x]) = insCells xs ++ x.cells := by simp [insCells]
theorem insCells_one {xs : List Ins} {u : Value} (h : u ∈ insCells xs) : u.oneCell' = true := by
  unfold insCells at h
  obtain ⟨x, _, hx⟩ := List.mem_flatMap.1 h
  unfold Ins.cells at hx
  simp at hx
  rcases hx with rfl | rfl | rfl | rfl | rfl <;> rfl
/-- The cells of the i-th instruction. -/
theorem insCells_at {xs : List Ins} {i : Nat} {x : Ins} (h : xs[i]? = some x) (f : Nat) (hf : f < 5) : (insCells xs)[i * 5 + f]? = x.cells[f]? := by
  induction xs generalizing i with
  | nil => simp at h
  | cons y xs ih =>
    unfold insCells
    rw [List.flatMap_cons]
    cases i with
    | zero =>
      simp at h
      subst h
      rw [List.getElem?_append_left (by rw [Ins.cells_len]; omega)]
      congr 1
      omega
    | succ i =>
      have h' : xs[i]? = some x := by simpa using h
      have e : (i + 1) * 5 + f - y.cells.length = i * 5 + f := by rw [Ins.cells_len]; omega
      rw [List.getElem?_append_right (by rw [Ins.cells_len]; omega), e]
      exact ih h'
def InsAt (w : World) (v : Value) (xs : List Ins) : Prop := Rd w 5 v xs.length (insCells xs)
def insR (v : Value) (xs : List Ins) : Asn := .sl 26 5 v xs.length (insCells xs)
theorem insR_at {w : World} {F : List Nat} {v : Value} {xs : List Ins} (h : (insR v xs).on w F) : InsAt w v xs := sl_rd h
theorem Sep.ins {w0 w : World} {As : List Asn} (i : Nat) {v : Value} {xs : List Ins} (h : Sep w0 w As) (hi : As[i]? = some (insR v xs)) : InsAt w v xs := by
  obtain ⟨F, ho, _⟩ := h.get i hi
  exact insR_at ho
theorem InsAt.shape {w : World} {v : Value} {xs : List Ins} (h : InsAt w v xs) : ∃ A c, v = .slice A xs.length c ∧ xs.length ≤ maxLen := Rd.shape h
theorem InsAt.below {w w' : World} {v : Value} {xs : List Ins} (h : InsAt w v xs) (hb : Below w.heap.size w w') : InsAt w' v xs := Rd.below h hb
theorem info_ins : (Tryz.prog.info? 26).map (fun i => (i.zero, i.size, i.bytes)) = some (some (.agg #[.int .i64 0, .string ⟨#[]⟩, .string ⟨#[]⟩, .int .i64 0, .int .i64 0]), 5, 56) := by kernel_rfl

end Go.Proofs.YtahkpkaodeeemaaGreat
