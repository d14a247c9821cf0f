/- InsKit, TreeF, LooseF, laid together. -/
import Derived.Test.YtahkpkaodeeemaaGreatJ16
import Derived.Lib.SliceRun
import Derived.Test.YtahkpkaodeeemaaGreatJ4
import Derived.Shelf.Strings.LastIndex
import Derived.Test.YtahkpkaodeeemaaGreatJ10
import Derived.Test.YtahkpkaodeeemaaGreatJ7
namespace Go.Proofs.YtahkpkaodeeemaaGreat
open Go.RowKit
set_option linter.unusedVariables false

theorem Sep.lit_empty {w0 w : World} {As : List Asn} (h : Sep w0 w As) (e : TypeId) (sz : Nat) : Sep w0 (w.alloc (.cells #[] e)) (.sl e sz (.slice (some ⟨w.heap.size, 0, none⟩) 0 0) 0 [] :: As) := by
  have hown := World.ownsRow_lit (base := 0) (e := e) (size := sz) w #[] 0 (Nat.zero_le _) (Nat.zero_le _) (by simp)
  exact h.new (F := [w.heap.size]) ((Below.refl _ _).alloc (Nat.le_refl _) _) ⟨hown, rfl⟩ (by simp)

/-! Instructions. -/
structure Ins where
  op : Int
  path : ByteArray
  to : ByteArray
  mode : Int
  ref : Int
def Ins.cells (x : Ins) : List Value := [.int .i64 x.op, .string x.path, .string x.to, .int .i64 x.mode, .int .i64 x.ref]
theorem Ins.cells_len (x : Ins) : x.cells.length = 5 := rfl
def insCells (xs : List Ins) : List Value := xs.flatMap Ins.cells
theorem insCells_len (xs : List Ins) : (insCells xs).length = xs.length * 5 := by
  induction xs with
  | nil => rfl
  | cons x xs ih =>
    unfold insCells at *
    rw [List.flatMap_cons, List.length_append, ih, List.length_cons, Ins.cells_len]
    omega
theorem insCells_snoc (xs : List Ins) (x : Ins) : insCells (xs ++ [x]) = insCells xs ++ x.cells := by simp [insCells]
theorem insCells_one {xs : List Ins} {u : Value} (h : u ∈ insCells xs) : u.oneCell' = true := by
  unfold insCells at h
  obtain ⟨x, _, hx⟩ := List.mem_flatMap.1 h
  unfold Ins.cells at hx
  simp at hx
  rcases hx with rfl | rfl | rfl | rfl | rfl <;> rfl
/-- The cells of the i-th instruction. -/
theorem insCells_at {xs : List Ins} {i : Nat} {x : Ins} (h : xs[i]? = some x) (f : Nat) (hf : f < 5) : (insCells xs)[i * 5 + f]? = x.cells[f]? := by
  induction xs generalizing i with
  | nil => simp at h
  | cons y xs ih =>
    unfold insCells
    rw [List.flatMap_cons]
    cases i with
    | zero =>
      simp at h
      subst h
      rw [List.getElem?_append_left (by rw [Ins.cells_len]; omega)]
      congr 1
      omega
    | succ i =>
      have h' : xs[i]? = some x := by simpa using h
      have e : (i + 1) * 5 + f - y.cells.length = i * 5 + f := by rw [Ins.cells_len]; omega
      rw [List.getElem?_append_right (by rw [Ins.cells_len]; omega), e]
      exact ih h'
def InsAt (w : World) (v : Value) (xs : List Ins) : Prop := Rd w 5 v xs.length (insCells xs)
def insR (v : Value) (xs : List Ins) : Asn := .sl 26 5 v xs.length (insCells xs)
theorem insR_at {w : World} {F : List Nat} {v : Value} {xs : List Ins} (h : (insR v xs).on w F) : InsAt w v xs := sl_rd h
theorem Sep.ins {w0 w : World} {As : List Asn} (i : Nat) {v : Value} {xs : List Ins} (h : Sep w0 w As) (hi : As[i]? = some (insR v xs)) : InsAt w v xs := by
  obtain ⟨F, ho, _⟩ := h.get i hi
  exact insR_at ho
theorem InsAt.shape {w : World} {v : Value} {xs : List Ins} (h : InsAt w v xs) : ∃ A c, v = .slice A xs.length c ∧ xs.length ≤ maxLen := Rd.shape h
theorem InsAt.below {w w' : World} {v : Value} {xs : List Ins} (h : InsAt w v xs) (hb : Below w.heap.size w w') : InsAt w' v xs := Rd.below h hb
theorem info_ins : (Tryz.prog.info? 26).map (fun i => (i.zero, i.size, i.bytes)) = some (some (.agg #[.int .i64 0, .string ⟨#[]⟩, .string ⟨#[]⟩, .int .i64 0, .int .i64 0]), 5, 56) := by kernel_rfl

end Go.Proofs.YtahkpkaodeeemaaGreat

namespace Go.Proofs.YtahkpkaodeeemaaGreat
open Go.RowKit Go.Shelf
set_option linter.unusedVariables false

/-! Rows of equal parts. -/
theorem chunk_len {α : Type} (f : α → List Value) (m : Nat) (hf : ∀ x, (f x).length = m) (xs : List α) : (xs.flatMap f).length = xs.length * m := by
  induction xs with
  | nil => simp
  | cons x xs ih => rw [List.flatMap_cons, List.length_append, ih, hf, List.length_cons, Nat.add_mul, Nat.one_mul, Nat.add_comm]
theorem chunk_at {α : Type} (f : α → List Value) (m : Nat) (hf : ∀ x, (f x).length = m) {xs : List α} {i : Nat} {x : α} (h : xs[i]? = some x) (j : Nat) (hj : j < m) : (xs.flatMap f)[i * m + j]? = (f x)[j]? := by
  induction xs generalizing i with
  | nil => simp at h
  | cons y xs ih =>
    rw [List.flatMap_cons]
    cases i with
    | zero =>
      simp at h
      subst h
      rw [Nat.zero_mul, Nat.zero_add, List.getElem?_append_left (by rw [hf]; exact hj)]
    | succ i =>
      have e : (i + 1) * m + j - (f y).length = i * m + j := by rw [hf, Nat.add_mul]; omega
      rw [List.getElem?_append_right (by rw [hf, Nat.add_mul]; omega), e]
      exact ih (by simpa using h)
theorem spot_none' {w : World} {ad : Addr} {u : Value} (h : w.cell? ad = some u) : ad.spot = none := by
  unfold World.cell? at h
  split at h
  · split at h
    · cases h
    · rename_i hs
      cases hb : ad.spot with
      | none => rfl
      | some s => rw [hb] at hs; simp at hs
  · cases h
/-- Where cells lie. -/
theorem Rd.place {w : World} {sz n : Nat} {v : Value} {cs : List Value} (h : Rd w sz v n cs) (h0 : 0 < n) (hsz : 0 < sz) :
    ∃ g o c, v = .slice (some ⟨g, o, none⟩) n c ∧ n ≤ c ∧ c ≤ maxLen ∧ g < w.heap.size ∧ ∀ w', Below w.heap.size w w' → ∀ j, j < n * sz → w'.cell? ⟨g, o + j, none⟩ = cs[j]? := by
  obtain ⟨hl, A, c, rfl, h1, h2, h3⟩ := h
  obtain ⟨ad, rfl, hb, hc⟩ := h3 h0
  have hpos : 0 < cs.length := by rw [hl]; exact Nat.mul_pos h0 hsz
  have hsp : ad.spot = none := by
    have h4 := hc 0 _ (List.getElem?_eq_getElem hpos)
    rw [add_zero'] at h4
    exact spot_none' h4
  obtain ⟨g, o, s⟩ := ad
  simp only at hsp
  subst hsp
  refine ⟨g, o, c, rfl, h1, h2, hb, fun w' hw' j hj => ?_⟩
  have hj' : j < cs.length := by rw [hl]; exact hj
  have h4 := hc j _ (List.getElem?_eq_getElem hj')
  rw [Addr.add_lit] at h4
  rw [List.getElem?_eq_getElem hj', ← h4]
  exact hw'.cell hb

/-! Flat trees. -/
/-- A file with its name: its path, its mode, how many bytes it has. -/
structure Ent where
  path : List UInt8
  mode : Int
  size : Nat
def strV (p : List UInt8) : Value := .string ⟨p.toArray⟩
def nodeC (x : Ent × Nat) : List Value := [strV x.1.path, .int .i64 x.2, .int .i64 0]
def nodeCells (es : List Ent) : List Value := es.zipIdx.flatMap nodeC
def fileC (x : Ent × Value) : List Value := [.int .i64 x.1.mode, x.2]
def fileCells (es : List Ent) (vs : List Value) : List Value := (es.zip vs).flatMap fileC
theorem nodeCells_len (es : List Ent) : (nodeCells es).length = es.length * 3 := by rw [nodeCells, chunk_len nodeC 3 (fun _ => rfl), List.length_zipIdx]
theorem nodeCells_at {es : List Ent} {i : Nat} {e : Ent} (h : es[i]? = some e) (j : Nat) (hj : j < 3) : (nodeCells es)[i * 3 + j]? = (nodeC (e, i))[j]? :=
  chunk_at nodeC 3 (fun _ => rfl) (by rw [List.getElem?_zipIdx, h]; simp) j hj
theorem fileCells_len {es : List Ent} {vs : List Value} (h : vs.length = es.length) : (fileCells es vs).length = es.length * 2 := by rw [fileCells, chunk_len fileC 2 (fun _ => rfl), List.length_zip, h, Nat.min_self]
theorem fileCells_at {es : List Ent} {vs : List Value} {i : Nat} {e : Ent} {u : Value} (h : es[i]? = some e) (hu : vs[i]? = some u) (j : Nat) (hj : j < 2) : (fileCells es vs)[i * 2 + j]? = (fileC (e, u))[j]? :=
  chunk_at fileC 2 (fun _ => rfl) (by rw [List.getElem?_zip_eq_some]; exact ⟨h, hu⟩) j hj

/-- Bytes in the memory: how many there are. -/
def DataAt (w : World) (v : Value) (n : Nat) : Prop := ∃ cs, Rd w 1 v n cs ∧ ∀ u ∈ cs, u.oneCell' = true
theorem DataAt.below {w w' : World} {v : Value} {n : Nat} (h : DataAt w v n) (hb : Below w.heap.size w w') : DataAt w' v n := by
  obtain ⟨cs, h1, h2⟩ := h
  exact ⟨cs, h1.below hb, h2⟩
theorem DataAt.shape {w : World} {v : Value} {n : Nat} (h : DataAt w v n) : ∃ A c, v = .slice A n c ∧ n ≤ maxLen := by
  obtain ⟨cs, h1, _⟩ := h
  exact h1.shape
structure FlatAt (w : World) (nv fv : Value) (es : List Ent) (vs : List Value) : Prop where
  len : vs.length = es.length
  nodes : Rd w 3 nv es.length (nodeCells es)
  files : Rd w 2 fv es.length (fileCells es vs)
  data : ∀ (k : Nat) u e, vs[k]? = some u → es[k]? = some e → DataAt w u e.size
theorem FlatAt.below {w w' : World} {nv fv : Value} {es : List Ent} {vs : List Value} (h : FlatAt w nv fv es vs) (hb : Below w.heap.size w w') : FlatAt w' nv fv es vs :=
  ⟨h.len, h.nodes.below hb, h.files.below hb, fun k u e hu he => (h.data k u e hu he).below hb⟩

/-- A name in the root. -/
structure RootName (p : List UInt8) : Prop where
  valid : validL p = true
  flat : (47 : UInt8) ∉ p
  short : p.length ≤ 100
  some : p ≠ []
structure FlatOk (es : List Ent) : Prop where
  few : es.length ≤ 100
  name : ∀ e ∈ es, RootName e.path
  mode : ∀ e ∈ es, 0 ≤ e.mode ∧ e.mode ≤ 511
  size : ∀ e ∈ es, e.size ≤ 8192
  up : es.Pairwise fun a b => Op.bytesLess a.path b.path = true

theorem strV_size (p : List UInt8) : (⟨p.toArray⟩ : ByteArray).size = p.length := rfl
theorem strV_data (p : List UInt8) : (⟨p.toArray⟩ : ByteArray).data.toList = p := rfl

theorem last_none {p : List UInt8} (h : (47 : UInt8) ∉ p) : Lib.lastIndexByte ⟨p.toArray⟩ 47 = -1 := by
  unfold Lib.lastIndexByte
  rcases Lib.lastIdx_spec ⟨p.toArray⟩ 47 (ByteArray.size ⟨p.toArray⟩) with ⟨h1, _⟩ | ⟨i, hi, _, h3, _⟩
  · exact h1
  · exfalso
    have hi' : i < p.length := hi
    have e : (ByteArray.mk p.toArray).data[i]! = p[i] := by simp [hi']
    rw [e] at h3
    have h4 : p[i] = 47 := by
      apply UInt8.toNat_inj.1
      have : (p[i]).toNat = 47 := by omega
      rw [this]
      rfl
    exact h (h4 ▸ List.getElem_mem hi')
theorem ext0 (s : ByteArray) : s.extract 0 (max 0 (-1 : Int)).toNat = ⟨([] : List UInt8).toArray⟩ := by
  have e0 : (max 0 (-1 : Int)).toNat = 0 := by decide
  rw [e0]
  have e : (s.extract 0 0).data.toList = [] := by rw [Lib.extract_data]; simp
  generalize s.extract 0 0 = t at e
  obtain ⟨⟨l⟩⟩ := t
  simp at e
  rw [e]
theorem parent_flat {p : List UInt8} (h : RootName p) (w : World) : Calls Tryz.prog 24 #[strV p] w fun e w' => e = .returned (strV []) ∧ Below w.heap.size w w' := by
  have hv := valid_any ⟨p.toArray⟩ w (by rw [strV_size]; have := h.short; omega)
  rw [strV_data, h.valid] at hv
  have hl := fun W => Go.Proofs.Any.strings_LastIndexByte Go.Proofs.Tryz.lastIndexByte ⟨p.toArray⟩ 47 (by rw [strV_size]; have := h.short; omega) W
  have hl' : ∀ W, Calls Tryz.prog 44 #[strV p, .int .u8 47] W fun e w' => e = .returned (.int .i64 (-1)) ∧ w' = W := by
    intro W
    have h1 := hl W
    rw [last_none h.flat] at h1
    exact h1
  clear hl
  unfold strV at *
  go_enter Tryz.func24, Tryz.ntmps24
  go_wp2_with (first
    | (go_at_call 23; refine hv.mono ?_; rintro e w1 ⟨rfl, hb⟩)
    | (go_at_call 44; refine (hl' _).mono ?_; rintro e w2 ⟨rfl, hw2⟩; have hw3 := hw2.symm; clear hw2; subst hw3)
    | fail)
  go_ret
  refine ⟨?_, hb⟩
  have e : (⟨p.toArray⟩ : ByteArray).extract 0 (max 0 (-1 : Int)).toNat = ⟨([] : List UInt8).toArray⟩ := ext0 _
  rw [e]
  rfl
theorem mode_any (m : Int) (w : World) : Calls Tryz.prog 25 #[.int .i64 m] w fun e w' => e = .returned (.bool (decide (0 ≤ m) && decide (m ≤ 511))) ∧ w' = w := by
  by_cases h : 0 ≤ m
  · go_enter Tryz.func25, Tryz.ntmps25
    go_wp2_with fail
    go_ret
    exact ⟨by simp [h], rfl⟩
  · have h2 : m < 0 := by omega
    have e1 : decide (0 ≤ m) = false := by simpa using h2
    rw [e1]
    clear e1
    go_enter Tryz.func25, Tryz.ntmps25
    go_wp2_with fail
    go_ret
    exact ⟨rfl, rfl⟩
end Go.Proofs.YtahkpkaodeeemaaGreat

namespace Go.Proofs.YtahkpkaodeeemaaGreat
open Go.RowKit
set_option linter.unusedVariables false

theorem small_one {n : Nat} (h : n ≤ 8192) (m : Int) (A : Option Addr) (c : Nat) (w : World) : Calls Tryz.prog 43 #[.agg #[.int .i64 m, .slice A n c]] w fun e w' => e = .returned (.bool false) ∧ Below w.heap.size w w' := by
  have b1 : decide ((8192 : Int) < (n : Int)) = false := by simp; omega
  have hb := Lib.hid (Below.new w (.cells #[.int .i64 m, .slice A n c] 42))
  go_enter Tryz.func43, Tryz.ntmps43
  go_wp2_with fail
  go_ret
  exact ⟨rfl, hb.out⟩
set_option maxRecDepth 100000 in
theorem index_small {w : World} {nv fv : Value} {es : List Ent} {vs : List Value} (h : FlatAt w nv fv es vs) (ho : FlatOk es) :
    Calls Tryz.prog 61 #[fv, .func (.func 43) #[] #[]] w fun e w' => e = .returned (.int .i64 (-1)) ∧ Below w.heap.size w w' := by
  have hf := ho.few
  rcases Nat.eq_zero_or_pos es.length with h0 | h0
  · obtain ⟨A, c, rfl, _⟩ := h.files.shape
    have hb := Lib.hid (Below.refl w.heap.size w)
    rw [h0]
    clear h ho hf h0
    go_enter Tryz.func61, Tryz.ntmps61
    go_wp2_with fail
    refine wp_loop_rounds 1 ?_
    rw [rounds_succ]
    go_wp2_with fail
    go_ret
    exact ⟨rfl, hb.out⟩
  obtain ⟨g, o, c, rfl, hc, hcm, hg, hcell⟩ := h.files.place h0 (by decide)
  have hcell' := Lib.hid hcell
  have h' := Lib.hid h
  have ho' := Lib.hid ho
  have b1 : (es.length : Int) ≤ 100 := by omega
  clear hcell h ho
  go_enter Tryz.func61, Tryz.ntmps61
  go_wp2_with fail
  go_loopw [8] (fun iv wr => ∃ k : Nat, k ≤ es.length ∧ iv = .int .i64 k ∧ Below w.heap.size w wr) (fun iv _ => es.length - (intOf iv).toNat)
  case atStart => exact ⟨0, Nat.zero_le _, rfl, Below.refl _ _⟩
  case round =>
    obtain ⟨k, hk, rfl, hb⟩ := hrel
    have q1 : (0 : Int) ≤ (k : Int) := by omega
    have hb' := Lib.hid hb
    by_cases hlt : k < es.length
    · have q2 : (k : Int) < (es.length : Int) := by omega
      obtain ⟨e, he⟩ : ∃ e, es[k]? = some e := ⟨_, List.getElem?_eq_getElem hlt⟩
      obtain ⟨u, hu⟩ : ∃ u, vs[k]? = some u := ⟨_, List.getElem?_eq_getElem (by rw [h'.out.len]; exact hlt)⟩
      obtain ⟨A, c9, rfl, _⟩ := (h'.out.data k u e hu he).shape
      have c0 := (hcell'.out wr hb (k * 2) (by omega)).trans (fileCells_at he hu 0 (by omega))
      have c1 := (hcell'.out wr hb (k * 2 + 1) (by omega)).trans (fileCells_at he hu 1 (by omega))
      simp only [fileC, List.getElem?_cons_zero, List.getElem?_cons_succ, ← Nat.add_assoc] at c0 c1
      have hone := fun W => small_one (ho'.out.size e (List.mem_of_getElem? he)) e.mode A c9 W
      have hone' := Lib.hid hone
      clear hone he hu hb
      go_wp2_with (first
        | (go_at_call 43; refine (hone'.out _).mono ?_; rintro e w2 ⟨rfl, hb2⟩; have hb3 := Lib.hid (hb'.out.trans (hb2.mono hb'.out.size)); clear hb2)
        | fail)
      go_roundw
      case rel => exact ⟨k + 1, by omega, by go_num, hb3.out⟩
      case measure => simp [intOf]; omega
    · obtain rfl : k = es.length := by omega
      clear hb
      go_wp2_with fail
      go_ret
      exact ⟨rfl, hb'.out⟩
theorem contains_small {w : World} {nv fv : Value} {es : List Ent} {vs : List Value} (h : FlatAt w nv fv es vs) (ho : FlatOk es) :
    Calls Tryz.prog 42 #[fv, .func (.func 43) #[] #[]] w fun e w' => e = .returned (.bool false) ∧ Below w.heap.size w w' := by
  have hi := Lib.hid (index_small h ho)
  obtain ⟨A, c, rfl, _⟩ := h.files.shape
  go_enter Tryz.func42, Tryz.ntmps42
  go_wp2_with (go_at_call 61; refine hi.out.mono ?_; rintro e w' ⟨rfl, hb⟩)
  go_ret
  exact ⟨rfl, hb⟩
set_option maxRecDepth 100000 in
theorem bound_flat {w : World} {nv fv : Value} {es : List Ent} {vs : List Value} (h : FlatAt w nv fv es vs) (ho : FlatOk es) :
    Calls Tryz.prog 22 #[.agg #[nv, fv]] w fun e w' => e = .returned (.bool false) ∧ Below w.heap.size w w' := by
  have hb0 := Below.new w (.cells #[nv, fv] 34)
  have hi := Lib.hid (contains_small (h.below hb0) ho)
  have hb0' := Lib.hid hb0
  obtain ⟨A, c, rfl, _⟩ := h.files.shape
  obtain ⟨A2, c2, rfl, _⟩ := h.nodes.shape
  have hf := ho.few
  have b1 : decide ((256 : Int) < (es.length : Int)) = false := by simp; omega
  clear h ho hb0
  go_enter Tryz.func22, Tryz.ntmps22
  go_wp2_with (first | (go_at_call 42; refine hi.out.mono ?_; rintro e w' ⟨rfl, hb⟩) | fail)
  go_ret
  exact ⟨rfl, hb0'.out.trans (hb.mono hb0'.out.size)⟩
end Go.Proofs.YtahkpkaodeeemaaGreat
