/- LooseG, Held, laid together. -/
import Derived.Test.YtahkpkaodeeemaaGreatJ17
import Derived.Deep.RegionHeld3
import Derived.Deep.Draws
namespace Go.Proofs.YtahkpkaodeeemaaGreat
open Go.RowKit
set_option linter.unusedVariables false

theorem keyed_str : Maps.Keyed Tryz.prog 9 := Maps.string_keyed Tryz.underlying9
theorem keyOf_strV (p : List UInt8) (h : p.length ≤ maxLen) : keyOf Tryz.prog 9 (strV p) = some (.string p) := by
  rw [keyOf_string Tryz.underlying9]
  simp [mapKey, Tryz.underlying9, strV, ByteArray.size, h]
theorem zero_int' (w : World) : (zeroValue 3).run Tryz.prog w = .ok (.int .i64 0) w := by kernel_rfl
theorem bl_toList (p : List UInt8) : (⟨p.toArray⟩ : ByteArray).toList = p := by rw [Lib.toList_data]
theorem bl_irrefl (p : List UInt8) : Op.bytesLess p p = false := by
  induction p with
  | nil => rfl
  | cons a p ih => simp [Op.bytesLess, ih]
theorem bl_asymm : ∀ {p q : List UInt8}, Op.bytesLess p q = true → Op.bytesLess q p = false
  | [], [], h => by simp [Op.bytesLess] at h
  | [], _ :: _, _ => rfl
  | _ :: _, [], h => by simp [Op.bytesLess] at h
  | a :: p, b :: q, h => by
    unfold Op.bytesLess at h ⊢
    rw [Bool.or_eq_true, Bool.and_eq_true, beq_iff_eq, decide_eq_true_eq] at h
    rcases h with h | ⟨rfl, h⟩
    · have h1 : ¬ b < a := fun h2 => by
        have := UInt8.lt_iff_toNat_lt.1 h
        have := UInt8.lt_iff_toNat_lt.1 h2
        omega
      have h2 : b ≠ a := fun e => by subst e; exact absurd h (by simp)
      simp [h1, h2]
    · simp [bl_asymm h]
/-- The path ahead of the i-th. -/
def lastP (es : List Ent) : Nat → List UInt8
  | 0 => []
  | i + 1 => ((es[i]?).map (·.path)).getD []
theorem lastP_less {es : List Ent} (ho : FlatOk es) {i : Nat} {e : Ent} (he : es[i]? = some e) : Op.bytesLess e.path (lastP es i) = false ∧ e.path ≠ lastP es i := by
  cases i with
  | zero =>
    refine ⟨?_, (ho.name e (List.mem_of_getElem? he)).some⟩
    show Op.bytesLess e.path [] = false
    cases e.path <;> rfl
  | succ i =>
    obtain ⟨hlt, hee⟩ := List.getElem?_eq_some_iff.1 he
    have h1 := List.pairwise_iff_getElem.1 ho.up i (i + 1) (by omega) hlt (by omega)
    rw [hee] at h1
    have e1 : lastP es (i + 1) = es[i].path := by
      show ((es[i]?).map (·.path)).getD [] = _
      rw [List.getElem?_eq_getElem (show i < es.length by omega)]
      rfl
    rw [e1]
    refine ⟨bl_asymm h1, fun e2 => ?_⟩
    rw [e2, bl_irrefl] at h1
    cases h1

set_option maxRecDepth 100000 in
set_option maxHeartbeats 2000000 in
theorem loose_flat {w : World} {nv fv : Value} {es : List Ent} {vs : List Value} (h : FlatAt w nv fv es vs) (ho : FlatOk es) :
    Calls Tryz.prog 10 #[.agg #[nv, fv]] w fun e w' => e = .returned (.int .i64 0) ∧ Below w.heap.size w w' := by
  have hS0 := (Sep.nil w).box_new 34 #[nv, fv]
  have hbo := Lib.hid (bound_flat (h.below hS0.below) ho)
  obtain ⟨A1, c1, rfl, hm1⟩ := h.nodes.shape
  obtain ⟨A2, c2, rfl, hm2⟩ := h.files.shape
  have hS0' := Lib.hid hS0
  have h' := Lib.hid h
  have ho' := Lib.hid ho
  have hf := ho.few
  have b0 : (es.length : Int) ≤ 100 := by omega
  have hmm := @run_makeMap Tryz.prog
  clear h ho hS0
  go_enter Tryz.func10, Tryz.ntmps10
  go_wp2_with fail
  refine wp_scope_labels (fun _ => .skip) (fun _ _ _ _ => False) (fun _ _ _ _ h => h.elim) ?_ (fun _ _ _ _ h => h.elim)
  go_wp2_with (first
    | (go_at_call 22; refine hbo.out.mono ?_; rintro e w1 ⟨rfl, hb1⟩; (have hS1 := (hS0'.out.pure hb1).gmap_new 9); obtain ⟨w2, hmu, hS2⟩ := hS1.gmap_put 0 rfl keyed_str Tryz.underlying68 (by unfold maxLen; omega) (v := .int .i64 1) (keyOf_strV [] (by simp)); (have d0 : w2.cell? ⟨w.heap.size, 0, none⟩ = some (.slice A1 es.length c1) := by rw [hS2.box_cell 1 rfl 0]; rfl); (have d1 : w2.cell? ⟨w.heap.size, 1, none⟩ = some (.slice A2 es.length c2) := by rw [hS2.box_cell 1 rfl 1]; rfl); simp only [strV] at hmu; (have hS2' := Lib.hid hS2); clear hS1 hS2 hb1)
    | fail)
  generalize hb9 : w1.heap.size = b at hS2' ⊢
  clear hb9 hmu hbo hmm
  go_loopw [4, 5, 17] (fun fl la iv wr => ∃ (i m : Nat) (L : List (Lit × Value)), i ≤ es.length ∧ iv = .int .i64 i ∧ fl = .int .i64 i ∧ la = strV (lastP es i) ∧ m ≤ i + 1 ∧ Hid (getM L (.string []) = some (.int .i64 1)) ∧ Sep w wr [gmapR 9 b m L, .box w.heap.size 34 #[.slice A1 es.length c1, .slice A2 es.length c2]]) (fun _ _ iv _ => es.length - (intOf iv).toNat)
  case atStart => exact ⟨0, 1, _, Nat.zero_le _, rfl, rfl, rfl, by omega, Lib.hid rfl, hS2'.out⟩
  case round =>
    obtain ⟨i, m, L, hi, rfl, rfl, rfl, hm, hroot, hS⟩ := hrel
    have q1 : (0 : Int) ≤ (i : Int) := by omega
    by_cases hlt : i < es.length
    · have q2 : (i : Int) < (es.length : Int) := by omega
      have q3 : ¬ (i : Int) < -1 := by omega
      have q4 : ((i : Int) == -1) = false := by first | (simp; done) | (simp; omega)
      obtain ⟨g, o, c, e, hc, hcm, hg, hcell⟩ := h'.out.nodes.place (by omega) (by decide)
      simp only [Value.slice.injEq] at e
      obtain ⟨rfl, _, rfl⟩ := e
      obtain ⟨e, he⟩ : ∃ e, es[i]? = some e := ⟨_, List.getElem?_eq_getElem hlt⟩
      have hem := List.mem_of_getElem? he
      have x0 := (hcell wr hS.below (i * 3) (by omega)).trans (nodeCells_at he 0 (by omega))
      have x1 := (hcell wr hS.below (i * 3 + 1) (by omega)).trans (nodeCells_at he 1 (by omega))
      have x2 := (hcell wr hS.below (i * 3 + 2) (by omega)).trans (nodeCells_at he 2 (by omega))
      simp only [nodeC, strV, List.getElem?_cons_zero, List.getElem?_cons_succ, ← Nat.add_assoc] at x0 x1 x2
      have hX := Lib.hid (hS.box_new 40 #[strV e.path, .int .i64 i, .int .i64 0])
      have hva := fun W => valid_any ⟨e.path.toArray⟩ W (by rw [strV_size]; have := (ho'.out.name e hem).short; omega)
      simp only [(ho'.out.name e hem).valid] at hva
      have hpa := fun W => parent_flat (ho'.out.name e hem) W
      obtain ⟨l1, l2⟩ := lastP_less ho'.out he
      have l5 : (e.path == lastP es i) = false := by simpa using l2
      have hsh : e.path.length ≤ maxLen := by have := (ho'.out.name e hem).short; unfold maxLen; omega
      have hno : e.path ≠ [] := (ho'.out.name e hem).some
      have hva' := Lib.hid hva
      have hpa' := Lib.hid hpa
      have he' := Lib.hid he
      unfold strV at *
      clear hS hcell hem hva hpa l2 he
      go_wp2_with (first
        | (go_at_call 23; refine (hva'.out _).mono ?_; rintro e3 w3 ⟨rfl, hb3⟩; (have hX3 := hX.out.pure hb3); (have y0 := hX3.box_cell 0 rfl 0); simp only [List.getElem?_toArray, List.getElem?_cons_zero] at y0; (have hX3' := Lib.hid hX3); clear hX3 hb3)
        | (go_at_call 24; refine (hpa'.out _).mono ?_; rintro e4 w4 ⟨rfl, hb4⟩; (have hX4 := hX3'.out.pure hb4); (have z0 := hX4.box_cell 0 rfl 0); (have z1 := hX4.box_cell 0 rfl 1); (have z2 := hX4.box_cell 0 rfl 2); (have hlk := hX4.gmap_look 1 rfl keyed_str Tryz.underlying68 (zero_int' _) (keyOf_strV [] (by simp))); rw [hroot.out] at hlk; obtain ⟨w5, hup, hX5⟩ := hX4.gmap_put 1 rfl keyed_str Tryz.underlying68 (by unfold maxLen; omega) (v := .int .i64 2) (keyOf_strV e.path hsh); (have u0 := hX5.box_cell 0 rfl 0); (have u1 := hX5.box_cell 0 rfl 1); (have u2 := hX5.box_cell 0 rfl 2); simp only [List.getElem?_toArray, List.getElem?_cons_zero, List.getElem?_cons_succ, strV, Option.getD_some] at z0 z1 z2 u0 u1 u2 hlk hup; (have hX5' := Lib.hid hX5); clear hX4 hX5 hb4 y0)
        | fail)
      go_roundw
      case rel =>
        have hfin : ∃ (i' m' : Nat) (L' : List (Lit × Value)), i' ≤ es.length ∧ Value.int .i64 ((i : Int) + 1) = .int .i64 i' ∧ Value.int .i64 ((i : Int) + 1) = .int .i64 i' ∧ Value.string ⟨e.path.toArray⟩ = strV (lastP es i') ∧ m' ≤ i' + 1 ∧ Hid (getM L' (.string []) = some (.int .i64 1)) ∧ Sep w w5 [gmapR 9 b m' L', .box w.heap.size 34 #[.slice (some ⟨g, o, none⟩) es.length c1, .slice A2 es.length c2]] := by
          refine ⟨i + 1, m + 1, putM L (.string e.path) (.int .i64 2), by omega, by go_num, by go_num, ?_, by omega, ?_, Sep.drop 1 hX5'.out⟩
          · show strV e.path = strV (((es[i]?).map (·.path)).getD [])
            rw [he'.out]
            rfl
          · show getM _ _ = _
            rw [getM_put (by simp [WideAt.IsKeyLit]) _ _ (by simp [WideAt.IsKeyLit]), if_neg (by simp [Lit.sameKey]; exact hno)]
            exact hroot.out
        first
          | exact hfin
          | (repeat apply Exists.intro; exact ⟨hfin, rfl⟩)
      case measure => simp [intOf]; omega
    · obtain rfl : i = es.length := by omega
      have q9 : ((es.length : Int) != (es.length : Int)) = false := by simp
      have t0 := hS.box_cell 1 rfl 1
      simp only [List.getElem?_toArray, List.getElem?_cons_zero, List.getElem?_cons_succ] at t0
      have hS9 := Lib.hid hS
      unfold strV at *
      clear hS
      go_wp2_with fail
      have hmo := Lib.hid ho'.out.mode
      go_loopw [85] (fun iv wr2 => ∃ k : Nat, k ≤ es.length ∧ iv = .int .i64 k ∧ Below w.heap.size w wr2) (fun iv _ => es.length - (intOf iv).toNat)
      case atStart => exact ⟨0, Nat.zero_le _, rfl, hS9.out.below⟩
      case round =>
        obtain ⟨k, hk, rfl, hb⟩ := hrel
        have q1 : (0 : Int) ≤ (k : Int) := by omega
        have hb' := Lib.hid hb
        by_cases hlt : k < es.length
        · have q2 : (k : Int) < (es.length : Int) := by omega
          obtain ⟨g, o, c, e, hc, hcm, hg, hcell⟩ := h'.out.files.place (by omega) (by decide)
          simp only [Value.slice.injEq] at e
          obtain ⟨rfl, _, rfl⟩ := e
          obtain ⟨e, he⟩ : ∃ e, es[k]? = some e := ⟨_, List.getElem?_eq_getElem hlt⟩
          obtain ⟨u, hu⟩ : ∃ u, vs[k]? = some u := ⟨_, List.getElem?_eq_getElem (by rw [h'.out.len]; exact hlt)⟩
          have c0 := (hcell _ hb (k * 2) (by omega)).trans (fileCells_at he hu 0 (by omega))
          have c1' := (hcell _ hb (k * 2 + 1) (by omega)).trans (fileCells_at he hu 1 (by omega))
          simp only [fileC, List.getElem?_cons_zero, List.getElem?_cons_succ, ← Nat.add_assoc] at c0 c1'
          obtain ⟨A, c9, rfl, _⟩ := (h'.out.data k u e hu he).shape
          obtain ⟨m1, m2⟩ := hmo.out e (List.mem_of_getElem? he)
          have hmd := fun W => mode_any e.mode W
          have hmt : (decide (0 ≤ e.mode) && decide (e.mode ≤ 511)) = true := by simp [m1, m2]
          simp only [hmt] at hmd
          have hmd' := Lib.hid hmd
          clear hmd hcell he hu hb m1 m2 hmt
          go_wp2_with (first
            | (go_at_call 25; refine (hmd'.out _).mono ?_; rintro e3 w3 ⟨rfl, hw3⟩; subst hw3)
            | fail)
          exact ⟨⟨k + 1, by omega, by go_num, hb'.out.alloc hb'.out.size _⟩, by simp [intOf]; omega⟩
        · obtain rfl : k = es.length := by omega
          clear hb
          go_wp2_with fail
          simp only [Jumps]
          go_ret
          exact ⟨rfl, hb'.out⟩
end Go.Proofs.YtahkpkaodeeemaaGreat

namespace Go.Proofs.YtahkpkaodeeemaaGreat
open Go

section
variable {P : Program} {ops : Array Oper} {Q : Exit → Act → World → Prop} {md : Region.Mode} {S : World → Prop} {z : Nat}

def wpE (P : Program) (md : Region.Mode) (ops : Array Oper) (Q : Exit → Act → World → Prop) (S : World → Prop) (z : Nat) : Nat → Array Bool → Act → World → Prop
  | 0, l, a, w => Region.ready md ops l = [] ∧ Q .normal a w
  | f + 1, l, a, w =>
    (Region.ready md ops l = [] → Q .normal a w) ∧
    ∀ i ∈ Region.ready md ops l, wpOp P ops Q i (fun a' w' => (i ≠ z → S w') ∧ wpE P md ops Q S z f (l.setIfInBounds i true) a' w') a w

theorem wpAny_of_E : ∀ (f : Nat) (l : Array Bool) (a : Act) (w : World), wpE P md ops Q S z f l a w → wpAny P md ops Q f l a w
  | 0, _, _, _, h => h
  | f + 1, _, _, _, h => ⟨h.1, fun i hi => wpOp_mono (fun a' w' h' => wpAny_of_E f _ a' w' h'.2) (h.2 i hi)⟩

/-- Number z waits for number i. -/
def lastB (md : Region.Mode) (ops : Array Oper) (z i : Nat) : Bool :=
  match ops[z]? with
  | none => false
  | some o => o.after.toList.any fun e => Region.binds md e && e.on == i
theorem last_waits {l : Array Bool} {i : Nat} (hz : lastB md ops z i = true) (hi : i ∈ Region.ready md ops l) : z ∉ Region.ready md ops l := fun h => by
  obtain ⟨_, oz, hoz, hall⟩ := mem_ready.1 h
  unfold lastB at hz
  rw [hoz] at hz
  obtain ⟨x, hx, hb⟩ := List.any_eq_true.1 hz
  simp only [Bool.and_eq_true, beq_iff_eq] at hb
  have h1 := hall x (by simpa using hx) hb.1
  have h0 := (mem_ready.1 hi).1
  rw [hb.2] at h1
  rcases Nat.lt_or_ge i l.size with h' | h'
  · simp [h'] at h0 h1; rw [h0] at h1; cases h1
  · simp [Array.getElem?_eq_none h'] at h1

theorem wpE_first {i : Nat} {oi : Oper} {v : Value} (hi : ops[i]? = some oi) (hz : lastB md ops z i = true) (hsel : ∀ (j : Nat) (o : Oper) cs b, ops[j]? = some o → o.op ≠ .select cs b)
    (hQ : ∀ c a w, Q (.panic c) (a.put oi.dst v) w → Q (.panic c) a w) :
    ∀ (f : Nat) (l : Array Bool) (a : Act) (w : World),
      (∀ j oj, ops[j]? = some oj → j ≠ i → l.getD j true = false → (∀ e ∈ oj.after, Region.binds md e = true → e.on ≠ i) → oi.apart ops oj = true) →
      i ∈ Region.ready md ops l → YieldsIf P ops S oi v a → S w →
      wpE P md ops Q S z f (l.setIfInBounds i true) (a.put oi.dst v) w → wpE P md ops Q S z (f + 1) l a w := by
  intro f
  induction f with
  | zero =>
    intro l a w _ hr hy hS H
    refine ⟨fun h => (by rw [h] at hr; cases hr), fun j hj => ?_⟩
    by_cases e : j = i
    · subst e
      exact hy.wpOp hi hS ⟨fun _ => hS, H⟩
    · have := ready_mono hj e
      rw [H.1] at this
      cases this
  | succ f ih =>
    intro l a w hfree hr hy hS H
    refine ⟨fun h => (by rw [h] at hr; cases hr), fun j hj => ?_⟩
    by_cases e : j = i
    · subst e
      exact hy.wpOp hi hS ⟨fun _ => hS, H⟩
    · have h1 := H.2 j (ready_mono hj e)
      obtain ⟨hjun, oj, hoj, hall⟩ := mem_ready.1 hj
      have hnot : ∀ x ∈ oj.after, Region.binds md x = true → x.on ≠ i := fun x hx hb heq => by
        have h1 := hall x hx hb
        have h0 := (mem_ready.1 hr).1
        rw [heq] at h1
        rcases Nat.lt_or_ge i l.size with h' | h'
        · simp [h'] at h0 h1; rw [h0] at h1; cases h1
        · simp [Array.getElem?_eq_none h'] at h1
      have h2 := wpOp_putIf hoj (hfree j oj hoj e hjun hnot) (fun cs b => hsel i oi cs b hi) (fun cs b => hsel j oj cs b hoj) hQ hy h1
      have hstill := ready_mono hr (Ne.symm e)
      have hi' : i ∈ Region.ready md ops ((l.setIfInBounds j true)) := hstill
      have hfree' : ∀ k ok, ops[k]? = some ok → k ≠ i → (l.setIfInBounds j true).getD k true = false →
          (∀ x ∈ ok.after, Region.binds md x = true → x.on ≠ i) → oi.apart ops ok = true := fun k ok hk hki hun hno => by
        refine hfree k ok hk hki ?_ hno
        by_cases hjk : j = k
        · subst hjk; exact hjun
        · rw [getD_set_ne true hjk] at hun; exact hun
      have hjz : j ≠ z := fun e' => by
        subst e'
        exact last_waits hz hr hj
      refine wpOp_mono (fun a' w' h3 => ⟨fun _ => h3.2.1 hjz, ih (l.setIfInBounds j true) a' w' hfree' hi' h3.1 (h3.2.1 hjz) ?_⟩) h2
      rw [Array.setIfInBounds_comm _ _ e]
      exact h3.2.2

theorem wpE_take {i : Nat} {oi : Oper} {v : Value} {f : Nat} {l : Array Bool} {a : Act} {w : World} (hi : ops[i]? = some oi) (hz : lastB md ops z i = true)
    (hs : Region.noSelect ops = true) (hf : Region.free md ops l i = true) (hr : (Region.ready md ops l).contains i = true)
    (hQ : ∀ c a w, Q (.panic c) (a.put oi.dst v) w → Q (.panic c) a w) (hy : YieldsIf P ops S oi v a) (hS : S w)
    (h : wpE P md ops Q S z f (l.setIfInBounds i true) (a.put oi.dst v) w) : wpE P md ops Q S z (f + 1) l a w :=
  wpE_first hi hz (Region.noSelect_spec hs) hQ f l a w (Region.free_spec hi hf) (by simpa using hr) hy hS h
theorem wpE_one {i : Nat} {o : Oper} {f : Nat} {l : Array Bool} {a : Act} {w : World} (hr : Region.ready md ops l = [i]) (ho : ops[i]? = some o)
    (h : ∀ K' : Act → World → Prop, (∀ a w, (i ≠ z → S w) → wpE P md ops Q S z f (l.setIfInBounds i true) a w → K' a w) → if Region.wanted o (yielded ops a.tmps) = true then Oper.wp P o a w K' Q else K' (a.put o.dst undef) w) : wpE P md ops Q S z (f + 1) l a w :=
  ⟨fun h0 => (by rw [hr] at h0; cases h0), fun j hj => by
    rw [hr] at hj
    obtain rfl : j = i := by simpa using hj
    exact wpOp_step ho fun K' hK => h K' fun a w h1 h2 => hK a w ⟨h1, h2⟩⟩
theorem wpE_done {l : Array Bool} {a : Act} {w : World} (hr : Region.ready md ops l = []) (h : Q .normal a w) : ∀ f, wpE P md ops Q S z f l a w
  | 0 => ⟨hr, h⟩
  | _ + 1 => ⟨fun _ => h, by rw [hr]; simp⟩
theorem wp_region_E {id : Nat} {a : Act} {w : World} (z : Nat) (hm : P.follows .mixedOrders = true)
    (h : wpE P .any ops Q S z ops.size (Array.replicate ops.size false) a w.drew) : (Code.region id ops true).wp P Q a w :=
  wp_region_any hm (wpAny_of_E _ _ _ _ h)
end
end Go.Proofs.YtahkpkaodeeemaaGreat
