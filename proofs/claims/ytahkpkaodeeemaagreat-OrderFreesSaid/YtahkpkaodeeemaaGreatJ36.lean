/- OrderT, laid together. -/
import Derived.Test.YtahkpkaodeeemaaGreatJ30
import Derived.Test.YtahkpkaodeeemaaGreatJ35
namespace Go.Proofs.YtahkpkaodeeemaaGreat
open Go.RowKit
set_option linter.unusedVariables false

set_option maxRecDepth 100000 in
theorem takeAt_any {w0 w : World} {R : List Asn} {b : Nat} {v : Value} {y : Int} {xs : List Int} {i : Nat} (hy : xs[i]? = some y) (hS : Sep w0 w (.box b 51 (queueCells v) :: intsR v xs :: R)) (hl : xs.length ≤ 1000) :
    Calls Tryz.prog 20 #[.pointer (some ⟨b, 0, none⟩), .int .i64 i] w fun e w' => e = .returned (.int .i64 y) ∧ ∃ v', Sep w0 w' (.box b 51 (queueCells v') :: intsR v' (xs.take i ++ xs.drop (i + 1)) :: R) := by
  have hi := (List.getElem?_eq_some_iff.1 hy).1
  obtain ⟨g, c, rfl, _⟩ := hS.sl_form 1 rfl (by omega)
  have d0 : w.cell? ⟨b, 0, none⟩ = some (.slice (some ⟨g, 0, none⟩) xs.length c) := by rw [hS.box_cell 0 rfl 0]; rfl
  have d1 : w.cell? ⟨g, i, none⟩ = some (.int .i64 y) := by rw [hS.cellAt 1 rfl i (by omega), List.getElem?_map, hy]; rfl
  have hde := delete_any 1 i hS rfl hi
  have q1 : (0 : Int) ≤ (i : Int) := by omega
  have q2 : (i : Int) < (xs.length : Int) := by omega
  have hw1 : IntKind.i64.wrap ((i : Int) + 1) = (i : Int) + 1 := IntWalk.i64_in _ (by omega)
  rw [show ((i + 1 : Nat) : Int) = (i : Int) + 1 by omega] at hde
  generalize hys : xs.take i ++ xs.drop (i + 1) = ys at hde ⊢
  generalize xs.length = n at d0 q2 hde
  have hde' := Lib.hid hde
  clear hde hS
  go_enter Tryz.func20, Tryz.ntmps20
  go_wp2_with (go_at_call 38; refine hde'.out.mono ?_; rintro e w2 ⟨v2, rfl, hT⟩; obtain ⟨A2, c2, rfl, _⟩ := (hT.ints 1 rfl).shape; have f0 := hT.box_cell 0 rfl 0; have f1 := hT.box_frozen 0 rfl 0; have hT' := Lib.hid hT; clear hT)
  go_ret
  exact ⟨rfl, _, hT'.out.box_stored 0 rfl 0 (.slice A2 ys.length c2)⟩

/-! The plain thrifty queue. -/
def lessG (a b : Int × Int) : Bool := decide (a.1 < b.1) || (decide (a.1 = b.1) && decide (a.2 < b.2))
/-- Which of the first k is the least. -/
def bestI (gr : Int → Int × Int) (r : List Int) : Nat → Nat
  | 0 => 0
  | k + 1 => if k = 0 ∨ lessG (gr (r.getD k 0)) (gr (r.getD (bestI gr r k) 0)) = true then k else bestI gr r k
def selQ (gr : Int → Int × Int) : Nat → List Int → List Int → List Int
  | 0, _, out => out
  | f + 1, r, out => if r = [] then out else selQ gr f (r.take (bestI gr r r.length) ++ r.drop (bestI gr r r.length + 1)) (out ++ [r.getD (bestI gr r r.length) 0])
theorem selQ_succ (gr : Int → Int × Int) (f : Nat) (r out : List Int) : selQ gr (f + 1) r out = if r = [] then out else selQ gr f (r.take (bestI gr r r.length) ++ r.drop (bestI gr r r.length + 1)) (out ++ [r.getD (bestI gr r r.length) 0]) := rfl
/-- The acts as they can be done, one behind the other, whichever of them is first. -/
structure Steps (w : World) (sv : Value) (xs : List Ins) (gr : Int → Int × Int) (Inv : List Int → List Ent → Prop) : Prop where
  flat : ∀ r es, Inv r es → FlatOk es ∧ es.length ≤ 15
  step : ∀ r es, Inv r es → ∀ (k : Nat) (i : Int), r[k]? = some i → ∃ (n : Nat) (x : Ins) (p to : List UInt8) (S : Ent → Prop), i = (n : Int) ∧ xs[n]? = some x ∧ x.path = ⟨p.toArray⟩ ∧ x.to = ⟨to.toArray⟩ ∧ RootName p ∧ Ascii p ∧ (∀ e, S e → RootName e.path ∧ (0 ≤ e.mode ∧ e.mode ≤ 511) ∧ e.size ≤ 8192) ∧
    Eff w es sv x.op p x.mode x.ref S (gr i).1 (gr i).2 ∧ ∀ es', FlatOk es' → (∀ e, e ∈ es' ↔ S e) → Inv (r.take k ++ r.drop (k + 1)) es'

theorem sortL_none : sortL [] = [] := List.eq_nil_of_length_eq_zero (by rw [(sortL_perm []).length_eq]; rfl)
theorem compact_none : Lib.compact ([] : List Int) = [] := List.eq_nil_of_length_eq_zero (by have := compact_len []; simpa using this)
def rangeI (i : Nat) : List Int := (List.range i).map fun (v : Nat) => (v : Int)
theorem rangeI_succ (i : Nat) : rangeI (i + 1) = rangeI i ++ [(i : Int)] := by simp [rangeI, List.range_succ]
theorem rangeI_lt {i : Nat} : ∀ y ∈ rangeI i, 0 ≤ y ∧ y < (i : Int) := by
  intro y hy
  obtain ⟨v, hv, rfl⟩ := List.mem_map.1 hy
  rw [List.mem_range] at hv
  omega
theorem rangeI_len (i : Nat) : (rangeI i).length = i := by simp [rangeI]
theorem replicate_set_self {α : Type} (m i : Nat) (a : α) : (List.replicate m a).set i a = List.replicate m a := by
  apply List.ext_getElem
  · simp
  · intro j h1 h2
    simp
def thrAs (q b gu m : Nat) (vr ov : Value) (ready out : List Int) (KT : Asn) (nv fv av sv : Value) : List Asn :=
  [.box q 51 (queueCells vr), intsR vr ready, intsR ov out, KT, .box b 34 #[nv, fv], .box (b + 1) 23 #[av], .box (b + 1 + 1) 37 #[sv], .sl 27 1 (.slice (some ⟨gu, 0, none⟩) m m) m (List.replicate m (.slice none 0 0))]
theorem wpE_two {P : Program} {md : Region.Mode} {ops : Array Oper} {Q : Exit → Act → World → Prop} {S : World → Prop} {z f : Nat} {l : Array Bool} {a : Act} {w : World} {i j : Nat} {o o2 : Oper} (hr : Region.ready md ops l = [i, j]) (ho : ops[i]? = some o) (ho2 : ops[j]? = some o2)
    (h : ∀ K' : Act → World → Prop, (∀ a w, (i ≠ z → S w) → wpE P md ops Q S z f (l.setIfInBounds i true) a w → K' a w) → if Region.wanted o (yielded ops a.tmps) = true then Oper.wp P o a w K' Q else K' (a.put o.dst undef) w)
    (h2 : ∀ K' : Act → World → Prop, (∀ a w, (j ≠ z → S w) → wpE P md ops Q S z f (l.setIfInBounds j true) a w → K' a w) → if Region.wanted o2 (yielded ops a.tmps) = true then Oper.wp P o2 a w K' Q else K' (a.put o2.dst undef) w) : wpE P md ops Q S z (f + 1) l a w :=
  ⟨fun h0 => (by rw [hr] at h0; cases h0), fun k hk => by
    rw [hr] at hk
    rcases List.mem_cons.1 hk with rfl | hk
    · exact wpOp_step ho fun K' hK => h K' fun a w h1 h2 => hK a w ⟨h1, h2⟩
    · obtain rfl : k = j := by simpa using hk
      exact wpOp_step ho2 fun K' hK => h2 K' fun a w h1 h2 => hK a w ⟨h1, h2⟩⟩
set_option maxRecDepth 100000 in
set_option maxHeartbeats 4000000 in
theorem order_thrift {m : Nat} {w : World} {vn : Value} (hn : RowsAt w vn (List.replicate m [])) (hm9 : m ≤ 15) (hx : refused (List.replicate m []) = 0) (hr : roundRows (List.replicate m []) = []) {nv fv av : Value} {Ak : Option Addr} {nk ck : Nat} {es : List Ent} {vs : List Value} (h : FlatAt w nv fv es vs) {xs : List Ins} (hxl : xs.length = m) (ha : InsAt w av xs) {gr : Int → Int × Int} {Inv : List Int → List Ent → Prop} (hI : Steps w (.slice Ak nk ck) xs gr Inv) (hi : Inv (rangeI m) es) :
    Calls Tryz.prog 7 #[.agg #[nv, fv], av, vn, .slice Ak nk ck, .bool true] w fun e w' => ∃ v, e = .returned (.tuple #[v, .int .i64 0]) ∧ Sep w w' [intsR v (selQ gr m (rangeI m) [])] := by
  obtain ⟨ho, h15⟩ := hI.flat _ _ hi
  have hlo := fun W (hW : Below w.heap.size w W) => loose_flat (h.below hW) ho
  have hro := fun W (hW : Below w.heap.size w W) => round_any (hn.below hW)
  rw [hx, hr] at hro
  obtain ⟨An, cn, rfl, hmn⟩ := hn.shape
  obtain ⟨A1, c1, rfl, hm1⟩ := h.nodes.shape
  obtain ⟨A2, c2, rfl, hm2⟩ := h.files.shape
  obtain ⟨Aa, ca, rfl, hma⟩ := ha.shape
  rw [List.length_replicate] at *
  have hro' := Lib.hid hro
  have hlo' := Lib.hid hlo
  obtain ⟨i0, hif, hz0, hz1, hz2⟩ := info_parts info_int
  obtain ⟨i1, hj, hy0, hy1, hy2⟩ := info_parts info_rowsQ
  have hmk1 := fun W : World => run_make_n (P := Tryz.prog) 27 3 i0 (.int .i64 0) 8 Tryz.underlying27 hif hz0 hz1 hz2 rfl .i64 .i64 m (by omega) (by unfold maxLen; omega) W
  have hmk2 := fun W : World => run_make_n (P := Tryz.prog) 24 27 i1 (.slice none 0 0) 24 Tryz.underlying24 hj hy0 hy1 hy2 rfl .i64 .i64 m (by omega) (by unfold maxLen; omega) W
  have hxlen' := Lib.hid hxl
  rw [hxl] at hma ha
  have hxl2 := hxl
  rw [hxl2]
  clear hxl2 hxl
  have hS0 := (((Sep.nil w).box_new 34 #[.slice A1 es.length c1, .slice A2 es.length c2]).box_new 23 #[.slice Aa m ca]).box_new 37 #[.slice Ak nk ck]
  simp only [World.size_alloc] at hS0
  have hS0' := Lib.hid hS0
  have hB0' := Lib.hid hS0.below
  have hn' := Lib.hid hn
  have h' := Lib.hid h
  have ha' := Lib.hid ha
  have hI' := Lib.hid hI
  have hi' := Lib.hid hi
  have b1 : ((m : Int) != (m : Int)) = false := by simp
  clear hro hlo hn hS0 hx hr h ha hI hi
  go_enter Tryz.func7, Tryz.ntmps7
  go_wp2_with (first
    | (go_at_call 10; refine (hlo'.out _ hB0'.out).mono ?_; rintro e w1 ⟨rfl, hb1⟩; have hS1 := Lib.hid (hS0'.out.pure hb1); have hb1' := Lib.hid hS1.out.below; clear hb1)
    | (go_at_call 11; refine (hro'.out _ hb1'.out).mono ?_; rintro e w2 ⟨v, rfl, hR⟩; obtain ⟨A9, c9, rfl⟩ := hR.len0; have hS2 := hS1.out.pure hR.below; (have d6 : w2.cell? ⟨w.heap.size + 1, 0, none⟩ = some (.slice Aa m ca) := by rw [hS2.box_cell 1 rfl 0]; rfl); have hS3 := hS2.made 3 (.int .i64 0) m (by unfold maxLen; omega); (have d7 : (w2.alloc (.cells (madeCells #[.int .i64 0] m) 3)).cell? ⟨w.heap.size + 1, 0, none⟩ = some (.slice Aa m ca) := by rw [hS3.box_cell 2 rfl 0]; rfl); have hS3' := Lib.hid hS3; clear hR hS2 hS3))
  have hS5 := ((hS3'.out.made 27 (.slice none 0 0) m (by unfold maxLen; omega)).sl_nil 3 1).box_new 51 (queueCells (.slice none 0 0))
  simp only [World.size_alloc] at hS5
  have hS8 := Sep.sel [0, 1, 3, 2, 4, 5, 6] hS5 (by decide) (by simp)
  simp only [List.map_cons, List.map_nil, List.take_succ_cons, List.take_zero, List.getD_cons_zero, List.getD_cons_succ, List.length_cons, List.length_nil, List.drop_succ_cons, List.drop_zero, List.append_nil] at hS8
  generalize w2.heap.size + 1 + 1 = q at hS8 ⊢
  generalize w2.heap.size + 1 = gu at hS8 ⊢
  generalize w2.heap.size = gw at hS8 ⊢
  have hS9 := Lib.hid hS8
  clear hS5 hS8 d6 d7 hmk1 hmk2 hS3' hS1 hS0' hlo' hro' hb1' hB0'
  go_loopw [68] (fun iv wr => ∃ (i : Nat) (vr : Value), i ≤ m ∧ iv = .int .i64 i ∧ Sep w wr [.box q 51 (queueCells vr), intsR vr (rangeI i), .sl 3 1 (.slice (some ⟨gw, 0, none⟩) m m) m (List.replicate m (.int .i64 0)), .sl 27 1 (.slice (some ⟨gu, 0, none⟩) m m) m (List.replicate m (.slice none 0 0)), .box (w.heap.size + 1 + 1) 37 #[.slice Ak nk ck], .box (w.heap.size + 1) 23 #[.slice Aa m ca], .box w.heap.size 34 #[.slice A1 es.length c1, .slice A2 es.length c2]]) (fun iv _ => m - (intOf iv).toNat)
  case atStart => exact ⟨0, _, Nat.zero_le _, rfl, hS9.out⟩
  case round =>
    clear hS9
    obtain ⟨i, vr, hi, rfl, hS⟩ := hrel
    by_cases hlt : i < m
    · have q1 : (0 : Int) ≤ (i : Int) := by omega
      have q2 : (i : Int) < (m : Int) := by omega
      obtain ⟨ad, c', ur, e, h3, h4⟩ := (hn'.out.below hS.below).at_ (k := i) (by rw [List.length_replicate]; exact hlt)
      rw [List.length_replicate] at e
      cases e
      rw [List.getElem_replicate] at h4
      obtain ⟨Ar, cr, rfl, hmr⟩ := h4.shape
      have hso' := Lib.hid (sorted_any (w := wr.alloc (.cells #[.slice Ar 0 cr] 27)) (Bs := wr.heap.size) (cap := cr) (A := Ar) (xs := []) (by simp) (by simp) (Boxed.new wr 27 (.slice Ar 0 cr)).cell (h4.below (Below.new wr _)))
      have hS' := Lib.hid hS
      simp only [List.length_nil] at h3
      clear hS h4
      go_wp2_with (first
        | (go_at_call 15; refine (values_any Ar 0 cr _).mono ?_; rintro e w4 ⟨rfl, rfl⟩)
        | (go_at_call 14; refine hso'.out.mono ?_; rintro e w5 ⟨v5, rfl, hS5⟩; (have hO5 := (hS'.out.alloc (.cells #[.slice Ar 0 cr] 27)).join hS5); rw [sortL_none] at hO5; (have hco5 := Lib.hid (compact_any 0 hO5 rfl (by simp))); rw [compact_none] at hco5; clear hS5 hO5)
        | (go_at_call 13; refine hco5.out.mono ?_; rintro e w6 ⟨v6, rfl, hO6⟩; obtain ⟨A6, c6, rfl, _⟩ := (hO6.ints 0 rfl).shape; (have hO7 := Sep.drop 1 hO6); have hO6' := Lib.hid hO7; clear hO6 hO7))
      have hS7 := hO6'.out.stored 2 rfl i (.int .i64 0)
      rw [replicate_set_self] at hS7
      have d2 := hO6'.out.cellAt 2 rfl i (by omega)
      rw [List.getElem?_replicate, if_pos hlt] at d2
      have d1 : w6.frozen? ⟨gw, i, none⟩ = false := hO6'.out.frozenAt 2 rfl i
      have d0 : (w6.setCell ⟨gw, i, none⟩ (.int .i64 0)).cell? ⟨gw, i, none⟩ = some (.int .i64 0) := by
        rw [hS7.cellAt 2 rfl i (by omega)]
        simp [hlt]
      have hpu' := Lib.hid (put_any hS7 (i : Int) (by omega) rangeI_lt (by rw [rangeI_len]; omega))
      rw [← rangeI_succ] at hpu'
      clear hS7 hO6' hco5 hso' hS'
      refine wp_loop_rounds 1 ?_
      rw [rounds_succ]
      go_wp2_with (go_at_call 16; refine hpu'.out.mono ?_; rintro e w9 ⟨rfl, v9, hP⟩; have hP' := Lib.hid hP; clear hP)
      exact ⟨⟨i + 1, v9, by omega, by go_num, hP'.out⟩, by simp [intOf]; omega⟩
    · obtain rfl : i = m := by omega
      have hst : Sep w wr (thrAs q w.heap.size gu i vr (.slice none 0 0) (rangeI i) [] .emp (.slice A1 es.length c1) (.slice A2 es.length c2) (.slice Aa i ca) (.slice Ak nk ck)) :=
        (Sep.drop 1 (Sep.sel [4, 2, 3, 1, 0, 8, 7, 6, 5] ((hS.sl_nil 3 1).emp_shut) (by decide) (by simp)))
      have hst' := Lib.hid hst
      clear hst hS
      go_wp2_with fail
      go_loopg [23] i (fun g ov wr3 => ∃ (f : Nat) (vr : Value) (ready out : List Int) (nv fv : Value) (es : List Ent) (vs : List Value) (KT : Asn), Hid (g = f) ∧ Hid (ready.length = f ∧ ready.length ≤ 15 ∧ out.length + ready.length ≤ 15) ∧ Hid (selQ gr f ready out = selQ gr i (rangeI i) []) ∧ Hid (Inv ready es) ∧ Hid (∀ (w' : World) (As : List Asn) (k : Nat), Sep w w' As → As[k]? = some KT → FlatAt w' nv fv es vs) ∧ Sep w wr3 (thrAs q w.heap.size gu i vr ov ready out KT nv fv (.slice Aa i ca) (.slice Ak nk ck)))
      case atStart => exact ⟨i, vr, rangeI i, [], _, _, es, vs, .emp, rfl, by rw [rangeI_len]; exact ⟨rfl, by omega, by simpa using hm9⟩, rfl, hi'.out, fun w' As k hs _ => h'.out.below hs.below, hst'.out⟩
      case round =>
        clear hst' h' hi'
        obtain ⟨f, vr, ready, out, nv, fv, es, vs, KT, hg, hlen, hsel, hinv, hkt, hS⟩ := hrel
        obtain ⟨hl1, hl2, hl3⟩ := hlen.out
        obtain ⟨Av, cv, rfl, _⟩ := (hS.ints 1 rfl).shape
        have d0 : wr.cell? ⟨q, 0, none⟩ = some (.slice Av ready.length cv) := by rw [hS.box_cell 0 rfl 0]; rfl
        by_cases hr0 : ready = []
        · subst hr0
          have hout : out = selQ gr i (rangeI i) [] := by
            rw [← hsel.out]
            simp at hl1
            subst hl1
            rfl
          have hS' := Lib.hid hS
          have hout' := Lib.hid hout
          simp only [List.length_nil] at d0
          clear hS hout
          go_wp2_with fail
          go_ret2
          refine ⟨_, rfl, ?_⟩
          rw [← hout'.out]
          exact hS'.out.last (n := 2) rfl
        · have hpos : (0 : Int) < (ready.length : Int) := by
            have := List.length_pos_iff.2 hr0
            omega
          obtain ⟨gv, cv', e, _⟩ := hS.sl_form 1 rfl (by omega)
          simp only [Value.slice.injEq] at e
          obtain ⟨rfl, _, rfl⟩ := e
          have hst := hI'.out.step ready es hinv.out
          have hfo := hI'.out.flat ready es hinv.out
          have hgr : ∀ k, k < ready.length → SmallI (gr (ready.getD k 0)).1 ∧ SmallI (gr (ready.getD k 0)).2 := fun k hk => by
            have hk2 : ready[k]? = some (ready.getD k 0) := by rw [List.getD_eq_getElem?_getD, List.getElem?_eq_getElem hk]; rfl
            obtain ⟨n, x, p, to, S, h1, h2, h3, h4, h5, h6, h7, h8, h9⟩ := hst k _ hk2
            have := h8.bounds hfo.1
            unfold SmallI
            omega
          have hbest : ∀ k, 0 < k → bestI gr ready k < k := fun k hk => by
            induction k with
            | zero => omega
            | succ k ih =>
              unfold bestI
              split
              · omega
              · rename_i hn
                have : 0 < k := by
                  rcases Nat.eq_zero_or_pos k with h0 | h0
                  · exact absurd (Or.inl h0) hn
                  · exact h0
                have := ih this
                omega
          have hS' := Lib.hid hS
          have hst' := Lib.hid hst
          have hgr' := Lib.hid hgr
          have hbest' := Lib.hid hbest
          have hfo' := Lib.hid hfo
          clear hst hgr hbest hfo hl1
          clear hS
          go_wp2_with fail
          rw [show decide (0 < ready.length) = true from decide_eq_true (by omega)]
          go_loopw [24, 25, 121] (fun bv lv kv wr4 => ∃ k : Nat, k ≤ ready.length ∧ kv = .int .i64 k ∧ bv = .int .i64 (bestI gr ready k : Nat) ∧ lv = (if k = 0 then Value.complex .f64 0 0 else cplx (gr (ready.getD (bestI gr ready k) 0)).1 (gr (ready.getD (bestI gr ready k) 0)).2) ∧ Sep w wr4 (thrAs q w.heap.size gu i (.slice (some ⟨gv, 0, none⟩) ready.length cv) u23 ready out KT nv fv (.slice Aa i ca) (.slice Ak nk ck))) (fun _ _ kv _ => ready.length - (intOf kv).toNat)
          case atStart => exact ⟨0, Nat.zero_le _, rfl, rfl, rfl, hS'.out⟩
          case round =>
            clear hS'
            obtain ⟨k, hk, rfl, rfl, rfl, hS4⟩ := hrel
            by_cases hlt : k < ready.length
            · have q1 : (0 : Int) ≤ (k : Int) := by omega
              have q2 : (k : Int) < (ready.length : Int) := by omega
              have hk2 : ready[k]? = some (ready.getD k 0) := by rw [List.getD_eq_getElem?_getD, List.getElem?_eq_getElem hlt]; rfl
              obtain ⟨n, x, p, to, S, h1, h2, h3, h4, h5, h6, h7, h8, h9⟩ := hst'.out k _ hk2
              have c0 := hS4.cellAt 1 rfl k (by omega)
              rw [List.getElem?_map, hk2, h1] at c0
              simp only [Option.map_some] at c0
              have hG : GrowIn wr w.heap.size (w.heap.size + 1) (w.heap.size + 1 + 1) nv fv (.slice Aa i ca) (.slice Ak nk ck) := ⟨by rw [hS4.box_cell 4 rfl 0]; rfl, by rw [hS4.box_cell 4 rfl 1]; rfl, by rw [hS4.box_cell 5 rfl 0]; rfl, by rw [hS4.box_cell 6 rfl 0]; rfl⟩
              have hgw := Lib.hid (growth_any hG (hkt.out _ _ 3 hS4 rfl) hfo'.out.1 hfo'.out.2 (ha'.out.below hS4.below) h2 h3 h4 (h8.below hS4.below) h5 h6)
              have hsm := hgr'.out k hlt
              have hS4' := Lib.hid hS4
              have hpure : Hid (∀ W, Below wr.heap.size wr W → Sep w W (thrAs q w.heap.size gu i (.slice (some ⟨gv, 0, none⟩) ready.length cv) u23 ready out KT nv fv (.slice Aa i ca) (.slice Ak nk ck))) := fun W hW => hS4'.out.pure hW
              clear hS4 h8 h9 h7 hk2 hG
              generalize hgk : gr (ready.getD k 0) = G at hgw hsm
              have hgk' := Lib.hid hgk
              clear hgk
              by_cases hk0 : k = 0
              · subst hk0
                have hb1 : bestI gr ready 1 = 0 := rfl
                rw [if_pos rfl]
                go_wp2_with (first
                  | (go_at_call 17; refine hgw.out.mono ?_; rintro e w5 ⟨rfl, hb5⟩; replace hb5 := Lib.hid hb5; clear hgw)
                  | fail)
                go_roundw
                case rel =>
                  exact ⟨1, by omega, by go_num, by rw [hb1]; rfl, by rw [if_neg (by decide), hb1, hgk'.out], hpure.out _ hb5.out⟩
                case measure => simp [intOf]; omega
              · have hkb := hbest'.out k (by omega)
                have hsm2 := hgr'.out (bestI gr ready k) (by omega)
                generalize hgb : gr (ready.getD (bestI gr ready k) 0) = Gb at hsm2 ⊢
                have hgb' := Lib.hid hgb
                have hls := cless_any G.1 G.2 Gb.1 Gb.2 hsm.1 hsm.2 hsm2.1 hsm2.2
                rw [if_neg hk0]
                have hbs : bestI gr ready (k + 1) = if lessG G Gb = true then k else bestI gr ready k := by
                  show (if k = 0 ∨ lessG (gr (ready.getD k 0)) (gr (ready.getD (bestI gr ready k) 0)) = true then k else bestI gr ready k) = _
                  rw [hgk'.out, hgb'.out]
                  by_cases hl : lessG G Gb = true
                  · rw [if_pos (Or.inr hl), if_pos hl]
                  · rw [if_neg (fun h0 => h0.elim hk0 hl), if_neg hl]
                have hbs' := Lib.hid hbs
                obtain ⟨bb, hbb⟩ : ∃ bb, bestI gr ready k = bb := ⟨_, rfl⟩
                rw [hbb] at hkb hbs' hgb' ⊢
                have hk1 : ((k : Int) == 0) = false := by rw [beq_eq_false_iff_ne]; omega
                obtain ⟨lb, hlb⟩ : ∃ lb, lessG G Gb = lb := ⟨_, rfl⟩
                have hlb2 : (decide (G.1 < Gb.1) || (decide (G.1 = Gb.1) && decide (G.2 < Gb.2))) = lb := hlb
                simp only [hlb2] at hls
                rw [hlb] at hbs'
                have hls' := Lib.hid hls
                clear hls hlb hlb2 hgb hbs hbb
                cases lb with
                | true =>
                  go_wp2_with (first
                    | (go_at_call 17; refine hgw.out.mono ?_; rintro e w5 ⟨rfl, hb5⟩; replace hb5 := Lib.hid hb5; clear hgw)
                    | (go_at_call 19; refine (hls'.out _).mono ?_; rintro e w6 ⟨rfl, rfl⟩)
                    | fail)
                  go_roundw
                  case rel =>
                    exact ⟨k + 1, by omega, by go_num, by rw [hbs'.out]; rfl, by rw [if_neg (by omega), hbs'.out]; show cplx G.1 G.2 = cplx (gr (ready.getD k 0)).1 (gr (ready.getD k 0)).2; rw [hgk'.out], hpure.out _ hb5.out⟩
                  case measure => simp [intOf]; omega
                | false =>
                  go_wp2_with (first
                    | (go_at_call 17; refine hgw.out.mono ?_; rintro e w5 ⟨rfl, hb5⟩; replace hb5 := Lib.hid hb5; clear hgw)
                    | (go_at_call 19; refine (hls'.out _).mono ?_; rintro e w6 ⟨rfl, rfl⟩)
                    | fail)
                  go_roundw
                  case rel =>
                    exact ⟨k + 1, by omega, by go_num, by rw [hbs'.out]; rfl, by rw [if_neg (by omega), hbs'.out, if_neg (by decide), hgb'.out], hpure.out _ hb5.out⟩
                  case measure => simp [intOf]; omega
            · obtain rfl : k = ready.length := by omega
              have hb := hbest'.out ready.length (by omega)
              obtain ⟨b, hbb⟩ : ∃ b, bestI gr ready ready.length = b := ⟨_, rfl⟩
              rw [hbb] at hb
              have hk2 : ready[b]? = some (ready.getD b 0) := by rw [List.getD_eq_getElem?_getD, List.getElem?_eq_getElem hb]; rfl
              obtain ⟨n, x, p, to, S, h1, h2, h3, h4, h5, h6, h7, h8, h9⟩ := hst'.out b _ hk2
              have hta := Lib.hid (takeAt_any hk2 hS4 (by omega))
              rw [h1] at hta
              rw [hbb]
              have hselN : Hid (selQ gr i (rangeI i) [] = selQ gr (f - 1) (ready.take b ++ ready.drop (b + 1)) (out ++ [(n : Int)])) := by
                have h := hsel.out
                have hl := hlen.out.1
                obtain ⟨f', rfl⟩ : ∃ f', f = f' + 1 := ⟨f - 1, by omega⟩
                rw [selQ_succ, if_neg hr0, hbb, h1] at h
                exact h.symm
              have h8' := Lib.hid h8
              have h9' := Lib.hid h9
              have h7' := Lib.hid h7
              have h2' := Lib.hid h2
              have h34' := Lib.hid (And.intro h3 h4)
              have hS4' := Lib.hid hS4
              clear hS4 h8 h9 h7 h2 h3 h4 hk2 hbb hst' hgr' hbest'
              go_wp2_with (first
                | (go_at_call 20; refine hta.out.mono ?_; rintro e w3 ⟨rfl, v3, hP⟩; replace hP := Lib.hid hP; clear hta)
                | fail)
              have hnl : n < xs.length := (List.getElem?_eq_some_iff.1 h2'.out).1
              have hxs : xs.length = i := hxlen'.out
              obtain ⟨ga, oa, ca', e, _, _, hga, hcell⟩ := Rd.place (ha'.out.below hP.out.below) (by omega) (by decide)
              rw [hxs] at e
              simp only [Value.slice.injEq] at e
              obtain ⟨rfl, _, rfl⟩ := e
              have m1 : ∀ w' : World, Below w3.heap.size w3 w' → w'.cell? ⟨w.heap.size, 0, none⟩ = some nv ∧ w'.cell? ⟨w.heap.size, 1, none⟩ = some fv ∧ w'.cell? ⟨w.heap.size + 1, 0, none⟩ = some (.slice (some ⟨ga, oa, none⟩) i ca) ∧ w'.cell? ⟨w.heap.size + 1 + 1, 0, none⟩ = some (.slice Ak nk ck) ∧ w'.cell? ⟨ga, oa + n * 5, none⟩ = some (.int .i64 x.op) ∧ w'.cell? ⟨ga, oa + n * 5 + 1, none⟩ = some (.string ⟨p.toArray⟩) ∧ w'.cell? ⟨ga, oa + n * 5 + 2, none⟩ = some (.string ⟨to.toArray⟩) ∧ w'.cell? ⟨ga, oa + n * 5 + 3, none⟩ = some (.int .i64 x.mode) ∧ w'.cell? ⟨ga, oa + n * 5 + 4, none⟩ = some (.int .i64 x.ref) := by
                intro w' hw
                have hG : GrowIn w' w.heap.size (w.heap.size + 1) (w.heap.size + 1 + 1) nv fv (.slice (some ⟨ga, oa, none⟩) i ca) (.slice Ak nk ck) := by
                  have hP4 := hP.out.pure hw
                  exact ⟨by rw [hP4.box_cell 4 rfl 0]; rfl, by rw [hP4.box_cell 4 rfl 1]; rfl, by rw [hP4.box_cell 5 rfl 0]; rfl, by rw [hP4.box_cell 6 rfl 0]; rfl⟩
                have hic := fun (f : Nat) (hf : f < 5) => (hcell w' hw (n * 5 + f) (by omega)).trans (insCells_at h2'.out f hf)
                obtain ⟨s0, s1, a0, k0⟩ := hG
                have e0 := hic 0 (by omega)
                have e1 := hic 1 (by omega)
                have e2 := hic 2 (by omega)
                have e3 := hic 3 (by omega)
                have e4 := hic 4 (by omega)
                simp only [Ins.cells, h34'.out.1, h34'.out.2, Nat.add_zero, ← Nat.add_assoc, List.getElem?_cons_zero, List.getElem?_cons_succ] at e0 e1 e2 e3 e4
                exact ⟨s0, s1, a0, k0, e0, e1, e2, e3, e4⟩
              have hdo := Lib.hid (fun (W : World) (hW : Below w3.heap.size w3 W) => Do_any (to := to) (hkt.out _ _ 3 (hP.out.pure hW) rfl) hfo'.out.1 hfo'.out.2 (h8'.out.below (hP.out.pure hW).below) h5 h6 h7'.out)
              have hE0 := m1 _ (Below.refl _ _).drew
              have m1' := Lib.hid m1
              have q1 : (0 : Int) ≤ (n : Int) := by omega
              have q2 : (n : Int) < (i : Int) := by omega
              unfold insV strV at hdo
              clear m1 hcell hga
              refine wp_region_E (S := fun w' => w'.cell? ⟨w.heap.size, 0, none⟩ = some nv ∧ w'.cell? ⟨w.heap.size, 1, none⟩ = some fv ∧ w'.cell? ⟨w.heap.size + 1, 0, none⟩ = some (.slice (some ⟨ga, oa, none⟩) i ca) ∧ w'.cell? ⟨w.heap.size + 1 + 1, 0, none⟩ = some (.slice Ak nk ck) ∧ w'.cell? ⟨ga, oa + n * 5, none⟩ = some (.int .i64 x.op) ∧ w'.cell? ⟨ga, oa + n * 5 + 1, none⟩ = some (.string ⟨p.toArray⟩) ∧ w'.cell? ⟨ga, oa + n * 5 + 2, none⟩ = some (.string ⟨to.toArray⟩) ∧ w'.cell? ⟨ga, oa + n * 5 + 3, none⟩ = some (.int .i64 x.mode) ∧ w'.cell? ⟨ga, oa + n * 5 + 4, none⟩ = some (.int .i64 x.ref)) 12 (by kernel_rfl) ?_
              simp only [List.size_toArray, List.length_cons, List.length_nil, Nat.reduceAdd]
              refine wpE_take (i := 0) (v := ?_) rfl (by kernel_rfl) (by kernel_rfl) (by kernel_rfl) (by kernel_rfl) (fun _ _ _ h => h) (Or.inl ⟨by rfl, ?_⟩) hE0 ?_
              rotate_left
              · intro w hw; obtain ⟨e1, e2, e3, e4, e5, e6, e7, e8, e9⟩ := hw; go_simp
                try with_reducible rfl
              simp only [Act.put]
              try simp only [List.setIfInBounds_toArray]
              refine wpE_take (i := 1) (v := ?_) rfl (by kernel_rfl) (by kernel_rfl) (by kernel_rfl) (by kernel_rfl) (fun _ _ _ h => h) (Or.inl ⟨by rfl, ?_⟩) hE0 ?_
              rotate_left
              · intro w hw; obtain ⟨e1, e2, e3, e4, e5, e6, e7, e8, e9⟩ := hw; go_simp
                try with_reducible rfl
              simp only [Act.put]
              try simp only [List.setIfInBounds_toArray]
              refine wpE_take (i := 2) (v := ?_) rfl (by kernel_rfl) (by kernel_rfl) (by kernel_rfl) (by kernel_rfl) (fun _ _ _ h => h) (Or.inl ⟨by rfl, ?_⟩) hE0 ?_
              rotate_left
              · intro w hw; obtain ⟨e1, e2, e3, e4, e5, e6, e7, e8, e9⟩ := hw; go_simp
                try with_reducible rfl
              simp only [Act.put]
              try simp only [List.setIfInBounds_toArray]
              refine wpE_take (i := 3) (v := ?_) rfl (by kernel_rfl) (by kernel_rfl) (by kernel_rfl) (by kernel_rfl) (fun _ _ _ h => h) (Or.inl ⟨by rfl, ?_⟩) hE0 ?_
              rotate_left
              · intro w hw; obtain ⟨e1, e2, e3, e4, e5, e6, e7, e8, e9⟩ := hw; go_simp
                try with_reducible rfl
              simp only [Act.put]
              try simp only [List.setIfInBounds_toArray]
              refine wpE_take (i := 4) (v := ?_) rfl (by kernel_rfl) (by kernel_rfl) (by kernel_rfl) (by kernel_rfl) (fun _ _ _ h => h) (Or.inl ⟨by rfl, ?_⟩) hE0 ?_
              rotate_left
              · intro w hw; obtain ⟨e1, e2, e3, e4, e5, e6, e7, e8, e9⟩ := hw; go_simp
                try with_reducible rfl
              simp only [Act.put]
              try simp only [List.setIfInBounds_toArray]
              refine wpE_take (i := 5) (v := ?_) rfl (by kernel_rfl) (by kernel_rfl) (by kernel_rfl) (by kernel_rfl) (fun _ _ _ h => h) (Or.inl ⟨by rfl, ?_⟩) hE0 ?_
              rotate_left
              · intro w hw; obtain ⟨e1, e2, e3, e4, e5, e6, e7, e8, e9⟩ := hw; go_simp
                try with_reducible rfl
              simp only [Act.put]
              try simp only [List.setIfInBounds_toArray]
              refine wpE_two (i := 6) (j := 10) (by kernel_rfl) rfl rfl (fun K hK => ?_) (fun K hK => ?_)
              focus
                have hB0 : Below w3.heap.size w3 w3.drew := (Below.refl _ _).drew
                go_simp
                go_at_call 21
                refine (hdo.out _ hB0).mono ?_
                rintro e w4 ⟨nv', fv', es', vs', rfl, hfo2, hset2, hs4⟩
                have hB4 : Below w3.heap.size w3 w4 := hB0.trans (hs4.below.mono (Nat.le_refl _))
                have hS5 := (hP.out.drew.join hs4).box_new 34 #[nv', fv']
                have hfa := hs4.kept 0 rfl
                obtain ⟨A3, c3, rfl, _⟩ := hfa.nodes.shape
                obtain ⟨A4, c4, rfl, _⟩ := hfa.files.shape
                have hE4 := m1'.out _ hB4
                have hS40 := (hP.out.drew.join hs4).box_new 34 #[.slice none 0 0, .slice none 0 0]
                have hB5 : Below w3.heap.size w3 (w4.alloc (.cells #[.slice none 0 0, .slice none 0 0] 34)) := hB4.alloc hB4.size _
                have hE5 := m1'.out _ hB5
                have z0 := hS40.box_frozen 0 rfl 0
                have z1 := hS40.box_frozen 0 rfl 1
                have hS5' := Lib.hid hS5
                have hset2' := Lib.hid hset2
                dsimp only
                refine hK _ _ (fun _ => hE4) ?_
                clear hK K
                try simp only [Act.put]
                try simp only [List.setIfInBounds_toArray]
                clear hS5 hS40 hfa hs4 hset2
                refine wpE_take (i := 7) (v := ?_) rfl (by kernel_rfl) (by kernel_rfl) (by kernel_rfl) (by kernel_rfl) (fun _ _ _ h => h) (Or.inl ⟨by rfl, ?_⟩) hE4 ?_
                rotate_left
                · intro w hw; obtain ⟨e1, e2, e3, e4, e5, e6, e7, e8, e9⟩ := hw; go_simp
                  try with_reducible rfl
                simp only [Act.put]
                try simp only [List.setIfInBounds_toArray]
                refine wpE_take (i := 8) (v := ?_) rfl (by kernel_rfl) (by kernel_rfl) (by kernel_rfl) (by kernel_rfl) (fun _ _ _ h => h) (Or.inl ⟨by rfl, ?_⟩) hE4 ?_
                rotate_left
                · intro w hw; obtain ⟨e1, e2, e3, e4, e5, e6, e7, e8, e9⟩ := hw; go_simp
                  try with_reducible rfl
                simp only [Act.put]
                try simp only [List.setIfInBounds_toArray]
                refine wpE_take (i := 9) (v := ?_) rfl (by kernel_rfl) (by kernel_rfl) (by kernel_rfl) (by kernel_rfl) (fun _ _ _ h => h) (Or.inl ⟨by rfl, ?_⟩) hE4 ?_
                rotate_left
                · intro w hw; obtain ⟨e1, e2, e3, e4, e5, e6, e7, e8, e9⟩ := hw; go_simp
                  try with_reducible rfl
                simp only [Act.put]
                try simp only [List.setIfInBounds_toArray]
                refine wpE_one (i := 10) (by kernel_rfl) rfl (fun K hK => ?_)
                go_simp
                refine hK _ _ (fun _ => hE5) ?_
                clear hK K
                try simp only [Act.put]
                try simp only [List.setIfInBounds_toArray]
                have hB6 : Below w3.heap.size w3 (w4.alloc (.cells #[.slice A3 es'.length c3, .slice A4 es'.length c4] 34)) := hB4.alloc hB4.size _
                have hE6 := m1'.out _ hB6
                refine wpE_one (i := 11) (by kernel_rfl) rfl (fun K hK => ?_)
                go_simp
                refine hK _ _ (fun _ => hE6) ?_
                clear hK K
                try simp only [Act.put]
                try simp only [List.setIfInBounds_toArray]
                refine wpE_one (i := 12) (by kernel_rfl) rfl (fun K hK => ?_)
                go_simp
                refine hK _ _ (fun h => absurd rfl h) ?_
                clear hK K
                try simp only [Act.put]
                try simp only [List.setIfInBounds_toArray]
                refine wpE_done (by kernel_rfl) ?_ _
                have hSF : Hid (Sep w (w4.alloc (.cells #[.slice A3 es'.length c3, .slice A4 es'.length c4] 34)) (.box w4.heap.size 34 #[.slice A3 es'.length c3, .slice A4 es'.length c4] :: .keep (fun W => FlatAt W (.slice A3 es'.length c3) (.slice A4 es'.length c4) es' vs') :: .box q 51 (queueCells v3) :: intsR v3 (ready.take b ++ ready.drop (b + 1)) :: intsR u23 out :: KT :: .box w.heap.size 34 #[nv, fv] :: .box (w.heap.size + 1) 23 #[.slice (some ⟨ga, oa, none⟩) i ca] :: .box (w.heap.size + 1 + 1) 37 #[.slice Ak nk ck] :: [.sl 27 1 (.slice (some ⟨gu, 0, none⟩) i i) i (List.replicate i (.slice none 0 0))])) := hS5'
                clear hS5' hE0 hE4 hE5 hE6 hB0 hB4 hB5 hB6 z0 z1 m1' hdo
                generalize w4.alloc (.cells #[.slice A3 es'.length c3, .slice A4 es'.length c4] 34) = w5 at hSF ⊢
                generalize w4.heap.size = bt at hSF ⊢
              rotate_left 1
              focus
                have hSz := hP.out.drew.box_new 34 #[.slice none 0 0, .slice none 0 0]
                have hBz : Below w3.heap.size w3 (w3.alloc (.cells #[.slice none 0 0, .slice none 0 0] 34)).drew := ((Below.refl _ _).alloc (Nat.le_refl _) _).drew
                have hEz := m1'.out _ hBz
                go_simp
                refine hK _ _ (fun _ => hEz) ?_
                clear hK K
                try simp only [Act.put]
                try simp only [List.setIfInBounds_toArray]
                refine wpE_one (i := 6) (by kernel_rfl) rfl (fun K hK => ?_)
                go_simp
                go_at_call 21
                refine (hdo.out _ hBz).mono ?_
                rintro e w4 ⟨nv', fv', es', vs', rfl, hfo2, hset2, hs4⟩
                have hB4 : Below w3.heap.size w3 w4 := hBz.trans (hs4.below.mono hBz.size)
                have hSz2 : Sep w (w3.alloc (.cells #[.slice none 0 0, .slice none 0 0] 34)).drew _ := hSz
                have hS5 := hSz2.join hs4
                have hfa := hs4.kept 0 rfl
                obtain ⟨A3, c3, rfl, _⟩ := hfa.nodes.shape
                obtain ⟨A4, c4, rfl, _⟩ := hfa.files.shape
                have hE4 := m1'.out _ hB4
                have y0 := hS5.box_cell 1 rfl 0
                have y1 := hS5.box_cell 1 rfl 1
                have z0 := hS5.box_frozen 1 rfl 0
                have z1 := hS5.box_frozen 1 rfl 1
                simp only [World.size_drew, List.getElem?_toArray, List.getElem?_cons_zero, List.getElem?_cons_succ] at y0 y1 z0 z1
                have hS6 := (hS5.box_stored 1 rfl 0 (.slice A3 es'.length c3)).box_stored 1 rfl 1 (.slice A4 es'.length c4)
                have hS5' := Lib.hid hS6
                have hset2' := Lib.hid hset2
                dsimp only
                refine hK _ _ (fun _ => hE4) ?_
                clear hK K
                try simp only [Act.put]
                try simp only [List.setIfInBounds_toArray]
                clear hS5 hS6 hSz hSz2 hfa hs4 hset2
                refine wpE_one (i := 7) (by kernel_rfl) rfl (fun K hK => ?_)
                go_simp
                refine hK _ _ (fun _ => hE4) ?_
                clear hK K
                try simp only [Act.put]
                try simp only [List.setIfInBounds_toArray]
                refine wpE_take (i := 8) (v := ?_) rfl (by kernel_rfl) (by kernel_rfl) (by kernel_rfl) (by kernel_rfl) (fun _ _ _ h => h) (Or.inl ⟨by rfl, ?_⟩) hE4 ?_
                rotate_left
                · intro w hw; obtain ⟨e1, e2, e3, e4, e5, e6, e7, e8, e9⟩ := hw; go_simp
                  try with_reducible rfl
                simp only [Act.put]
                try simp only [List.setIfInBounds_toArray]
                refine wpE_take (i := 9) (v := ?_) rfl (by kernel_rfl) (by kernel_rfl) (by kernel_rfl) (by kernel_rfl) (fun _ _ _ h => h) (Or.inl ⟨by rfl, ?_⟩) hE4 ?_
                rotate_left
                · intro w hw; obtain ⟨e1, e2, e3, e4, e5, e6, e7, e8, e9⟩ := hw; go_simp
                  try with_reducible rfl
                simp only [Act.put]
                try simp only [List.setIfInBounds_toArray]
                refine wpE_one (i := 11) (by kernel_rfl) rfl (fun K hK => ?_)
                go_simp
                refine hK _ _ (fun _ => m1'.out _ ((hB4.setCell (by simp) _).setCell (by simp) _)) ?_
                clear hK K
                try simp only [Act.put]
                try simp only [List.setIfInBounds_toArray]
                refine wpE_one (i := 12) (by kernel_rfl) rfl (fun K hK => ?_)
                go_simp
                refine hK _ _ (fun h => absurd rfl h) ?_
                clear hK K
                try simp only [Act.put]
                try simp only [List.setIfInBounds_toArray]
                refine wpE_done (by kernel_rfl) ?_ _
                have hSF : Hid (Sep w ((w4.setCell ⟨w3.heap.size, 0, none⟩ (.slice A3 es'.length c3)).setCell ⟨w3.heap.size, 1, none⟩ (.slice A4 es'.length c4)) (.box w3.heap.size 34 #[.slice A3 es'.length c3, .slice A4 es'.length c4] :: .keep (fun W => FlatAt W (.slice A3 es'.length c3) (.slice A4 es'.length c4) es' vs') :: .box q 51 (queueCells v3) :: intsR v3 (ready.take b ++ ready.drop (b + 1)) :: intsR u23 out :: KT :: .box w.heap.size 34 #[nv, fv] :: .box (w.heap.size + 1) 23 #[.slice (some ⟨ga, oa, none⟩) i ca] :: .box (w.heap.size + 1 + 1) 37 #[.slice Ak nk ck] :: [.sl 27 1 (.slice (some ⟨gu, 0, none⟩) i i) i (List.replicate i (.slice none 0 0))])) := by
                  have h := Sep.sel [1, 0] hS5'.out (by decide) (by simp)
                  exact Lib.hid h
                clear hS5' hE0 hE4 hEz hBz hB4 y0 y1 z0 z1 m1' hdo
                generalize (w4.setCell ⟨w3.heap.size, 0, none⟩ (.slice A3 es'.length c3)).setCell ⟨w3.heap.size, 1, none⟩ (.slice A4 es'.length c4) = w5 at hSF ⊢
                generalize w3.heap.size = bt at hSF ⊢
              all_goals
                have r0 := hSF.out.box_cell 0 rfl 0
                have r1 := hSF.out.box_cell 0 rfl 1
                have s0 := hSF.out.box_cell 6 rfl 0
                have s1 := hSF.out.box_cell 6 rfl 1
                have y0 := hSF.out.box_frozen 6 rfl 0
                have y1 := hSF.out.box_frozen 6 rfl 1
                simp only [List.getElem?_toArray, List.getElem?_cons_zero, List.getElem?_cons_succ] at r0 r1 s0 s1
                have hS6 := (hSF.out.box_stored 6 rfl 0 (.slice A3 es'.length c3)).box_stored 6 rfl 1 (.slice A4 es'.length c4)
                have hS7 := Lib.hid (hS6.alloc (.cells #[.int .i64 n] 3))
                have hl2 := hlen.out
                clear hS6
                go_wp2_with (first
                  | (at_builtin; refine wpList_append_sep 4 rfl _ _ 27 rfl 3 i0 (.int .i64 0) 1 8 Tryz.underlying27 hif hz0 hz1 hz2 rfl (by decide) hS7.out _ out.length (out.map (.int .i64)) rfl rfl ⟨w5.heap.size, 0, none⟩ 1 1 [.int .i64 n] rfl rfl (by have h := cell_one_new ((w5.setCell ⟨w.heap.size, 0, none⟩ (.slice A3 es'.length c3)).setCell ⟨w.heap.size, 1, none⟩ (.slice A4 es'.length c4)) (.int .i64 n) 3; simpa using h) (by simp [Value.oneCell']) (by decide) (by unfold maxLen; omega) (by omega) ?_)
                  | fail)
                intro g9 c9 w9 hS9 hz9
                have d9 := hS9.cellAt 9 rfl n (by omega)
                rw [List.getElem?_replicate, if_pos (by omega)] at d9
                have hS10 : Sep w w9 (thrAs q w.heap.size gu i v3 (.slice (some ⟨g9, 0, none⟩) (out.length + 1) c9) (ready.take b ++ ready.drop (b + 1)) (out ++ [(n : Int)]) (.keep (fun W => FlatAt W (.slice A3 es'.length c3) (.slice A4 es'.length c4) es' vs')) (.slice A3 es'.length c3) (.slice A4 es'.length c4) (.slice (some ⟨ga, oa, none⟩) i ca) (.slice Ak nk ck)) := by
                  have h := Sep.drop 2 (Sep.sel [0, 5, 2, 3, 4, 1, 6, 7, 8, 9] hS9 (by decide) (by simp))
                  unfold thrAs
                  rw [show intsR (.slice (some ⟨g9, 0, none⟩) (out.length + 1) c9) (out ++ [(n : Int)]) = .sl 3 1 (.slice (some ⟨g9, 0, none⟩) (out.length + 1) c9) (out.length + 1) (out.map (.int .i64) ++ [.int .i64 n]) by unfold intsR; rw [List.map_append, List.length_append]; rfl]
                  exact h
                have hS10' := Lib.hid hS10
                have hl3' := Lib.hid hl2
                clear hS9 hS10 hz9 hS7 hSF r0 r1 s0 s1 y0 y1 hl2 hP
                go_wp2_with fail
                refine wp_loop_rounds 1 ?_
                rw [rounds_succ]
                go_wp2_with fail
                go_roundg (f - 1)
                case measure =>
                  have h1 := hl3'.out
                  have h2 : _ = f := hg.out
                  omega
                case rel =>
                  have hl4 : (ready.take b ++ ready.drop (b + 1)).length = ready.length - 1 := by rw [List.length_append, List.length_take, List.length_drop]; omega
                  have h1 := hl3'.out
                  exact ⟨f - 1, v3, _, out ++ [(n : Int)], _, _, es', vs', _, rfl, ⟨by rw [hl4]; omega, by rw [hl4]; omega, by rw [hl4, List.length_append, List.length_singleton]; omega⟩, hselN.out.symm, h9'.out es' hfo2 hset2'.out, fun w' As k hs hk => hs.kept (P := fun W => FlatAt W (.slice A3 es'.length c3) (.slice A4 es'.length c4) es' vs') k hk, hS10'.out⟩
end Go.Proofs.YtahkpkaodeeemaaGreat
