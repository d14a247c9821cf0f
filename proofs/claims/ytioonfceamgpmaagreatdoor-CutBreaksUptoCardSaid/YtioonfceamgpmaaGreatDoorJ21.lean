/- Held, RefBreak1, RefBreak2, laid together. -/
import Derived.Deep.RegionHeld3
import Derived.Deep.Draws
import Derived.Test.YtioonfceamgpmaaGreatDoorJ16
import Derived.Test.YtioonfceamgpmaaGreatDoorJ20
import Derived.Test.YtioonfceamgpmaaGreatDoorJ6
namespace Go.Proofs.YtioonfceamgpmaaGreatDoor
open Go

section
variable {P : Program} {ops : Array Oper} {Q : Exit → Act → World → Prop} {md : Region.Mode} {S : World → Prop} {z : Nat}

def wpE (P : Program) (md : Region.Mode) (ops : Array Oper) (Q : Exit → Act → World → Prop) (S : World → Prop) (z : Nat) : Nat → Array Bool → Act → World → Prop
  | 0, l, a, w => Region.ready md ops l = [] ∧ Q .normal a w
  | f + 1, l, a, w =>
    (Region.ready md ops l = [] → Q .normal a w) ∧
    ∀ i ∈ Region.ready md ops l, wpOp P ops Q i (fun a' w' => (i ≠ z → S w') ∧ wpE P md ops Q S z f (l.setIfInBounds i true) a' w') a w

theorem wpAny_of_E : ∀ (f : Nat) (l : Array Bool) (a : Act) (w : World), wpE P md ops Q S z f l a w → wpAny P md ops Q f l a w
  | 0, _, _, _, h => h
  | f + 1, _, _, _, h => ⟨h.1, fun i hi => wpOp_mono (fun a' w' h' => wpAny_of_E f _ a' w' h'.2) (h.2 i hi)⟩

/-- Number z waits for number i. -/
def lastB (md : Region.Mode) (ops : Array Oper) (z i : Nat) : Bool :=
  match ops[z]? with
  | none => false
  | some o => o.after.toList.any fun e => Region.binds md e && e.on == i
theorem last_waits {l : Array Bool} {i : Nat} (hz : lastB md ops z i = true) (hi : i ∈ Region.ready md ops l) : z ∉ Region.ready md ops l := fun h => by
  obtain ⟨_, oz, hoz, hall⟩ := mem_ready.1 h
  unfold lastB at hz
  rw [hoz] at hz
  obtain ⟨x, hx, hb⟩ := List.any_eq_true.1 hz
  simp only [Bool.and_eq_true, beq_iff_eq] at hb
  have h1 := hall x (by simpa using hx) hb.1
  have h0 := (mem_ready.1 hi).1
  rw [hb.2] at h1
  rcases Nat.lt_or_ge i l.size with h' | h'
  · simp [h'] at h0 h1; rw [h0] at h1; cases h1
  · simp [Array.getElem?_eq_none h'] at h1

theorem wpE_first {i : Nat} {oi : Oper} {v : Value} (hi : ops[i]? = some oi) (hz : lastB md ops z i = true) (hsel : ∀ (j : Nat) (o : Oper) cs b, ops[j]? = some o → o.op ≠ .select cs b)
    (hQ : ∀ c a w, Q (.panic c) (a.put oi.dst v) w → Q (.panic c) a w) :
    ∀ (f : Nat) (l : Array Bool) (a : Act) (w : World),
      (∀ j oj, ops[j]? = some oj → j ≠ i → l.getD j true = false → (∀ e ∈ oj.after, Region.binds md e = true → e.on ≠ i) → oi.apart ops oj = true) →
      i ∈ Region.ready md ops l → YieldsIf P ops S oi v a → S w →
      wpE P md ops Q S z f (l.setIfInBounds i true) (a.put oi.dst v) w → wpE P md ops Q S z (f + 1) l a w := by
  intro f
  induction f with
  | zero =>
    intro l a w _ hr hy hS H
    refine ⟨fun h => (by rw [h] at hr; cases hr), fun j hj => ?_⟩
    by_cases e : j = i
    · subst e
      exact hy.wpOp hi hS ⟨fun _ => hS, H⟩
    · have := ready_mono hj e
      rw [H.1] at this
      cases this
  | succ f ih =>
    intro l a w hfree hr hy hS H
    refine ⟨fun h => (by rw [h] at hr; cases hr), fun j hj => ?_⟩
    by_cases e : j = i
    · subst e
      exact hy.wpOp hi hS ⟨fun _ => hS, H⟩
    · have h1 := H.2 j (ready_mono hj e)
      obtain ⟨hjun, oj, hoj, hall⟩ := mem_ready.1 hj
      have hnot : ∀ x ∈ oj.after, Region.binds md x = true → x.on ≠ i := fun x hx hb heq => by
        have h1 := hall x hx hb
        have h0 := (mem_ready.1 hr).1
        rw [heq] at h1
        rcases Nat.lt_or_ge i l.size with h' | h'
        · simp [h'] at h0 h1; rw [h0] at h1; cases h1
        · simp [Array.getElem?_eq_none h'] at h1
      have h2 := wpOp_putIf hoj (hfree j oj hoj e hjun hnot) (fun cs b => hsel i oi cs b hi) (fun cs b => hsel j oj cs b hoj) hQ hy h1
      have hstill := ready_mono hr (Ne.symm e)
      have hi' : i ∈ Region.ready md ops ((l.setIfInBounds j true)) := hstill
      have hfree' : ∀ k ok, ops[k]? = some ok → k ≠ i → (l.setIfInBounds j true).getD k true = false →
          (∀ x ∈ ok.after, Region.binds md x = true → x.on ≠ i) → oi.apart ops ok = true := fun k ok hk hki hun hno => by
        refine hfree k ok hk hki ?_ hno
        by_cases hjk : j = k
        · subst hjk; exact hjun
        · rw [getD_set_ne true hjk] at hun; exact hun
      have hjz : j ≠ z := fun e' => by
        subst e'
        exact last_waits hz hr hj
      refine wpOp_mono (fun a' w' h3 => ⟨fun _ => h3.2.1 hjz, ih (l.setIfInBounds j true) a' w' hfree' hi' h3.1 (h3.2.1 hjz) ?_⟩) h2
      rw [Array.setIfInBounds_comm _ _ e]
      exact h3.2.2

theorem wpE_take {i : Nat} {oi : Oper} {v : Value} {f : Nat} {l : Array Bool} {a : Act} {w : World} (hi : ops[i]? = some oi) (hz : lastB md ops z i = true)
    (hs : Region.noSelect ops = true) (hf : Region.free md ops l i = true) (hr : (Region.ready md ops l).contains i = true)
    (hQ : ∀ c a w, Q (.panic c) (a.put oi.dst v) w → Q (.panic c) a w) (hy : YieldsIf P ops S oi v a) (hS : S w)
    (h : wpE P md ops Q S z f (l.setIfInBounds i true) (a.put oi.dst v) w) : wpE P md ops Q S z (f + 1) l a w :=
  wpE_first hi hz (Region.noSelect_spec hs) hQ f l a w (Region.free_spec hi hf) (by simpa using hr) hy hS h
theorem wpE_one {i : Nat} {o : Oper} {f : Nat} {l : Array Bool} {a : Act} {w : World} (hr : Region.ready md ops l = [i]) (ho : ops[i]? = some o)
    (h : ∀ K' : Act → World → Prop, (∀ a w, (i ≠ z → S w) → wpE P md ops Q S z f (l.setIfInBounds i true) a w → K' a w) → if Region.wanted o (yielded ops a.tmps) = true then Oper.wp P o a w K' Q else K' (a.put o.dst undef) w) : wpE P md ops Q S z (f + 1) l a w :=
  ⟨fun h0 => (by rw [hr] at h0; cases h0), fun j hj => by
    rw [hr] at hj
    obtain rfl : j = i := by simpa using hj
    exact wpOp_step ho fun K' hK => h K' fun a w h1 h2 => hK a w ⟨h1, h2⟩⟩
theorem wpE_done {l : Array Bool} {a : Act} {w : World} (hr : Region.ready md ops l = []) (h : Q .normal a w) : ∀ f, wpE P md ops Q S z f l a w
  | 0 => ⟨hr, h⟩
  | _ + 1 => ⟨fun _ => h, by rw [hr]; simp⟩
theorem wp_region_E {id : Nat} {a : Act} {w : World} (z : Nat) (hm : P.follows .mixedOrders = true)
    (h : wpE P .any ops Q S z ops.size (Array.replicate ops.size false) a w.drew) : (Code.region id ops true).wp P Q a w :=
  wp_region_any hm (wpAny_of_E _ _ _ _ h)
end
end Go.Proofs.YtioonfceamgpmaaGreatDoor

namespace Go.Proofs.YtioonfceamgpmaaGreatDoor
open Go.RowKit
set_option linter.unusedVariables false

noncomputable def rbBlock (k : Nat) : Code := inBlock ((Tryz.f12.body.bind (blockAt k)).getD .skip)

theorem addL_last {n : Int} {l : List Int} (h : ∀ y ∈ l, y < n) : addL n l = l ++ [n] := by
  induction l with
  | nil => rfl
  | cons y t ih =>
    unfold addL
    rw [if_pos (h y (by simp)), ih fun z hz => h z (by simp [hz])]
    rfl
theorem mend_add {r n : Int} {l : List Int} (h : ∀ y ∈ l, y < n) : addL n (withoutL r l) = mendL r n l := by
  have h1 : ∀ y ∈ withoutL r l, y < n := fun y hy => h y (List.mem_filter.1 (show y ∈ List.filter _ l from hy)).1
  rw [addL_last h1]
  unfold mendL withoutL
  rfl

/-- The state of the loop. -/
def rbAs (va vn : Value) (n : Nat) (acts : List Ins) (vs : List Value) (xss : List (List Int)) (R : List Asn) : List Asn := insR va acts :: .sl 33 1 vn n vs :: (List.zipWith intsR vs xss ++ R)

set_option maxRecDepth 100000 in
set_option maxHeartbeats 4000000 in
theorem rb_mend {w0 w : World} {R : List Asn} {acts : List Ins} {xss : List (List Int)} {to : ByteArray} {r n : Nat} {va vn : Value} {vs : List Value} {ac : Act} {Q : Exit → Act → World → Prop}
    (hal : acts.length = n + 1) (hxl : xss.length = n + 1) (hvl : vs.length = n + 1) (hn : n ≤ 1000) (hrow : ∀ i, i < n → ∀ l, xss[i]? = some l → l.length ≤ 10000 ∧ ∀ y ∈ l, y < (n : Int))
    (hf : Fs 208 ac [(9, va), (10, vn), (16, .int .i64 r), (21, .string to), (22, .int .i64 n), (23, .int .i64 0)])
    (hS : Sep w0 w (rbAs va vn (n + 1) acts vs xss R))
    (hQ : ∀ ac' w' vs', ac'.tmps.toList.take 23 = ac.tmps.toList.take 23 → (ac'.tmps.toList.drop 26).take 40 = (ac.tmps.toList.drop 26).take 40 → ac'.tmps.size = 208 → ac'.defers = [] → vs'.length = n + 1 → Sep w0 w' (rbAs va vn (n + 1) acts vs' (mendTo acts to r n xss n) R) → Q .normal ac' w') :
    (rbBlock 8).wp Tryz.prog (Exit.inBlock 8 Q) ac w := by
  obtain ⟨f, rfl, h9, h10, h16, h21, h22, h23, -⟩ := hf.lit
  simp only at h9 h10 h16 h21 h22 h23
  clear hf
  obtain ⟨gA, cA, rfl, _, _, hcA, hcA2⟩ := hS.sl_form 0 rfl (by rw [hal]; omega)
  obtain ⟨gN, cN, rfl, _, _, hcN, hcN2⟩ := hS.sl_form 1 rfl (by omega)
  rw [hal] at hS hQ h9
  simp only [lits, Nat.reduceAdd, h9, h10, h16, h21, h22, h23] at hQ ⊢
  have hQ' := Lib.hid hQ
  have hrow' := Lib.hid hrow
  clear hQ h9 h10 h16 h21 h22 h23 hrow
  conv => arg 2; whnf
  have hins : insR (.slice (some ⟨gA, 0, none⟩) (n + 1) cA) acts = .sl 29 5 (.slice (some ⟨gA, 0, none⟩) (n + 1) cA) (n + 1) (insCells acts) := by unfold insR; rw [hal]
  have q2 : (n : Int) ≤ 1000 := by omega
  go_loopw [23] (fun iv wr => ∃ (i : Nat) (vs3 : List Value), i ≤ n ∧ iv = .int .i64 i ∧ vs3.length = n + 1 ∧ Sep w0 wr (rbAs (.slice (some ⟨gA, 0, none⟩) (n + 1) cA) (.slice (some ⟨gN, 0, none⟩) (n + 1) cN) (n + 1) acts vs3 (mendTo acts to r n xss i) R)) (fun iv _ => n - (intOf iv).toNat)
  case atStart => exact ⟨0, vs, Nat.zero_le _, rfl, hvl, hS⟩
  case round =>
    clear hS
    obtain ⟨i, vs3, hi, rfl, hv3, hS⟩ := hrel
    have q3 : (0 : Int) ≤ (i : Int) := by omega
    by_cases hlt : i < n
    case neg =>
      obtain rfl : i = n := by omega
      have hS' := Lib.hid hS
      clear hS
      go_wp2_with fail
      exact hQ'.out _ _ _ rfl rfl rfl rfl hv3 hS'.out
    have q4 : (i : Int) < (n : Int) := by omega
    have q5 : (i : Int) < (n : Int) + 1 := by omega
    obtain ⟨x0, hx0⟩ : ∃ x, acts[i]? = some x := ⟨_, List.getElem?_eq_getElem (by omega)⟩
    obtain ⟨l0, hl0⟩ : ∃ x, xss[i]? = some x := ⟨_, List.getElem?_eq_getElem (by omega)⟩
    obtain ⟨u0, hu0⟩ : ∃ u, vs3[i]? = some u := ⟨_, List.getElem?_eq_getElem (by omega)⟩
    have hlen3 : (mendTo acts to r n xss i).length = n + 1 := by rw [mendTo_len, hxl]
    obtain ⟨hl0', hl0n⟩ := hrow'.out i hlt l0 hl0
    have hrow := (mendTo_late (acts := acts) (to := to) (r := r) (more := n) (xss := xss) (Nat.le_refl i)).trans hl0
    have hstep := mendTo_step (to := to) (r := r) (more := n) hx0 hl0
    have hcell := fun (f : Nat) (hf : f < 5) => (hS.cellAt 0 (congrArg some hins) (i * 5 + f) (by omega)).trans (insCells_at hx0 f hf)
    have c0 := hcell 0 (by omega)
    have c1 := hcell 1 (by omega)
    simp only [Ins.cells, Nat.add_zero, List.getElem?_cons_zero, List.getElem?_cons_succ] at c0 c1
    clear hcell
    have hidx : (rbAs (.slice (some ⟨gA, 0, none⟩) (n + 1) cA) (.slice (some ⟨gN, 0, none⟩) (n + 1) cN) (n + 1) acts vs3 (mendTo acts to r n xss i) R)[i + 2]? = some (intsR u0 l0) := by
      show (List.zipWith intsR vs3 _ ++ R)[i]? = some _
      rw [List.getElem?_append_left (by rw [List.length_zipWith]; omega)]
      exact zip_some hu0 hrow
    have hI := hS.ints (i + 2) hidx
    have d4 : wr.cell? ⟨gN, i, none⟩ = some u0 := (hS.cellAt 1 rfl i (by omega)).trans hu0
    obtain ⟨A0, k0, rfl, hm0⟩ := hI.shape
    unfold maxLen at hm0
    have hin := fun W (hb : Below wr.heap.size wr W) => refin_any (hI.below hb) (r : Int)
    have hnone : ∀ W, Sep w0 W (rbAs (.slice (some ⟨gA, 0, none⟩) (n + 1) cA) (.slice (some ⟨gN, 0, none⟩) (n + 1) cN) (n + 1) acts vs3 (mendTo acts to r n xss i) R) → mendB x0 to r l0 = false →
        ∃ (i' : Nat) (vs3 : List Value), i' ≤ n ∧ Value.int .i64 ((i : Int) + 1) = .int .i64 i' ∧ vs3.length = n + 1 ∧ Sep w0 W (rbAs (.slice (some ⟨gA, 0, none⟩) (n + 1) cA) (.slice (some ⟨gN, 0, none⟩) (n + 1) cN) (n + 1) acts vs3 (mendTo acts to r n xss i') R) := by
      intro W hW hB
      refine ⟨i + 1, vs3, by omega, by go_num, hv3, ?_⟩
      rw [hstep, hB]
      exact hW
    obtain ⟨bc, hbc⟩ : ∃ bc, l0.contains (r : Int) = bc := ⟨_, rfl⟩
    have hin2 : ∀ W, Below wr.heap.size wr W → Calls Tryz.prog 28 #[.slice A0 l0.length k0, .int .i64 r] W fun e w' => e = .returned (.bool bc) ∧ w' = W := fun W hW => (hin W hW).mono fun e w' h => ⟨by rw [h.1, hbc], h.2.symm⟩
    have hin' := Lib.hid hin2
    have hbc' := Lib.hid hbc
    have hnone' := Lib.hid hnone
    have hS' := Lib.hid hS
    have hI' := Lib.hid hI
    have hstep' := Lib.hid hstep
    have hrow3 := Lib.hid hrow
    have hx0' := Lib.hid hx0
    have hl00' := Lib.hid hl0
    have hu0' := Lib.hid hu0
    have hlen3' := Lib.hid hlen3
    have hidx' := Lib.hid hidx
    have hl0n' := Lib.hid hl0n
    have hv3' := Lib.hid hv3
    have hbd := Lib.hid (Below.refl wr.heap.size wr)
    clear hS hI hstep hrow hx0 hl0 hu0 hlen3 hin hin2 hbc hnone hidx hl0n hv3
    by_cases hwx : wantsX x0 = true
    · by_cases hp : x0.path = to
      · have hpb : (x0.path.toList == to.toList) = true := by rw [str_beq]; simpa using hp
        have hp' := Lib.hid hp
        have hwx' := Lib.hid hwx
        have hwc : (x0.op == 4) = true ∨ (x0.op == 4) = false ∧ (x0.op == 7) = true ∨ (x0.op == 4) = false ∧ (x0.op == 7) = false ∧ (x0.op == 8) = true := by
          unfold wantsX at hwx
          cases h4 : (x0.op == 4) <;> cases h7 : (x0.op == 7) <;> cases h8 : (x0.op == 8) <;> simp_all
        clear hp hwx
        rcases hwc with h4 | ⟨h4, h7⟩ | ⟨h4, h7, h8⟩
        all_goals
          cases bc with
          | true =>
            have hB : mendB x0 to r l0 = true := by
              have := hbc'.out
              rw [List.contains_iff_mem] at this
              rw [mendB, hwx'.out]
              simp [hp'.out, this]
            have hB' := Lib.hid hB
            clear hB hnone'
            go_wp2_with (first
              | (go_at_call 28; refine (hin'.out _ hbd.out).mono ?_; rintro e w1 ⟨rfl, rfl⟩)
              | (go_at_call 29; refine (without_any hI'.out (by omega) r).mono ?_; rintro e w2 ⟨v2, rfl, hW⟩; have hJ := Lib.hid (hS'.out.join hW); clear hW)
              | (go_at_call 24; refine (add_any hJ.out (Nat.le_trans (without_len _ _) (by omega)) n).mono ?_; rintro e w3 ⟨v3, rfl, hK0⟩; obtain ⟨A3, c3, rfl, _⟩ := (hK0.ints 0 rfl).shape; have fz := hK0.frozenAt 2 rfl i; have cz := (hK0.cellAt 2 rfl i (by omega)).trans hu0'.out; have hK := Lib.hid hK0; clear hK0)
              | fail)
            go_roundw
            case rel =>
              have hfin : ∃ (i' : Nat) (vs3 : List Value), i' ≤ n ∧ Value.int .i64 ((i : Int) + 1) = .int .i64 i' ∧ vs3.length = n + 1 ∧ Sep w0 (w3.setCell ⟨gN, i, none⟩ (.slice A3 (addL n (withoutL r l0)).length c3)) (rbAs (.slice (some ⟨gA, 0, none⟩) (n + 1) cA) (.slice (some ⟨gN, 0, none⟩) (n + 1) cN) (n + 1) acts vs3 (mendTo acts to r n xss i') R) := by
                refine ⟨i + 1, vs3.set i (.slice A3 (addL n (withoutL r l0)).length c3), by omega, by go_num, by rw [List.length_set]; exact hv3'.out, ?_⟩
                rw [hstep'.out, hB', if_pos rfl, ← mend_add hl0n'.out, rbAs, zip_set, ← List.set_append_left _ _ (by rw [List.length_zipWith, hv3'.out, hlen3'.out]; omega)]
                have h1 := hK.out.stored 2 rfl i (.slice A3 (addL n (withoutL r l0)).length c3)
                exact Sep.inplace (i + 2) h1 (by simpa using hidx'.out)
              exact hfin
            case measure => simp [intOf]; omega
          | false =>
            have hB : mendB x0 to r l0 = false := by
              have := hbc'.out
              rw [← Bool.not_eq_true, List.contains_iff_mem] at this
              rw [mendB]
              simp [this]
            have hB' := Lib.hid hB
            clear hB
            go_wp2_with (first | (go_at_call 28; refine (hin'.out _ hbd.out).mono ?_; rintro e w1 ⟨rfl, rfl⟩) | fail)
            go_roundw
            case rel => exact hnone'.out _ hS'.out hB'.out
            case measure => simp [intOf]; omega
      · have hpb : (x0.path.toList == to.toList) = false := by rw [str_beq]; simpa using hp
        have hB : mendB x0 to r l0 = false := by rw [mendB]; simp [hp]
        have hB' := Lib.hid hB
        have hwc : (x0.op == 4) = true ∨ (x0.op == 4) = false ∧ (x0.op == 7) = true ∨ (x0.op == 4) = false ∧ (x0.op == 7) = false ∧ (x0.op == 8) = true := by
          unfold wantsX at hwx
          cases h4 : (x0.op == 4) <;> cases h7 : (x0.op == 7) <;> cases h8 : (x0.op == 8) <;> simp_all
        clear hp hwx hB
        rcases hwc with h4 | ⟨h4, h7⟩ | ⟨h4, h7, h8⟩
        all_goals
          go_wp2_with (first | (go_at_call 28; refine (hin'.out _ hbd.out).mono ?_; rintro e w1 ⟨rfl, rfl⟩) | fail)
          go_roundw
          case rel => exact hnone'.out _ hS'.out hB'.out
          case measure => simp [intOf]; omega
    · have hB : mendB x0 to r l0 = false := by rw [mendB, Bool.eq_false_iff.2 hwx]; rfl
      have hB' := Lib.hid hB
      have h4 : (x0.op == 4) = false := by
        unfold wantsX at hwx
        simp_all
      have h7 : (x0.op == 7) = false := by
        unfold wantsX at hwx
        simp_all
      have h8 : (x0.op == 8) = false := by
        unfold wantsX at hwx
        simp_all
      clear hwx hB
      go_wp2_with (first | (go_at_call 28; refine (hin'.out _ hbd.out).mono ?_; rintro e w1 ⟨rfl, rfl⟩) | fail)
      go_roundw
      case rel => exact hnone'.out _ hS'.out hB'.out
      case measure => simp [intOf]; omega
end Go.Proofs.YtioonfceamgpmaaGreatDoor

namespace Go.Proofs.YtioonfceamgpmaaGreatDoor
open Go.RowKit
set_option linter.unusedVariables false

theorem addsL_nil (l : List Int) : addsL l [] = l := rfl
theorem normL_le (l : List Int) : (normL l).length ≤ l.length := normL_len l

set_option maxRecDepth 100000 in
set_option maxHeartbeats 4000000 in
theorem rb_rows {w0 w : World} {R : List Asn} {xss : List (List Int)} {nv : Value} {ac : Act} {Q : Exit → Act → World → Prop}
    (hn : RowsAt w0 nv xss) (hl : xss.length ≤ 1024) (hrow : ∀ j (hj : j < xss.length), xss[j].length ≤ 10000)
    (hf : Fs 208 ac [(1, nv), (10, .slice none 0 0), (11, .int .i64 0)])
    (hS : Sep w0 w R)
    (hQ : ∀ ac' w' v, ac'.tmps.toList.take 10 = ac.tmps.toList.take 10 → ac'.tmps[10]? = some v → ac'.tmps.size = 208 → ac'.defers = [] → Sep w0 w' (rowsR v (xss.map normL) :: R) → Q .normal ac' w') :
    (rbBlock 0).wp Tryz.prog (Exit.inBlock 0 Q) ac w := by
  obtain ⟨f, rfl, h1, h10, h11, -⟩ := hf.lit
  obtain ⟨i1, hi1, hz10, hz11, hz12⟩ := info_parts info_ints
  simp only at h1 h10 h11
  clear hf
  obtain ⟨An, cn, rfl, hmn⟩ := hn.shape
  simp only [lits, Nat.reduceAdd, h1, h10, h11] at hQ ⊢
  have hQ' := Lib.hid hQ
  have hn' := Lib.hid hn
  have hrow' := Lib.hid hrow
  clear hQ h1 h10 h11 hn hrow
  conv => arg 2; whnf
  have b1 : (xss.length : Int) ≤ 1024 := by omega
  go_loopw [10, 11] (fun vw iv wr => ∃ (i : Nat), i ≤ xss.length ∧ iv = .int .i64 i ∧ Sep w0 wr (rowsR vw ((xss.take i).map normL) :: R)) (fun _ iv _ => xss.length - (intOf iv).toNat)
  case atStart => exact ⟨0, Nat.zero_le _, rfl, by have h0 := hS.list_nil 33 intsR; simpa [rowsR] using h0⟩
  case round =>
    clear hS
    obtain ⟨i, hi, rfl, hS⟩ := hrel
    have q3 : (0 : Int) ≤ (i : Int) := by omega
    by_cases hlt : i < xss.length
    case neg =>
      obtain rfl : i = xss.length := by omega
      rw [List.take_length] at hS
      have hS' := Lib.hid hS
      clear hS
      go_wp2_with fail
      exact hQ'.out _ _ _ rfl rfl rfl rfl hS'.out
    have q4 : (i : Int) < (xss.length : Int) := by omega
    obtain ⟨ad, c', u, e, hI, hcl⟩ := hn'.out.all hlt
    cases e
    obtain ⟨Ar, cr, rfl, hmr⟩ := hI.shape
    have hlen := hrow'.out i hlt
    obtain ⟨xs, hxs⟩ : ∃ xs, xs = xss[i] := ⟨_, rfl⟩
    rw [← hxs] at hI hcl hlen hmr
    have hxs' := Lib.hid hxs
    have q5 : (xs.length : Int) ≤ 10000 := by omega
    have hS' := Lib.hid hS
    have hI' := Lib.hid hI
    have hcl' := Lib.hid hcl
    clear hS hI hcl hxs
    go_wp2_with fail
    go_loopw [12, 13] (fun lv kv wr2 => ∃ (k : Nat), k ≤ xs.length ∧ kv = .int .i64 k ∧ Sep w0 wr2 (intsR lv (addsL [] (xs.take k)) :: rowsR u10 ((xss.take i).map normL) :: R)) (fun _ kv _ => xs.length - (intOf kv).toNat)
    case atStart => exact ⟨0, Nat.zero_le _, rfl, by rw [List.take_zero, addsL_nil]; exact intsR_nil hS'.out⟩
    case round =>
      obtain ⟨k, hk, rfl, hT⟩ := hrel
      have p3 : (0 : Int) ≤ (k : Int) := by omega
      have hc1 := hcl'.out _ hT.below
      by_cases hlk : k < xs.length
      · have p4 : (k : Int) < (xs.length : Int) := by omega
        obtain ⟨ad2, c2, e, h3⟩ := (hI'.out.below hT.below).at_ hlk
        cases e
        have hstep := addsL_take hlk
        have hlen2 : (addsL [] (xs.take k)).length ≤ 100000 := by
          rw [addsL_norm]
          refine Nat.le_trans (normL_le _) ?_
          rw [List.length_take]
          omega
        generalize xs[k] = y at h3 hstep
        have hT' := Lib.hid hT
        have hstep' := Lib.hid hstep
        clear hT hstep
        go_wp2_with (first
          | (go_at_call 24; refine (add_any hT'.out hlen2 y).mono ?_; rintro e w3 ⟨v3, rfl, hK⟩; rw [hstep'.out] at hK; replace hK := Lib.hid hK)
          | fail)
        go_roundw
        case rel => exact ⟨k + 1, by omega, by go_num, hK.out⟩
        case measure => simp [intOf]; omega
      · obtain rfl : k = xs.length := by omega
        rw [List.take_length] at hT
        obtain ⟨Al, cl, rfl, hml⟩ := (hT.ints 0 rfl).shape
        have hlen3 : ((xss.take i).map normL).length = i := by rw [List.length_map, List.length_take]; omega
        obtain ⟨vs, hvl, hO⟩ := Sep.list_open (hT.perm (List.Perm.swap _ _ _))
        rw [hlen3] at hvl hO
        obtain ⟨yss, hys⟩ : ∃ y, y = (xss.take i).map normL := ⟨_, rfl⟩
        rw [← hys] at hO hlen3
        have hO' := Lib.hid hO
        have hA := Lib.hid (hO.alloc (.cells #[.slice Al (addsL [] xs).length cl] 33))
        have hys' := Lib.hid hys
        clear hT hO hys
        go_wp2_with (first
          | (at_builtin; refine wpList_append_sep 0 rfl _ _ 23 rfl 33 i1 (.slice none 0 0) 1 24 Tryz.underlying23 hi1 hz10 hz11 hz12 rfl (by decide) hA.out _ _ _ rfl rfl ⟨wr.heap.size, 0, none⟩ 1 1 [.slice Al (addsL [] xs).length cl] rfl rfl (cells_new _ _ _ _ rfl) (by simp [Value.oneCell']) (by decide) (by unfold maxLen; omega) (by omega) ?_; intro g4 c4 w4 hS4 hz4; replace hS4 := Lib.hid hS4)
          | fail)
        go_roundw
        case rel =>
          refine ⟨i + 1, by omega, by go_num, ?_⟩
          have h1 := hS4.out
          simp only [List.set_cons_zero] at h1
          rw [← hlen3] at h1
          have h2 := Sep.list_push (by rw [hlen3]; exact hvl) h1
          have e : (xss.take (i + 1)).map normL = yss ++ [addsL [] xs] := by
            rw [List.take_add_one, List.getElem?_eq_getElem hlt, List.map_append, ← hys'.out, addsL_norm, hxs'.out]
            rfl
          rw [e, hlen3] at *
          exact h2
        case measure => simp [intOf]; omega
end Go.Proofs.YtioonfceamgpmaaGreatDoor
