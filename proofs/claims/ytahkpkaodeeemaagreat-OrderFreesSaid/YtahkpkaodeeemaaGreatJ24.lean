/- ModelOps, ModelRows, ModelFirst, ModelDo, laid together. -/
import Derived.Test.YtahkpkaodeeemaaGreatJ23
import Derived.WalkMore
namespace Go.Proofs.YtahkpkaodeeemaaGreat
open Go.RowKit
set_option linter.unusedVariables false

def insV (op : Int) (p to : List UInt8) (mode ref : Int) : Value := .agg #[.int .i64 op, strV p, strV to, .int .i64 mode, .int .i64 ref]
def insC (op : Int) (p to : List UInt8) (mode ref : Int) : Array Value := #[.int .i64 op, strV p, strV to, .int .i64 mode, .int .i64 ref]
section
variable {w0 w : World} {W bn bf bk next : Nat} {Ns : List NEnt} {Fs : List FEnt} {Lk : List (Lit × Value)} {R : List Asn}
theorem unlink_any (hS : Sep w0 w (wAs W bn bf bk next Ns Fs Lk R)) {p to : List UInt8} {op mode ref : Int} (dv : Value) (hp : RootName p) (ha : Ascii p) {j : Nat} {f : FEnt} (hf : Fs[j]? = some f) (hid : f.id ≤ 10000) (hn : f.names = 1) (hnd : nodeAt Ns p = .agg #[.int .i64 f.id, .int .i64 0]) (hhas : nodeHas Ns p = true) {k : Nat} (hk : (getM Lk (.string [])).getD (.int .i64 0) = .int .i64 k) (hk1 : 1 ≤ k) (hk9 : k ≤ 10000) (hNs : Ns.length ≤ 10000) (hLk : Lk.length ≤ 10000) :
    Calls Tryz.prog 92 #[.pointer (some ⟨W, 0, none⟩), insV op p to mode ref, dv] w fun e w' => e = .returned (.int .i64 0) ∧ Sep w0 w' (wAs W bn bf bk next (delN Ns p) (delF Fs f.id) (putM Lk (.string []) (.int .i64 ((k : Int) - 1))) R) := by
  have hS0 := hS.box_new 26 (insC op p to mode ref)
  have c1 := hS0.box_cell 0 rfl 1
  simp only [insC, strV, List.getElem?_toArray, List.getElem?_cons_zero, List.getElem?_cons_succ] at c1
  have hfa := Lib.hid (fileAt_any (wAs_push hS0) hp ha hhas)
  have hp' := Lib.hid hp
  rw [hnd] at hfa
  unfold insC insV strV at *
  clear hS hS0 ha hhas hp
  go_enter Tryz.func92, Tryz.ntmps92
  go_wp2_with (first
    | (go_at_call 96; refine hfa.out.mono ?_; rintro e w1 ⟨rfl, hS1⟩; (have hS2 := hS1.box_new 110 #[.int .i64 f.id, .int .i64 0]); (have d1 := (wAs_pop hS1).box_new 110 #[.int .i64 f.id, .int .i64 0] |>.box_cell 1 rfl 1); simp only [List.getElem?_toArray, List.getElem?_cons_zero, List.getElem?_cons_succ] at d1; (have htk := Lib.hid (wtake_any (wAs_push hS2) hp'.out hf hid hn hnd hk hk1 hk9 hNs hLk)); clear hS1 hS2)
    | (go_at_call 111; unfold strV at htk; refine htk.out.mono ?_; rintro e w2 ⟨rfl, hS3⟩; replace hS3 := Lib.hid hS3; dsimp only)
    | fail)
  go_ret
  exact ⟨rfl, Sep.drop 1 (wAs_pop (Sep.drop 1 (wAs_pop hS3.out)))⟩
theorem write_any (hS : Sep w0 w (wAs W bn bf bk next Ns Fs Lk R)) {p to : List UInt8} {op mode ref : Int} {A : Option Addr} {n c : Nat} (hp : RootName p) (ha : Ascii p) (hhas : nodeHas Ns p = false) (hnx : next ≤ 10000) (hfr : ∀ g ∈ Fs, g.id ≠ next) (hFl : Fs.length ≤ 10000) {k : Nat} (hk : (getM Lk (.string [])).getD (.int .i64 0) = .int .i64 k) (hk9 : k ≤ 10000) (hNs : Ns.length ≤ 10000) (hLk : Lk.length ≤ 10000) :
    Calls Tryz.prog 93 #[.pointer (some ⟨W, 0, none⟩), insV op p to mode ref, .slice A n c] w fun e w' => e = .returned (.int .i64 0) ∧ ∃ ptr, Sep w0 w' (wAs W bn bf bk (next + 1) (putN Ns p next) (Fs ++ [⟨next, ptr, mode, 1, .slice A n c⟩]) (putM Lk (.string []) (.int .i64 ((k : Int) + 1))) R) := by
  have hS0 := hS.box_new 26 (insC op p to mode ref)
  have c1 := hS0.box_cell 0 rfl 1
  simp only [insC, strV, List.getElem?_toArray, List.getElem?_cons_zero, List.getElem?_cons_succ] at c1
  have hab := Lib.hid (absent_any (wAs_push hS0) hp ha hhas)
  have hp' := Lib.hid hp
  unfold insC insV strV at *
  clear hS hS0 ha hhas hp
  go_enter Tryz.func93, Tryz.ntmps93
  go_wp2_with (first
    | (go_at_call 97; refine hab.out.mono ?_; rintro e w1 ⟨rfl, hS1⟩; (have d1 := (wAs_pop hS1).box_cell 0 rfl 1); (have d3 := (wAs_pop hS1).box_cell 0 rfl 3); simp only [List.getElem?_toArray, List.getElem?_cons_zero, List.getElem?_cons_succ] at d1 d3; (have hmd := Lib.hid (made_any hS1 hp'.out mode A n c hnx hfr hFl hk hk9 hNs hLk)); clear hS1)
    | (go_at_call 113; unfold strV at hmd; refine hmd.out.mono ?_; rintro e w2 ⟨rfl, ptr, hS3⟩; replace hS3 := Lib.hid hS3; dsimp only)
    | fail)
  go_ret
  exact ⟨rfl, ptr, Sep.drop 1 (wAs_pop hS3.out)⟩
end
end Go.Proofs.YtahkpkaodeeemaaGreat

namespace Go.Proofs.YtahkpkaodeeemaaGreat
open Go.RowKit
set_option linter.unusedVariables false

@[go_sem] theorem run_store_func {P : Program} {w : World} {a : Addr} {m : Mode} (f : Fn) (xs ys : Array Value) : (store a (.func f xs ys) m).run P w = stored P w a (.func f xs ys) m := run_store P w a _ m rfl
theorem keyOf_lit (n : Int) (h : 0 ≤ n ∧ n ≤ 100000) : keyOf Tryz.prog 3 (.int .i64 n) = some (.int .i64 n) := Maps.keyOf_int_mk Tryz.underlying3 (wf_i64 (by omega) (by omega))
def rv (to mode : Bool) (f : Value) : Value := .agg #[.bool to, .bool mode, f]
def rowsL : List (Lit × Value) := [(.int .i64 1, rv false true (.func (.func 88) #[] #[])), (.int .i64 2, rv false false (.func (.func 89) #[] #[])), (.int .i64 3, rv true false (.func (.func 90) #[] #[])), (.int .i64 4, rv true false (.func (.func 91) #[] #[])), (.int .i64 5, rv false false (.func (.func 92) #[] #[])), (.int .i64 6, rv false true (.func (.func 93) #[] #[])), (.int .i64 7, rv true true (.func (.func 94) #[] #[])), (.int .i64 8, rv false true (.func (.func 95) #[] #[])), (.int .i64 9, rv false false .nilFunc)]
theorem zero_row (w : World) : (zeroValue 117).run Tryz.prog w = .ok (rv false false .nilFunc) w := by kernel_rfl
theorem run_load_row {w : World} {b : Nat} {x y z : Value} (h0 : w.cell? ⟨b, 0, none⟩ = some x) (h1 : w.cell? ⟨b, 1, none⟩ = some y) (h2 : w.cell? ⟨b, 2, none⟩ = some z) : (loadVar 117 ⟨b, 0, none⟩).run Tryz.prog w = .ok (.agg #[x, y, z]) w := by
  simp [loadVar, go_sem, h0, h1, h2]
theorem row_results {fn : Func} {p u : Tmp} (h : fn.results = #[.cell p 117, .tmp u]) {tmps : Array Value} {w : World} {b : Nat} {x y z : Value} (hp : tmps.getD p undef = .pointer (some ⟨b, 0, none⟩)) (h0 : w.cell? ⟨b, 0, none⟩ = some x) (h1 : w.cell? ⟨b, 1, none⟩ = some y) (h2 : w.cell? ⟨b, 2, none⟩ = some z) :
    (results fn tmps).run Tryz.prog w = .ok (.tuple #[.agg #[x, y, z], tmps.getD u undef]) w := by
  have hp2 : tmps[p]?.getD undef = .pointer (some ⟨b, 0, none⟩) := by simpa using hp
  simp only [results, h]
  simp [Result.andThen, hp2, asAddr, run_load_row h0 h1 h2]

set_option maxRecDepth 100000 in
set_option maxHeartbeats 1000000 in
theorem rows_any {op : Nat} {to mode : Bool} {fn : Nat} (hr : getM rowsL (.int .i64 op) = some (rv to mode (.func (.func fn) #[] #[]))) (hop : op ≤ 9) (w : World) :
    Calls Tryz.prog 56 #[.int .i64 op] w fun e w' => e = .returned (.tuple #[rv to mode (.func (.func fn) #[] #[]), .bool true]) ∧ Below w.heap.size w w' := by
  have hmm := @run_makeMap Tryz.prog
  have hS := (Sep.nil w).box_new 117 #[.bool false, .bool false, .nilFunc]
  have hM0 := hS.gm_new 3
  simp only [World.size_alloc] at hM0
  obtain ⟨w1, r1, hM1⟩ := hM0.gm_put 0 rfl keyed_int' Tryz.underlying155 (by decide) (v := rv false true (.func (.func 88) #[] #[])) (keyOf_lit 1 (by decide))
  obtain ⟨w2, r2, hM2⟩ := hM1.gm_put 0 rfl keyed_int' Tryz.underlying155 (by decide) (v := rv false false (.func (.func 89) #[] #[])) (keyOf_lit 2 (by decide))
  obtain ⟨w3, r3, hM3⟩ := hM2.gm_put 0 rfl keyed_int' Tryz.underlying155 (by decide) (v := rv true false (.func (.func 90) #[] #[])) (keyOf_lit 3 (by decide))
  obtain ⟨w4, r4, hM4⟩ := hM3.gm_put 0 rfl keyed_int' Tryz.underlying155 (by decide) (v := rv true false (.func (.func 91) #[] #[])) (keyOf_lit 4 (by decide))
  obtain ⟨w5, r5, hM5⟩ := hM4.gm_put 0 rfl keyed_int' Tryz.underlying155 (by decide) (v := rv false false (.func (.func 92) #[] #[])) (keyOf_lit 5 (by decide))
  obtain ⟨w6, r6, hM6⟩ := hM5.gm_put 0 rfl keyed_int' Tryz.underlying155 (by decide) (v := rv false true (.func (.func 93) #[] #[])) (keyOf_lit 6 (by decide))
  obtain ⟨w7, r7, hM7⟩ := hM6.gm_put 0 rfl keyed_int' Tryz.underlying155 (by decide) (v := rv true true (.func (.func 94) #[] #[])) (keyOf_lit 7 (by decide))
  obtain ⟨w8, r8, hM8⟩ := hM7.gm_put 0 rfl keyed_int' Tryz.underlying155 (by decide) (v := rv false true (.func (.func 95) #[] #[])) (keyOf_lit 8 (by decide))
  obtain ⟨w9, r9, hM9⟩ := hM8.gm_put 0 rfl keyed_int' Tryz.underlying155 (by decide) (v := rv false false .nilFunc) (keyOf_lit 9 (by decide))
  have hM : Sep w w9 [gmR 3 (w.heap.size + 1) rowsL, .box w.heap.size 117 #[.bool false, .bool false, .nilFunc]] := hM9
  have hlk := hM.gm_ok 0 rfl keyed_int' Tryz.underlying155 (zero_row _) (keyOf_id op (by omega))
  rw [hr, Option.getD_some, Option.isSome_some] at hlk
  have hX := hM.box_new 117 #[.bool to, .bool mode, .func (.func fn) #[] #[]]
  have c0 := hX.box_cell 2 rfl 0
  have c1 := hX.box_cell 2 rfl 1
  have c2 := hX.box_cell 2 rfl 2
  simp only [List.getElem?_toArray, List.getElem?_cons_zero, List.getElem?_cons_succ] at c0 c1 c2
  have z0 := hX.box_frozen 2 rfl 0
  have z1 := hX.box_frozen 2 rfl 1
  have z2 := hX.box_frozen 2 rfl 2
  have hX' := Lib.hid hX
  clear hX hM hM9 hM8 hM7 hM6 hM5 hM4 hM3 hM2 hM1 hM0 hS
  unfold rv at *
  go_enter Tryz.func56, Tryz.ntmps56
  go_wp2_with fail
  have hX4 := ((hX'.out.box_stored 2 rfl 0 (.bool to)).box_stored 2 rfl 1 (.bool mode)).box_stored 2 rfl 2 (.func (.func fn) #[] #[])
  have y0 := hX4.box_cell 2 rfl 0
  have y1 := hX4.box_cell 2 rfl 1
  have y2 := hX4.box_cell 2 rfl 2
  refine bodyPost_ret (row_results rfl rfl y0 y1 y2) rfl ?_
  exact ⟨rfl, hX4.below⟩
end Go.Proofs.YtahkpkaodeeemaaGreat

namespace Go.Proofs.YtahkpkaodeeemaaGreat
open Go.RowKit
set_option linter.unusedVariables false

theorem valid_flat {p : List UInt8} (h : RootName p) (w : World) : Calls Tryz.prog 23 #[strV p] w fun e w' => e = .returned (.bool true) ∧ Below w.heap.size w w' := by
  have hv := valid_any ⟨p.toArray⟩ w (by rw [strV_size]; have := h.short; omega)
  rwa [strV_data, h.valid] at hv
theorem nonempty {p : List UInt8} (h : RootName p) : (p == []) = false := by
  have := h.some
  cases p with
  | nil => exact absurd rfl this
  | cons => rfl
theorem first_unlink {p to : List UInt8} (hp : RootName p) (mode ref : Int) (f : Nat) (sv : Value) (w : World) :
    Calls Tryz.prog 57 #[insV 5 p to mode ref, rv false false (.func (.func f) #[] #[]), sv] w fun e w' => e = .returned (.int .i64 0) ∧ Below w.heap.size w w' := by
  have hS := ((Sep.nil w).box_new 26 (insC 5 p to mode ref)).box_new 117 #[.bool false, .bool false, .func (.func f) #[] #[]]
  have hv := fun W => valid_flat hp W
  have hv' := Lib.hid hv
  have hne := nonempty hp
  simp only [World.size_alloc] at hS
  have hS' := Lib.hid hS
  unfold insC insV strV rv at *
  clear hS hv
  go_enter Tryz.func57, Tryz.ntmps57
  go_wp2_with fail
  refine wp_scope_straight ?_
  go_wp2_with (first
    | (go_at_call 23; refine (hv'.out _).mono ?_; rintro e w1 ⟨rfl, hb⟩; (have hS1 := hS'.out.pure hb); (have d0 := hS1.box_cell 1 rfl 0); (have e0 := hS1.box_cell 0 rfl 0); simp only [List.getElem?_toArray, List.getElem?_cons_zero] at d0 e0; replace hS1 := Lib.hid hS1; clear hb)
    | fail)
  refine wp_label ?_
  go_wp2_with fail
  simp only [Exit.noGoto_ret]
  go_ret
  exact ⟨rfl, hS1.out.below⟩
theorem first_write {p to : List UInt8} (hp : RootName p) {mode ref : Nat} (hm : mode ≤ 511) (f : Nat) {sv : Value} {cs : List Value} {w : World} (hsv : Rd w 1 sv cs.length cs) {A : Option Addr} {n c : Nat} (hr : cs[ref]? = some (.slice A n c)) (hn : n ≤ 8192) :
    Calls Tryz.prog 57 #[insV 6 p to mode ref, rv false true (.func (.func f) #[] #[]), sv] w fun e w' => e = .returned (.int .i64 0) ∧ Below w.heap.size w w' := by
  have hS := ((Sep.nil w).box_new 26 (insC 6 p to mode ref)).box_new 117 #[.bool false, .bool true, .func (.func f) #[] #[]]
  have hrl := (List.getElem?_eq_some_iff.1 hr).1
  obtain ⟨g, o, sc, rfl, hc1, hc2, hg, hcell⟩ := hsv.place (by omega) (by decide)
  have hv := fun W => valid_flat hp W
  have hv' := Lib.hid hv
  have hne := nonempty hp
  simp only [World.size_alloc] at hS
  have hS' := Lib.hid hS
  have hcell' := Lib.hid hcell
  have q1 : (0 : Int) ≤ (mode : Int) := by omega
  have q2 : (mode : Int) ≤ 511 := by omega
  have q3 : (0 : Int) ≤ (ref : Int) := by omega
  have q4 : (ref : Int) < (cs.length : Int) := by omega
  have q5 : decide ((8192 : Int) < (n : Int)) = false := by simp; omega
  unfold insC insV strV rv at *
  clear hS hv hcell hsv
  go_enter Tryz.func57, Tryz.ntmps57
  go_wp2_with fail
  refine wp_scope_straight ?_
  go_wp2_with (first
    | (go_at_call 23; refine (hv'.out _).mono ?_; rintro e w1 ⟨rfl, hb⟩; (have hS1 := hS'.out.pure hb); (have d0 := hS1.box_cell 1 rfl 0); (have d4 := hS1.box_cell 1 rfl 4); (have e0 := hS1.box_cell 0 rfl 0); (have s0 := hcell'.out w1 hS1.below ref (by omega)); rw [hr] at s0; simp only [List.getElem?_toArray, List.getElem?_cons_zero, List.getElem?_cons_succ] at d0 d4 e0; replace hS1 := Lib.hid hS1; clear hb)
    | fail)
  refine wp_label ?_
  go_wp2_with fail
  simp only [Exit.noGoto_ret]
  go_ret
  exact ⟨rfl, hS1.out.below⟩
end Go.Proofs.YtahkpkaodeeemaaGreat

namespace Go.Proofs.YtahkpkaodeeemaaGreat
open Go.RowKit
set_option linter.unusedVariables false

def rowC (to mode : Bool) (fn : Nat) : Array Value := #[.bool to, .bool mode, .func (.func fn) #[] #[]]
section
variable {w0 w : World} {W bn bf bk next : Nat} {Ns : List NEnt} {Fs : List FEnt} {Lk : List (Lit × Value)} {R : List Asn}
set_option maxRecDepth 100000 in
theorem do_unlink (hS : Sep w0 w (wAs W bn bf bk next Ns Fs Lk R)) {p to : List UInt8} {mode ref : Int} (sv : Value) (hp : RootName p) (ha : Ascii p) {j : Nat} {f : FEnt} (hf : Fs[j]? = some f) (hid : f.id ≤ 10000) (hn : f.names = 1) (hnd : nodeAt Ns p = .agg #[.int .i64 f.id, .int .i64 0]) (hhas : nodeHas Ns p = true) {k : Nat} (hk : (getM Lk (.string [])).getD (.int .i64 0) = .int .i64 k) (hk1 : 1 ≤ k) (hk9 : k ≤ 10000) (hNs : Ns.length ≤ 10000) (hLk : Lk.length ≤ 10000) :
    Calls Tryz.prog 40 #[.pointer (some ⟨W, 0, none⟩), insV 5 p to mode ref, sv] w fun e w' => e = .returned (.int .i64 0) ∧ Sep w0 w' (wAs W bn bf bk next (delN Ns p) (delF Fs f.id) (putM Lk (.string []) (.int .i64 ((k : Int) - 1))) R) := by
  have hS0 := hS.box_new 26 (insC 5 p to mode ref)
  have hrow := fun W => rows_any (op := 5) (to := false) (mode := false) (fn := 92) rfl (by decide) W
  have hrow' := Lib.hid hrow
  have hfst := fun W => first_unlink (to := to) hp mode ref 92 sv W
  have hfst' := Lib.hid hfst
  have hS0' := Lib.hid hS0
  unfold insC insV strV rv at *
  clear hS hS0 hrow hfst
  go_enter Tryz.func40, Tryz.ntmps40
  go_wp2_with (first
    | (go_at_call 56; refine (hrow'.out _).mono ?_; rintro e w1 ⟨rfl, hb⟩; (have hS1 := (hS0'.out.pure hb).box_new 117 (rowC false false 92)); (have d0 := hS1.box_cell 1 rfl 0); (have d1 := hS1.box_cell 1 rfl 1); (have d2 := hS1.box_cell 1 rfl 2); (have d3 := hS1.box_cell 1 rfl 3); (have d4 := hS1.box_cell 1 rfl 4); simp only [rowC, List.getElem?_toArray, List.getElem?_cons_zero, List.getElem?_cons_succ] at d0 d1 d2 d3 d4; replace hS1 := Lib.hid hS1; clear hb)
    | (go_at_call 57; refine (hfst'.out _).mono ?_; rintro e w2 ⟨rfl, hb⟩; (have hS2 := hS1.out.pure hb); clear hS1 d0 d1 d2 d3 d4; (have d0 := hS2.box_cell 1 rfl 0); (have d1 := hS2.box_cell 1 rfl 1); (have d2 := hS2.box_cell 1 rfl 2); (have d3 := hS2.box_cell 1 rfl 3); (have d4 := hS2.box_cell 1 rfl 4); (have e2 := hS2.box_cell 0 rfl 2); simp only [rowC, List.getElem?_toArray, List.getElem?_cons_zero, List.getElem?_cons_succ] at d0 d1 d2 d3 d4 e2; (have hul := Lib.hid (unlink_any (wAs_push (R := R ++ [_]) (by rw [wAs_app]; exact (hS2.perm ((List.Perm.refl _).cons _ |>.trans ((List.perm_append_singleton _ _).symm.cons _)))) ) (to := to) (op := 5) (mode := mode) (ref := ref) (.slice none 0 0) hp ha hf hid hn hnd hhas hk hk1 hk9 hNs hLk)); clear hb hS2)
    | (go_at_call 92; unfold insV strV at hul; refine hul.out.mono ?_; rintro e w3 ⟨rfl, hS3⟩; replace hS3 := Lib.hid hS3)
    | fail)
  go_ret
  exact ⟨rfl, Sep.drop 1 (wAs_pop (Sep.drop 1 (wAs_pop hS3.out)))⟩
set_option maxRecDepth 100000 in
theorem do_write (hS : Sep w0 w (wAs W bn bf bk next Ns Fs Lk R)) {p to : List UInt8} {mode ref : Nat} (hm : mode ≤ 511) {sv : Value} {cs : List Value} (hsv : Rd w0 1 sv cs.length cs) {A : Option Addr} {n c : Nat} (hr : cs[ref]? = some (.slice A n c)) (hn : n ≤ 8192) (hp : RootName p) (ha : Ascii p) (hhas : nodeHas Ns p = false) (hnx : next ≤ 10000) (hfr : ∀ g ∈ Fs, g.id ≠ next) (hFl : Fs.length ≤ 10000) {k : Nat} (hk : (getM Lk (.string [])).getD (.int .i64 0) = .int .i64 k) (hk9 : k ≤ 10000) (hNs : Ns.length < 256) (hLk : Lk.length ≤ 10000) :
    Calls Tryz.prog 40 #[.pointer (some ⟨W, 0, none⟩), insV 6 p to mode ref, sv] w fun e w' => e = .returned (.int .i64 0) ∧ ∃ ptr, Sep w0 w' (wAs W bn bf bk (next + 1) (putN Ns p next) (Fs ++ [⟨next, ptr, mode, 1, .slice A n c⟩]) (putM Lk (.string []) (.int .i64 ((k : Int) + 1))) R) := by
  have hS0 := hS.box_new 26 (insC 6 p to mode ref)
  have hrow' := Lib.hid (fun W => rows_any (op := 6) (to := false) (mode := true) (fn := 93) rfl (by decide) W)
  have hfst' := Lib.hid (fun (W : World) (h : Below w0.heap.size w0 W) => first_write (to := to) hp hm 93 (hsv.below h) hr hn)
  have hrl := (List.getElem?_eq_some_iff.1 hr).1
  obtain ⟨g, o, sc, rfl, hc1, hc2, hg, hcell⟩ := hsv.place (by omega) (by decide)
  have hcell' := Lib.hid hcell
  have q3 : (0 : Int) ≤ (ref : Int) := by omega
  have q4 : (ref : Int) < (cs.length : Int) := by omega
  have q6 : decide ((256 : Int) ≤ ((nodesL Ns).length : Int)) = false := by unfold nodesL; simp; omega
  have hS0' := Lib.hid hS0
  unfold insC insV strV rv at *
  clear hS hS0 hcell hsv
  go_enter Tryz.func40, Tryz.ntmps40
  go_wp2_with (first
    | (go_at_call 56; refine (hrow'.out _).mono ?_; rintro e w1 ⟨rfl, hb⟩; (have hS1 := (hS0'.out.pure hb).box_new 117 (rowC false true 93)); (have d0 := hS1.box_cell 1 rfl 0); (have d1 := hS1.box_cell 1 rfl 1); (have d2 := hS1.box_cell 1 rfl 2); (have d3 := hS1.box_cell 1 rfl 3); (have d4 := hS1.box_cell 1 rfl 4); simp only [rowC, List.getElem?_toArray, List.getElem?_cons_zero, List.getElem?_cons_succ] at d0 d1 d2 d3 d4; replace hS1 := Lib.hid hS1; clear hb)
    | (go_at_call 57; refine (hfst'.out _ hS1.out.below).mono ?_; rintro e w2 ⟨rfl, hb⟩; (have hS2 := hS1.out.pure hb); clear hS1 d0 d1 d2 d3 d4; (have d0 := hS2.box_cell 1 rfl 0); (have d1 := hS2.box_cell 1 rfl 1); (have d2 := hS2.box_cell 1 rfl 2); (have d3 := hS2.box_cell 1 rfl 3); (have d4 := hS2.box_cell 1 rfl 4); (have e2 := hS2.box_cell 0 rfl 2); (have n0 := hS2.box_cell 2 rfl 0); (have s0 := hcell'.out w2 hS2.below ref (by omega)); rw [hr] at s0; (have hln := hS2.gm_len 3 rfl Tryz.underlying105 3); simp only [rowC, worldCells, List.getElem?_toArray, List.getElem?_cons_zero, List.getElem?_cons_succ] at d0 d1 d2 d3 d4 e2 n0; (have hul := Lib.hid (write_any (wAs_push (R := R ++ [_]) (by rw [wAs_app]; exact (hS2.perm ((List.Perm.refl _).cons _ |>.trans ((List.perm_append_singleton _ _).symm.cons _)))) ) (to := to) (op := 6) (mode := mode) (ref := ref) (A := A) (n := n) (c := c) hp ha hhas hnx hfr hFl hk hk9 (by omega) hLk)); clear hb hS2)
    | (go_at_call 93; unfold insV strV at hul; refine hul.out.mono ?_; rintro e w3 ⟨rfl, ptr, hS3⟩; replace hS3 := Lib.hid hS3)
    | fail)
  go_ret
  exact ⟨rfl, ptr, Sep.drop 1 (wAs_pop (Sep.drop 1 (wAs_pop hS3.out)))⟩
end
end Go.Proofs.YtahkpkaodeeemaaGreat
