/- ModelLookC, ModelAll, Growth, laid together. -/
import Derived.Test.YtahkpkaodeeemaaGreatJ29
namespace Go.Proofs.YtahkpkaodeeemaaGreat
open Go.RowKit
set_option linter.unusedVariables false

theorem wAs_push2 {w0 w : World} {W bn bf bk next : Nat} {Ns : List NEnt} {Fs : List FEnt} {Lk : List (Lit × Value)} {R : List Asn} {X Y : Asn} (h : Sep w0 w (X :: Y :: wAs W bn bf bk next Ns Fs Lk R)) : Sep w0 w (wAs W bn bf bk next Ns Fs Lk (R ++ [Y] ++ [X])) :=
  wAs_push (R := R ++ [Y]) (by rw [wAs_app]; exact h.perm ((List.perm_append_singleton _ _).symm.cons _))
theorem wAs_pop2 {w0 w : World} {W bn bf bk next : Nat} {Ns : List NEnt} {Fs : List FEnt} {Lk : List (Lit × Value)} {R : List Asn} {X Y : Asn} (h : Sep w0 w (wAs W bn bf bk next Ns Fs Lk (R ++ [Y] ++ [X]))) : Sep w0 w (X :: Y :: wAs W bn bf bk next Ns Fs Lk R) := by
  have h1 := wAs_pop h
  rw [wAs_app] at h1
  exact h1.perm ((List.perm_append_singleton _ _).cons _)
theorem info_cplx : (Tryz.prog.info? 58).map (fun i => (i.zero, i.size, i.bytes)) = some (some (.complex .f64 0 0), 1, 16) := by kernel_rfl
set_option maxRecDepth 100000 in
theorem curve1_any {w0 w : World} {W bn bf bk next b : Nat} {Ns : List NEnt} {Fs : List FEnt} {Lk : List (Lit × Value)} {R : List Asn} {S : Ent → Prop} {B I : Int} {wg : World} {lv : Value} {cs : List Value} (hS : Sep w0 w (.sl 58 1 lv cs.length cs :: .box b 59 #[lv] :: wAs W bn bf bk next Ns Fs Lk R)) (hg : GoodW wg Ns Fs Lk S B I) (hc : cs.length ≤ 100) (hl : Fs.length ≤ 1000) :
    Calls Tryz.prog 36 #[.pointer (some ⟨W, 0, none⟩), .pointer (some ⟨b, 0, none⟩)] w fun e w' => e = .returned (.tuple #[]) ∧ ∃ lv', Sep w0 w' (.sl 58 1 lv' (cs.length + 1) (cs ++ [cplx (1 + B) (1 + I)]) :: .box b 59 #[lv'] :: wAs W bn bf bk next Ns Fs Lk R) := by
  obtain ⟨i0, hinf, hz0, hz1, hz2⟩ := info_parts info_cplx
  obtain ⟨A, c, rfl, _⟩ := (hS.rd 0 rfl).shape
  have hE : w.drew.cell? ⟨b, 0, none⟩ = some (.slice A cs.length c) := by rw [hS.drew.box_cell 1 rfl 0]; rfl
  obtain ⟨k, hk9, hk⟩ := hg.kids
  have hwt := Lib.hid (weight_any (wAs_push2 hS.drew) hg.dv hl hk hk9)
  rw [hg.wt, hg.len] at hwt
  unfold cplx at hwt ⊢
  clear hS
  go_enter Tryz.func36, Tryz.ntmps36
  go_wp2_with fail
  refine wp_region_E (S := fun w' => w'.cell? ⟨b, 0, none⟩ = some (.slice A cs.length c)) 5 (by kernel_rfl) ?_
  simp only [List.size_toArray, List.length_cons, List.length_nil, Nat.reduceAdd]
  refine wpE_take (i := 0) (v := ?_) rfl (by kernel_rfl) (by kernel_rfl) (by kernel_rfl) (by kernel_rfl) (fun _ _ _ h => h) (Or.inl ⟨by rfl, ?_⟩) hE ?_
  rotate_left
  · intro w hw; obtain e1 := hw; go_simp
    try with_reducible rfl
  simp only [Act.put]
  try simp only [List.setIfInBounds_toArray]
  refine wpE_take (i := 1) (v := ?_) rfl (by kernel_rfl) (by kernel_rfl) (by kernel_rfl) (by kernel_rfl) (fun _ _ _ h => h) (Or.inl ⟨by rfl, ?_⟩) hE ?_
  rotate_left
  · intro w hw; obtain e1 := hw; go_simp
    try with_reducible rfl
  simp only [Act.put]
  try simp only [List.setIfInBounds_toArray]
  refine wpE_one (i := 2) (by kernel_rfl) rfl (fun K hK => ?_)
  go_simp
  go_at_call 37
  refine hwt.out.mono ?_
  rintro e w2 ⟨rfl, hS2⟩
  have hS3 := wAs_pop2 hS2
  have k3 : w2.cell? ⟨b, 0, none⟩ = some (.slice A cs.length c) := by rw [hS3.box_cell 1 rfl 0]; rfl
  dsimp only
  refine hK _ _ (fun _ => k3) ?_
  clear hK K
  try simp only [Act.put]
  try simp only [List.setIfInBounds_toArray]
  have hS4 := hS3.alloc (.cells #[.complex .f64 (fI (1 + B)) (fI (1 + I))] 58)
  have k4 : (w2.alloc (.cells #[.complex .f64 (fI (1 + B)) (fI (1 + I))] 58)).cell? ⟨b, 0, none⟩ = some (.slice A cs.length c) := by rw [hS4.box_cell 1 rfl 0]; rfl
  refine wpE_one (i := 3) (by kernel_rfl) rfl (fun K hK => ?_)
  go_simp
  refine hK _ _ (fun _ => k4) ?_
  clear hK K
  try simp only [Act.put]
  try simp only [List.setIfInBounds_toArray]
  refine wpE_one (i := 4) (by kernel_rfl) rfl (fun K hK => ?_)
  refine step_append_sep 0 (by rfl) _ _ 59 (by rfl) 58 i0 _ 1 16 Tryz.underlying59 hinf hz0 hz1 hz2 rfl (by decide) hS4 (.slice A cs.length c) cs.length cs (by rfl) (by rfl) ⟨w2.heap.size, 0, none⟩ 1 1 [.complex .f64 (fI (1 + B)) (fI (1 + I))] (by rfl) (by rfl) (cells_new _ _ _ _ (by simp)) (by simp [Value.oneCell']) (by decide) (by unfold maxLen; omega) (by omega) ?_
  intro g5 c5 w5 hS5 hz5
  have k5 : w5.cell? ⟨b, 0, none⟩ = some (.slice A cs.length c) := by rw [hS5.box_cell 1 rfl 0]; rfl
  have z5 := hS5.box_frozen 1 rfl 0
  refine hK _ _ (fun _ => k5) ?_
  clear hK K
  try simp only [Act.put]
  try simp only [List.setIfInBounds_toArray]
  refine wpE_one (i := 5) (by kernel_rfl) rfl (fun K hK => ?_)
  go_simp
  refine hK _ _ (fun h => absurd rfl h) ?_
  clear hK K
  try simp only [Act.put]
  try simp only [List.setIfInBounds_toArray]
  refine wpE_done (by kernel_rfl) ?_ _
  go_wp2_with fail
  go_end0
  exact ⟨rfl, _, hS5.box_stored 1 rfl 0 (.slice (some ⟨g5, 0, none⟩) (cs.length + 1) c5)⟩
end Go.Proofs.YtahkpkaodeeemaaGreat

namespace Go.Proofs.YtahkpkaodeeemaaGreat
open Go.RowKit
set_option linter.unusedVariables false

def insL (op : Int) (p to : List UInt8) (mode ref : Int) : List Value := [.int .i64 op, strV p, strV to, .int .i64 mode, .int .i64 ref]
set_option maxRecDepth 100000 in
set_option maxHeartbeats 2000000 in
theorem all_any {w0 w : World} {nv fv : Value} {es : List Ent} {vs : List Value} (h : FlatAt w0 nv fv es vs) (ho : FlatOk es) (h15 : es.length ≤ 15) {sv lv : Value} {op mode ref : Int} {p to : List UInt8} {S : Ent → Prop} {dB dI : Int} (hE : Eff w0 es sv op p mode ref S dB dI) (hp : RootName p) (ha : Ascii p) (hlv : Rd w0 5 lv 1 (insL op p to mode ref)) {b : Nat} (hS : Sep w0 w [.sl 58 1 (.slice none 0 0) 0 [], .box b 59 #[.slice none 0 0]]) :
    Calls Tryz.prog 35 #[.agg #[nv, fv], lv, sv, .func (.func 36) #[] #[.pointer (some ⟨b, 0, none⟩)]] w fun e w' => ∃ W lv', e = .returned (.tuple #[.pointer (some ⟨W, 0, none⟩), .int .i64 1, .int .i64 0]) ∧ Sep w0 w' [.sl 58 1 lv' 2 [cplx (1 + sumB es) (1 + es.length), cplx (1 + (sumB es + dB)) (1 + (es.length + dI))], .box b 59 #[lv']] := by
  have hS0 := hS.box_new 34 #[nv, fv]
  have hop := Lib.hid (open_flat (h.below hS0.below) ho)
  obtain ⟨A1, c1, rfl, hm1⟩ := h.nodes.shape
  obtain ⟨A2, c2, rfl, hm2⟩ := h.files.shape
  obtain ⟨gl, ol, cl, rfl, _, _, _, hcell⟩ := hlv.place (by decide) (by decide)
  have hcell' := Lib.hid hcell
  have hS0' := Lib.hid hS0
  have h' := Lib.hid h
  have hE' := Lib.hid hE
  have hdI : dI ≤ 1 := by
    cases hE with
    | unlink => decide
    | write => decide
  clear hS0 hlv hcell hS h hE
  go_enter Tryz.func35, Tryz.ntmps35
  go_wp2_with (first
    | (go_at_call 39; refine hop.out.mono ?_; rintro e w1 ⟨W, bn, bf, bk, Fs, rfl, hfs, hs1⟩; (have hs2 : Sep w0 w1 (.sl 58 1 (.slice none 0 0) 0 [] :: .box b 59 #[.slice none 0 0] :: wAs W bn bf bk es.length (nsOf es es.length) Fs (lkOf es.length) []) := ((hS0'.out.join hs1).perm List.perm_append_comm).drop 1); (have hg := good_open h'.out ho (by omega) hfs); (have hcu := Lib.hid (curve1_any hs2 hg (by simp) (by rw [hfs.len]; omega))); replace hfs := Lib.hid hfs; clear hop hs1 hs2 hg)
    | (go_at_call 36; refine hcu.out.mono ?_; rintro e w2 ⟨rfl, lv1, hs3⟩; clear hcu; dsimp only; replace hs3 := Lib.hid hs3)
    | fail)
  have x0 := hcell'.out w2 hs3.out.below 0 (by decide)
  have x1 := hcell'.out w2 hs3.out.below 1 (by decide)
  have x2 := hcell'.out w2 hs3.out.below 2 (by decide)
  have x3 := hcell'.out w2 hs3.out.below 3 (by decide)
  have x4 := hcell'.out w2 hs3.out.below 4 (by decide)
  simp only [insL, strV, Nat.add_zero, List.getElem?_cons_zero, List.getElem?_cons_succ] at x0 x1 x2 x3 x4
  have hdo := Lib.hid (do_step (to := to) h'.out ho h15 hfs.out (wAs_push2 (hs3.out.alloc (.cells (insC op p to mode ref) 26))) hE'.out hp ha)
  unfold insV insC strV at hdo
  refine wp_loop_rounds 2 ?_
  rw [rounds_succ]
  go_wp2_with (first
    | (go_at_call 40; refine hdo.out.mono ?_; rintro e w3 ⟨rfl, next, Ns, Fs2, Lk, hs4, hg⟩; (have hcu := Lib.hid (curve1_any (wAs_pop2 hs4) hg (by simp) (by have := hg.len; omega))); clear hs4 hg hdo; dsimp only)
    | (go_at_call 36; refine hcu.out.mono ?_; rintro e w4 ⟨rfl, lv2, hs5⟩; clear hcu; dsimp only; replace hs5 := Lib.hid hs5)
    | fail)
  rw [rounds_succ]
  go_wp2_with fail
  go_ret3
  exact ⟨W, lv2, rfl, Sep.fst (X := [_, _]) hs5.out⟩

set_option maxRecDepth 100000 in
theorem curve_any {w : World} {nv fv : Value} {es : List Ent} {vs : List Value} (h : FlatAt w nv fv es vs) (ho : FlatOk es) (h15 : es.length ≤ 15) {sv lv : Value} {op mode ref : Int} {p to : List UInt8} {S : Ent → Prop} {dB dI : Int} (hE : Eff w es sv op p mode ref S dB dI) (hp : RootName p) (ha : Ascii p) (hlv : Rd w 5 lv 1 (insL op p to mode ref)) :
    Calls Tryz.prog 18 #[.agg #[nv, fv], lv, sv] w fun e w' => ∃ lv', e = .returned (.tuple #[lv', .int .i64 1, .int .i64 0]) ∧ Sep w w' [.sl 58 1 lv' 2 [cplx (1 + sumB es) (1 + es.length), cplx (1 + (sumB es + dB)) (1 + (es.length + dI))]] := by
  have hS0 := (((Sep.nil w).box_new 34 #[nv, fv]).box_new 59 #[.slice none 0 0]).sl_nil 58 1
  simp only [World.size_alloc] at hS0
  have hal := Lib.hid (all_any h ho h15 hE hp ha hlv (Sep.fst (X := [_, _]) hS0))
  obtain ⟨A1, c1, rfl, hm1⟩ := h.nodes.shape
  obtain ⟨A2, c2, rfl, hm2⟩ := h.files.shape
  clear hS0 h hE hlv
  go_enter Tryz.func18, Tryz.ntmps18
  go_wp2_with (first
    | (go_at_call 35; refine hal.out.mono ?_; rintro e w1 ⟨W, lv1, rfl, hs1⟩; (have k0 := hs1.box_cell 1 rfl 0); simp only [List.getElem?_toArray, List.getElem?_cons_zero] at k0; replace hs1 := Lib.hid hs1; clear hal)
    | fail)
  go_ret3
  exact ⟨lv1, rfl, Sep.fst (X := [_]) hs1.out⟩
end Go.Proofs.YtahkpkaodeeemaaGreat

namespace Go.Proofs.YtahkpkaodeeemaaGreat
open Go.RowKit
set_option linter.unusedVariables false

theorem run_csub (t : TypeId) (a b c d : Int) (ha : SmallI a) (hb : SmallI b) (hc : SmallI c) (hd : SmallI d) (h1 : SmallI (a - c)) (h2 : SmallI (b - d)) (w : World) :
    (binOp .sub t (cplx a b) (cplx c d)).run Tryz.prog w = .ok (cplx (a - c) (b - d)) w := by
  refine run_complex_sum (P := Tryz.prog) (w := w) .sub (.inr rfl) t .f64 (fI a) (fI b) (fI c) (fI d) (fI (a - c)) (fI (b - d)) ?_
  unfold cSumBits
  rw [sub_fI ha hc h1, sub_fI hb hd h2]
  rfl
/-- What the growth reads, of the world as Order has it. -/
structure GrowIn (w : World) (bs ba bk : Nat) (nv fv av sv : Value) : Prop where
  s0 : w.cell? ⟨bs, 0, none⟩ = some nv
  s1 : w.cell? ⟨bs, 1, none⟩ = some fv
  a0 : w.cell? ⟨ba, 0, none⟩ = some av
  k0 : w.cell? ⟨bk, 0, none⟩ = some sv
theorem GrowIn.below {w w' : World} {bs ba bk : Nat} {nv fv av sv : Value} (h : GrowIn w bs ba bk nv fv av sv) (hb : Below w.heap.size w w') : GrowIn w' bs ba bk nv fv av sv :=
  ⟨(hb.cell (World.block_lt_of_cell? w _ h.s0)).trans h.s0, (hb.cell (World.block_lt_of_cell? w _ h.s1)).trans h.s1, (hb.cell (World.block_lt_of_cell? w _ h.a0)).trans h.a0, (hb.cell (World.block_lt_of_cell? w _ h.k0)).trans h.k0⟩
theorem sumB_le {es : List Ent} (h : ∀ e ∈ es, e.size ≤ 8192) : 0 ≤ sumB es ∧ sumB es ≤ 17 * es.length := by
  induction es with
  | nil => simp [sumB]
  | cons e es ih =>
    obtain ⟨i1, i2⟩ := ih fun x hx => h x (List.mem_cons_of_mem _ hx)
    have := fileB_le (h e (by simp))
    unfold sumB
    simp only [List.length_cons]
    omega
theorem Eff.bounds {w : World} {es : List Ent} {sv : Value} {op : Int} {p : List UInt8} {mode ref : Int} {S : Ent → Prop} {dB dI : Int} (h : Eff w es sv op p mode ref S dB dI) (ho : FlatOk es) : -17 ≤ dB ∧ dB ≤ 17 ∧ -1 ≤ dI ∧ dI ≤ 1 := by
  cases h with
  | unlink he => have := fileB_le (ho.size _ he); omega
  | write _ _ _ _ hm _ => have := fileB_le hm; omega
theorem rd_lit (w : World) (cs : Array Value) (e : TypeId) (sz : Nat) (h : cs.size = sz) : Rd (w.alloc (.cells cs e)) sz (.slice (some ⟨w.heap.size, 0, none⟩) 1 1) 1 cs.toList :=
  ⟨by simp [h], _, 1, rfl, Nat.le_refl _, by decide, fun _ => ⟨_, rfl, by simp, fun j u hu => cells_new w cs e _ rfl j u hu⟩⟩
set_option maxRecDepth 100000 in
set_option maxHeartbeats 2000000 in
theorem growth_any {w : World} {bs ba bk : Nat} {nv fv av sv : Value} (hG : GrowIn w bs ba bk nv fv av sv) {es : List Ent} {vs : List Value} (h : FlatAt w nv fv es vs) (ho : FlatOk es) (h15 : es.length ≤ 15) {xs : List Ins} (hx : InsAt w av xs) {i : Nat} {x : Ins} (hi : xs[i]? = some x) {p to : List UInt8} (hxp : x.path = ⟨p.toArray⟩) (hxt : x.to = ⟨to.toArray⟩) {S : Ent → Prop} {dB dI : Int} (hE : Eff w es sv x.op p x.mode x.ref S dB dI) (hp : RootName p) (ha : Ascii p) :
    Calls Tryz.prog 17 #[.int .i64 i, .pointer (some ⟨bs, 0, none⟩), .pointer (some ⟨ba, 0, none⟩), .pointer (some ⟨bk, 0, none⟩)] w fun e w' => e = .returned (cplx dB dI) ∧ Below w.heap.size w w' := by
  have hlt := (List.getElem?_eq_some_iff.1 hi).1
  obtain ⟨g, o, ca, rfl, _, _, hgl, hcell⟩ := Rd.place hx (by omega) (by decide)
  have hb := sumB_le ho.size
  have hdB := hE.bounds ho
  have hcs := fun W => run_csub 58 (1 + (sumB es + dB)) (1 + (es.length + dI)) (1 + sumB es) (1 + es.length) (by unfold SmallI; omega) (by unfold SmallI; omega) (by unfold SmallI; omega) (by unfold SmallI; omega) (by unfold SmallI; omega) (by unfold SmallI; omega) W
  rw [show 1 + (sumB es + dB) - (1 + sumB es) = dB by omega, show 1 + ((es.length : Int) + dI) - (1 + (es.length : Int)) = dI by omega] at hcs
  have q1 : (0 : Int) ≤ (i : Int) := by omega
  have q2 : (i : Int) < (xs.length : Int) := by omega
  have hic := fun (W : World) (hW : Below w.heap.size w W) (f : Nat) (hf : f < 5) => (hcell W hW (i * 5 + f) (by omega)).trans (insCells_at hi f hf)
  have m1 : ∀ w' : World, Below w.heap.size w w' → w'.cell? ⟨bs, 0, none⟩ = some nv ∧ w'.cell? ⟨bs, 1, none⟩ = some fv ∧ w'.cell? ⟨ba, 0, none⟩ = some (.slice (some ⟨g, o, none⟩) xs.length ca) ∧ w'.cell? ⟨bk, 0, none⟩ = some sv ∧ w'.cell? ⟨g, o + i * 5, none⟩ = some (.int .i64 x.op) ∧ w'.cell? ⟨g, o + i * 5 + 1, none⟩ = some (.string ⟨p.toArray⟩) ∧ w'.cell? ⟨g, o + i * 5 + 2, none⟩ = some (.string ⟨to.toArray⟩) ∧ w'.cell? ⟨g, o + i * 5 + 3, none⟩ = some (.int .i64 x.mode) ∧ w'.cell? ⟨g, o + i * 5 + 4, none⟩ = some (.int .i64 x.ref) := by
    intro w' hw
    obtain ⟨s0, s1, a0, k0⟩ := hG.below hw
    have e0 := hic _ hw 0 (by omega)
    have e1 := hic _ hw 1 (by omega)
    have e2 := hic _ hw 2 (by omega)
    have e3 := hic _ hw 3 (by omega)
    have e4 := hic _ hw 4 (by omega)
    simp only [Ins.cells, hxp, hxt, Nat.add_zero, ← Nat.add_assoc, List.getElem?_cons_zero, List.getElem?_cons_succ] at e0 e1 e2 e3 e4
    exact ⟨s0, s1, a0, k0, e0, e1, e2, e3, e4⟩
  have hE0 := m1 _ (Below.refl _ _).drew
  have hB1 : Below w.heap.size w (w.alloc (.cells (insC x.op p to x.mode x.ref) 26)).drew := ((Below.refl _ _).alloc (Nat.le_refl _) _).drew
  have hE1 := m1 _ hB1
  have hcu := Lib.hid (curve_any (h.below hB1) ho h15 (hE.below hB1) hp ha (lv := .slice (some ⟨w.heap.size, 0, none⟩) 1 1) (to := to) (by have := rd_lit w.drew (insC x.op p to x.mode x.ref) 26 5 rfl; exact this))
  obtain ⟨A1, c1, rfl, hm1⟩ := h.nodes.shape
  obtain ⟨A2, c2, rfl, hm2⟩ := h.files.shape
  have m1' := Lib.hid m1
  have hB1' := Lib.hid hB1
  unfold insC strV at *
  clear m1 hic hcell hG h hE hx hi hB1
  go_enter Tryz.func17, Tryz.ntmps17
  go_wp2_with fail
  refine wp_region_E (S := fun w' => w'.cell? ⟨bs, 0, none⟩ = some (.slice A1 es.length c1) ∧ w'.cell? ⟨bs, 1, none⟩ = some (.slice A2 es.length c2) ∧ w'.cell? ⟨ba, 0, none⟩ = some (.slice (some ⟨g, o, none⟩) xs.length ca) ∧ w'.cell? ⟨bk, 0, none⟩ = some sv ∧ w'.cell? ⟨g, o + i * 5, none⟩ = some (.int .i64 x.op) ∧ w'.cell? ⟨g, o + i * 5 + 1, none⟩ = some (.string ⟨p.toArray⟩) ∧ w'.cell? ⟨g, o + i * 5 + 2, none⟩ = some (.string ⟨to.toArray⟩) ∧ w'.cell? ⟨g, o + i * 5 + 3, none⟩ = some (.int .i64 x.mode) ∧ w'.cell? ⟨g, o + i * 5 + 4, none⟩ = some (.int .i64 x.ref)) 14 (by kernel_rfl) ?_
  simp only [List.size_toArray, List.length_cons, List.length_nil, Nat.reduceAdd]
  refine wpE_take (i := 0) (v := ?_) rfl (by kernel_rfl) (by kernel_rfl) (by kernel_rfl) (by kernel_rfl) (fun _ _ _ h => h) (Or.inl ⟨by rfl, ?_⟩) hE0 ?_
  rotate_left
  · intro w hw; obtain ⟨e1, e2, e3, e4, e5, e6, e7, e8, e9⟩ := hw; go_simp
    try with_reducible rfl
  simp only [Act.put]
  try simp only [List.setIfInBounds_toArray]
  refine wpE_take (i := 1) (v := ?_) rfl (by kernel_rfl) (by kernel_rfl) (by kernel_rfl) (by kernel_rfl) (fun _ _ _ h => h) (Or.inl ⟨by rfl, ?_⟩) hE0 ?_
  rotate_left
  · intro w hw; obtain ⟨e1, e2, e3, e4, e5, e6, e7, e8, e9⟩ := hw; go_simp
    try with_reducible rfl
  simp only [Act.put]
  try simp only [List.setIfInBounds_toArray]
  refine wpE_take (i := 2) (v := ?_) rfl (by kernel_rfl) (by kernel_rfl) (by kernel_rfl) (by kernel_rfl) (fun _ _ _ h => h) (Or.inl ⟨by rfl, ?_⟩) hE0 ?_
  rotate_left
  · intro w hw; obtain ⟨e1, e2, e3, e4, e5, e6, e7, e8, e9⟩ := hw; go_simp
    try with_reducible rfl
  simp only [Act.put]
  try simp only [List.setIfInBounds_toArray]
  refine wpE_take (i := 3) (v := ?_) rfl (by kernel_rfl) (by kernel_rfl) (by kernel_rfl) (by kernel_rfl) (fun _ _ _ h => h) (Or.inl ⟨by rfl, ?_⟩) hE0 ?_
  rotate_left
  · intro w hw; obtain ⟨e1, e2, e3, e4, e5, e6, e7, e8, e9⟩ := hw; go_simp
    try with_reducible rfl
  simp only [Act.put]
  try simp only [List.setIfInBounds_toArray]
  refine wpE_take (i := 4) (v := ?_) rfl (by kernel_rfl) (by kernel_rfl) (by kernel_rfl) (by kernel_rfl) (fun _ _ _ h => h) (Or.inl ⟨by rfl, ?_⟩) hE0 ?_
  rotate_left
  · intro w hw; obtain ⟨e1, e2, e3, e4, e5, e6, e7, e8, e9⟩ := hw; go_simp
    try with_reducible rfl
  simp only [Act.put]
  try simp only [List.setIfInBounds_toArray]
  refine wpE_take (i := 6) (v := ?_) rfl (by kernel_rfl) (by kernel_rfl) (by kernel_rfl) (by kernel_rfl) (fun _ _ _ h => h) (Or.inl ⟨by rfl, ?_⟩) hE0 ?_
  rotate_left
  · intro w hw; obtain ⟨e1, e2, e3, e4, e5, e6, e7, e8, e9⟩ := hw; go_simp
    try with_reducible rfl
  simp only [Act.put]
  try simp only [List.setIfInBounds_toArray]
  refine wpE_one (i := 5) (by kernel_rfl) rfl (fun K hK => ?_)
  go_simp
  refine hK _ _ (fun _ => hE1) ?_
  clear hK K
  try simp only [Act.put]
  try simp only [List.setIfInBounds_toArray]
  refine wpE_one (i := 7) (by kernel_rfl) rfl (fun K hK => ?_)
  go_simp
  go_at_call 18
  refine hcu.out.mono ?_
  rintro e w3 ⟨lv, rfl, hS3⟩
  obtain ⟨gl, cl, rfl, _⟩ := hS3.sl_form 0 rfl (by decide)
  have hB3 := hB1'.out.trans (hS3.below.mono hB1'.out.size)
  have hE3 := m1'.out w3 hB3
  have l0 := hS3.cellAt 0 rfl 0 (by decide)
  have l1 := hS3.cellAt 0 rfl 1 (by decide)
  simp only [List.getElem?_cons_zero, List.getElem?_cons_succ] at l0 l1
  dsimp only
  refine hK _ _ (fun _ => hE3) ?_
  clear hK K
  try simp only [Act.put]
  try simp only [List.setIfInBounds_toArray]
  refine wpE_take (i := 8) (v := ?_) rfl (by kernel_rfl) (by kernel_rfl) (by kernel_rfl) (by kernel_rfl) (fun _ _ _ h => h) (Or.inl ⟨by rfl, ?_⟩) hE3 ?_
  rotate_left
  · intro w hw; obtain ⟨e1, e2, e3, e4, e5, e6, e7, e8, e9⟩ := hw; go_simp
    try with_reducible rfl
  simp only [Act.put]
  try simp only [List.setIfInBounds_toArray]
  refine wpE_take (i := 9) (v := ?_) rfl (by kernel_rfl) (by kernel_rfl) (by kernel_rfl) (by kernel_rfl) (fun _ _ _ h => h) (Or.inl ⟨by rfl, ?_⟩) hE3 ?_
  rotate_left
  · intro w hw; obtain ⟨e1, e2, e3, e4, e5, e6, e7, e8, e9⟩ := hw; go_simp
    try with_reducible rfl
  simp only [Act.put]
  try simp only [List.setIfInBounds_toArray]
  refine wpE_take (i := 10) (v := ?_) rfl (by kernel_rfl) (by kernel_rfl) (by kernel_rfl) (by kernel_rfl) (fun _ _ _ h => h) (Or.inl ⟨by rfl, ?_⟩) hE3 ?_
  rotate_left
  · intro w hw; obtain ⟨e1, e2, e3, e4, e5, e6, e7, e8, e9⟩ := hw; go_simp
    try with_reducible rfl
  simp only [Act.put]
  try simp only [List.setIfInBounds_toArray]
  refine wpE_take (i := 11) (v := ?_) rfl (by kernel_rfl) (by kernel_rfl) (by kernel_rfl) (by kernel_rfl) (fun _ _ _ h => h) (Or.inl ⟨by rfl, ?_⟩) hE3 ?_
  rotate_left
  · intro w hw; obtain ⟨e1, e2, e3, e4, e5, e6, e7, e8, e9⟩ := hw; go_simp
    try with_reducible rfl
  simp only [Act.put]
  try simp only [List.setIfInBounds_toArray]
  refine wpE_take (i := 12) (v := ?_) rfl (by kernel_rfl) (by kernel_rfl) (by kernel_rfl) (by kernel_rfl) (fun _ _ _ h => h) (Or.inl ⟨by rfl, ?_⟩) hE3 ?_
  rotate_left
  · intro w hw; obtain ⟨e1, e2, e3, e4, e5, e6, e7, e8, e9⟩ := hw; go_simp
    try with_reducible rfl
  simp only [Act.put]
  try simp only [List.setIfInBounds_toArray]
  refine wpE_take (i := 13) (v := ?_) rfl (by kernel_rfl) (by kernel_rfl) (by kernel_rfl) (by kernel_rfl) (fun _ _ _ h => h) (Or.inl ⟨by rfl, ?_⟩) hE3 ?_
  rotate_left
  · intro w hw; obtain ⟨e1, e2, e3, e4, e5, e6, e7, e8, e9⟩ := hw; go_simp
    try with_reducible rfl
  simp only [Act.put]
  try simp only [List.setIfInBounds_toArray]
  refine wpE_one (i := 14) (by kernel_rfl) rfl (fun K hK => ?_)
  go_simp
  refine hK _ _ (fun h => absurd rfl h) ?_
  clear hK K
  try simp only [Act.put]
  try simp only [List.setIfInBounds_toArray]
  refine wpE_done (by kernel_rfl) ?_ _
  have hB3' := Lib.hid hB3
  clear hB3 hS3 hE3 hE1 hE0 hcu
  unfold cplx at hcs l0 l1
  go_wp2_with fail
  go_quiet (fail)
  go_wp2_with fail
  go_ret
  exact ⟨rfl, (((Sep.nil w).pure hB3'.out).drewN nq).below⟩
theorem cless_any (a b c d : Int) (ha : SmallI a) (hb : SmallI b) (hc : SmallI c) (hd : SmallI d) (w : World) :
    Calls Tryz.prog 19 #[cplx a b, cplx c d] w fun e w' => e = .returned (.bool (decide (a < c) || (decide (a = c) && decide (b < d)))) ∧ w = w' := by
  have hac : FloatKind.f64.format.order (fI a) (fI c) = some (compare a c) := order_fI ha hc
  have hbd : FloatKind.f64.format.order (fI b) (fI d) = some (compare b d) := order_fI hb hd
  unfold cplx
  rcases Int.lt_trichotomy a c with h | h | h
  · rw [Int.compare_eq_lt.2 h] at hac
    rw [decide_eq_true h, Bool.true_or]
    clear hbd h
    go_enter Tryz.func19, Tryz.ntmps19
    go_wp2_with fail
    go_ret
    exact ⟨rfl, rfl⟩
  · rw [Int.compare_eq_eq.2 h] at hac
    have e1 : decide (a < c) = false := by simp; omega
    rw [e1, decide_eq_true h, Bool.false_or, Bool.true_and]
    have e2 : (FloatKind.f64.format.order (fI b) (fI d) == some .lt) = decide (b < d) := by
      rw [hbd]
      rcases Int.lt_trichotomy b d with h2 | h2 | h2
      · rw [Int.compare_eq_lt.2 h2, decide_eq_true h2]
        rfl
      · rw [Int.compare_eq_eq.2 h2]
        have : decide (b < d) = false := by simp; omega
        rw [this]
        rfl
      · rw [Int.compare_eq_gt.2 h2]
        have : decide (b < d) = false := by simp; omega
        rw [this]
        rfl
    clear hbd h e1
    rw [← e2]
    clear e2
    go_enter Tryz.func19, Tryz.ntmps19
    go_wp2_with fail
    go_ret
    exact ⟨rfl, rfl⟩
  · rw [Int.compare_eq_gt.2 h] at hac
    have e1 : decide (a < c) = false := by simp; omega
    have e2 : decide (a = c) = false := by simp; omega
    rw [e1, e2, Bool.false_and, Bool.false_or]
    clear hbd h e1 e2
    go_enter Tryz.func19, Tryz.ntmps19
    go_wp2_with fail
    go_ret
    exact ⟨rfl, rfl⟩
end Go.Proofs.YtahkpkaodeeemaaGreat
