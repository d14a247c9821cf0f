/- ModelW, laid together. -/
import Derived.Test.YtahkpkaodeeemaaGreatJ18
import Derived.IntWalk
namespace Go.Proofs.YtahkpkaodeeemaaGreat
open Go.RowKit
set_option linter.unusedVariables false

structure FEnt where
  id : Nat
  ptr : Nat
  mode : Int
  names : Int
  dv : Value
structure NEnt where
  path : List UInt8
  id : Nat
def fileBox (f : FEnt) : Asn := .box f.ptr 113 #[.int .i64 f.mode, .int .i64 f.names, f.dv]
def filesL (Fs : List FEnt) : List (Lit × Value) := Fs.map fun f => (.int .i64 f.id, .pointer (some ⟨f.ptr, 0, none⟩))
def nodesL (Ns : List NEnt) : List (Lit × Value) := Ns.map fun n => (.string n.path, .agg #[.int .i64 n.id, .int .i64 0])
def worldCells (bn bf bk next : Nat) : Array Value := #[.map (some bn), .map (some bf), .map (some bk), .int .i64 next]
def wAs (W bn bf bk next : Nat) (Ns : List NEnt) (Fs : List FEnt) (Lk : List (Lit × Value)) (R : List Asn) : List Asn :=
  .box W 108 (worldCells bn bf bk next) :: gmR 9 bn (nodesL Ns) :: gmR 3 bf (filesL Fs) :: gmR 9 bk Lk :: (Fs.map fileBox ++ R)

theorem zero_node (w : World) : (zeroValue 110).run Tryz.prog w = .ok (.agg #[.int .i64 0, .int .i64 0]) w := by kernel_rfl
theorem zero_pfile (w : World) : (zeroValue 111).run Tryz.prog w = .ok (.pointer none) w := by kernel_rfl
theorem keyOf_id (n : Nat) (h : n ≤ 100000) : keyOf Tryz.prog 3 (.int .i64 n) = some (.int .i64 n) := Maps.keyOf_int_mk Tryz.underlying3 (wf_i64 (by omega) (by omega))
/-- A name is put in. -/
def putN (Ns : List NEnt) (p : List UInt8) (id : Nat) : List NEnt := Ns.filter (fun n => !(n.path == p)) ++ [⟨p, id⟩]
theorem nodesL_put (Ns : List NEnt) (p : List UInt8) (id : Nat) : putM (nodesL Ns) (.string p) (.agg #[.int .i64 id, .int .i64 0]) = nodesL (putN Ns p id) := by
  unfold putM delM nodesL putN
  rw [List.map_append, List.filter_map]
  rfl
theorem parts_any (n by_ : Int) (h0 : 0 ≤ n) (h1 : n ≤ 1000000) (h2 : 0 < by_) (h3 : by_ ≤ 1000000) (w : World) : Calls Tryz.prog 54 #[.int .i64 n, .int .i64 by_] w fun e w' => e = .returned (.int .i64 ((n + by_ - 1) / by_)) ∧ w' = w := by
  have q : (by_ == 0) = false := by simp; omega
  go_enter Tryz.func54, Tryz.ntmps54
  go_wp2_with fail
  go_ret
  exact ⟨rfl, rfl⟩

section
variable {P : Program} {w w' : World} {ops : Array Oper} {o : Oper} {a : Act} {Q : Exit → Act → World → Prop} {K : Act → World → Prop} {E : Prop}
theorem step_map_put (hgd : o.guard = none) (m x v : Operand) (t : TypeId) (hop : o.op = Op.mapUpdate t m x v) (mv kv vv : Value) (hm : a.eval m = mv) (hx : a.eval x = kv) (hv : a.eval v = vv)
    (hrun : (Instr.mapUpdate t mv kv vv).run P w = .ok () w') (h : K (a.put o.dst undef) w') : if Region.wanted o (yielded ops a.tmps) = true then Oper.wp P o a w K Q else E := by
  have hw : Region.wanted o (yielded ops a.tmps) = true := by simp [Region.wanted, hgd]
  rw [if_pos hw]
  unfold Oper.wp
  simp [execOp, hop, hm, hx, hv, hrun, Result.andThen]
  exact h
theorem step_look (hgd : o.guard = none) (m x : Operand) (t : TypeId) (c : Bool) (hop : o.op = Op.lookup t m x c) (mv kv vv : Value) (hm : a.eval m = mv) (hx : a.eval x = kv)
    (hrun : (Instr.lookup t mv kv c).run P w = .ok vv w) (h : K (a.put o.dst vv) w) : if Region.wanted o (yielded ops a.tmps) = true then Oper.wp P o a w K Q else E := by
  have hw : Region.wanted o (yielded ops a.tmps) = true := by simp [Region.wanted, hgd]
  rw [if_pos hw]
  unfold Oper.wp
  simp [execOp, hop, hm, hx, hrun, Result.andThen]
  exact h
end
theorem List.set_getElem_self' {α : Type} {l : List α} {i : Nat} {x : α} (h : l[i]? = some x) : l.set i x = l := by
  obtain ⟨hlt, rfl⟩ := List.getElem?_eq_some_iff.1 h
  exact List.set_getElem_self hlt
set_option maxRecDepth 100000 in
theorem wput_any {w0 w : World} {W bn bf bk next : Nat} {Ns : List NEnt} {Fs : List FEnt} {Lk : List (Lit × Value)} {R : List Asn} (hS : Sep w0 w (wAs W bn bf bk next Ns Fs Lk R)) {p : List UInt8} (hp : RootName p) {j : Nat} {f : FEnt} (hf : Fs[j]? = some f) (hid : f.id ≤ 10000) (hn : f.names ≤ 10000 ∧ 0 ≤ f.names) {k : Nat} (hk : (getM Lk (.string [])).getD (.int .i64 0) = .int .i64 k) (hk9 : k ≤ 10000) (hNs : Ns.length ≤ 10000) (hLk : Lk.length ≤ 10000) :
    Calls Tryz.prog 55 #[.pointer (some ⟨W, 0, none⟩), strV p, .agg #[.int .i64 f.id, .int .i64 0]] w fun e w' => e = .returned (.tuple #[]) ∧ Sep w0 w' (wAs W bn bf bk next (putN Ns p f.id) (Fs.set j { f with names := f.names + 1 }) (putM Lk (.string []) (.int .i64 ((k : Int) + 1))) R) := by
  have hsh : p.length ≤ maxLen := by have := hp.short; unfold maxLen; omega
  have hX := (hS.box_new 110 #[.int .i64 f.id, .int .i64 0]).drew
  have m1 : ∀ (As : List Asn) (w' : World), Sep w0 w' As → As[1]? = some (.box W 108 (worldCells bn bf bk next)) → As[0]? = some (.box w.heap.size 110 #[.int .i64 f.id, .int .i64 0]) → w'.cell? ⟨W, 0, none⟩ = some (.map (some bn)) ∧ w'.cell? ⟨w.heap.size, 0, none⟩ = some (.int .i64 f.id) ∧ w'.cell? ⟨w.heap.size, 1, none⟩ = some (.int .i64 0) := by
    intro As w' h h1 h0
    exact ⟨by rw [h.box_cell 1 h1 0]; rfl, by rw [h.box_cell 0 h0 0]; rfl, by rw [h.box_cell 0 h0 1]; rfl⟩
  have hE := m1 _ _ hX rfl rfl
  obtain ⟨w2, hup, hX2⟩ := hX.gm_put 2 rfl keyed_str Tryz.underlying105 (by simp [nodesL]; unfold maxLen; omega) (v := .agg #[.int .i64 f.id, .int .i64 0]) (keyOf_strV p hsh)
  have hX2' := Lib.hid hX2
  have hE2 := Lib.hid m1
  have hpa := fun W => parent_flat hp W
  have hpa' := Lib.hid hpa
  have q0 : (0 : Int) ≤ (f.id : Int) := by omega
  have hw1 : IntKind.i64.wrap ((k : Int) + 1) = (k : Int) + 1 := IntWalk.i64_in _ (by omega)
  have hw2 : IntKind.i64.wrap (f.names + 1) = f.names + 1 := IntWalk.i64_in _ (by omega)
  unfold strV at *
  clear hX hX2 m1 hS hpa
  go_enter Tryz.func55, Tryz.ntmps55
  go_wp2_with fail
  refine wp_region_E (S := fun w' => w'.cell? ⟨W, 0, none⟩ = some (.map (some bn)) ∧ w'.cell? ⟨w.heap.size, 0, none⟩ = some (.int .i64 f.id) ∧ w'.cell? ⟨w.heap.size, 1, none⟩ = some (.int .i64 0)) 6 (by kernel_rfl) ?_
  simp only [List.size_toArray, List.length_cons, List.length_nil, Nat.reduceAdd]
  refine wpE_take (i := 0) (v := ?_) rfl (by kernel_rfl) (by kernel_rfl) (by kernel_rfl) (by kernel_rfl) (fun _ _ _ h => h) (Or.inl ⟨by rfl, ?_⟩) hE ?_
  rotate_left
  · intro w hw; obtain ⟨e1, e2, e3⟩ := hw; go_simp
    try with_reducible rfl
  simp only [Act.put]
  try simp only [List.setIfInBounds_toArray]
  refine wpE_take (i := 1) (v := ?_) rfl (by kernel_rfl) (by kernel_rfl) (by kernel_rfl) (by kernel_rfl) (fun _ _ _ h => h) (Or.inl ⟨by rfl, ?_⟩) hE ?_
  rotate_left
  · intro w hw; obtain ⟨e1, e2, e3⟩ := hw; go_simp
    try with_reducible rfl
  simp only [Act.put]
  try simp only [List.setIfInBounds_toArray]
  refine wpE_take (i := 2) (v := ?_) rfl (by kernel_rfl) (by kernel_rfl) (by kernel_rfl) (by kernel_rfl) (fun _ _ _ h => h) (Or.inl ⟨by rfl, ?_⟩) hE ?_
  rotate_left
  · intro w hw; obtain ⟨e1, e2, e3⟩ := hw; go_simp
    try with_reducible rfl
  simp only [Act.put]
  try simp only [List.setIfInBounds_toArray]
  refine wpE_take (i := 3) (v := ?_) rfl (by kernel_rfl) (by kernel_rfl) (by kernel_rfl) (by kernel_rfl) (fun _ _ _ h => h) (Or.inl ⟨by rfl, ?_⟩) hE ?_
  rotate_left
  · intro w hw; obtain ⟨e1, e2, e3⟩ := hw; go_simp
    try with_reducible rfl
  simp only [Act.put]
  try simp only [List.setIfInBounds_toArray]
  refine wpE_take (i := 4) (v := ?_) rfl (by kernel_rfl) (by kernel_rfl) (by kernel_rfl) (by kernel_rfl) (fun _ _ _ h => h) (Or.inl ⟨by rfl, ?_⟩) hE ?_
  rotate_left
  · intro w hw; obtain ⟨e1, e2, e3⟩ := hw; go_simp
    try with_reducible rfl
  simp only [Act.put]
  try simp only [List.setIfInBounds_toArray]
  refine wpE_take (i := 5) (v := ?_) rfl (by kernel_rfl) (by kernel_rfl) (by kernel_rfl) (by kernel_rfl) (fun _ _ _ h => h) (Or.inl ⟨by rfl, ?_⟩) hE ?_
  rotate_left
  · intro w hw; obtain ⟨e1, e2, e3⟩ := hw; go_simp
    try with_reducible rfl
  simp only [Act.put]
  try simp only [List.setIfInBounds_toArray]
  refine wpE_one (i := 6) (by kernel_rfl) rfl (fun K hK => ?_)
  go_simp
  refine hK _ _ (fun h => absurd rfl h) ?_
  clear hK K
  try simp only [Act.put]
  try simp only [List.setIfInBounds_toArray]
  refine wpE_done (by kernel_rfl) ?_ _
  have hX3 := hX2'.out.drew
  have hE3 : w2.drew.cell? ⟨W, 2, none⟩ = some (.map (some bk)) := by rw [hX3.box_cell 1 rfl 2]; rfl
  go_wp2_with fail
  refine wp_region_E (S := fun w' => w'.cell? ⟨W, 2, none⟩ = some (.map (some bk))) 8 (by kernel_rfl) ?_
  simp only [List.size_toArray, List.length_cons, List.length_nil, Nat.reduceAdd]
  refine wpE_take (i := 0) (v := ?_) rfl (by kernel_rfl) (by kernel_rfl) (by kernel_rfl) (by kernel_rfl) (fun _ _ _ h => h) (Or.inl ⟨by rfl, ?_⟩) hE3 ?_
  rotate_left
  · intro w hw; obtain e1 := hw; go_simp
    try with_reducible rfl
  simp only [Act.put]
  try simp only [List.setIfInBounds_toArray]
  refine wpE_take (i := 1) (v := ?_) rfl (by kernel_rfl) (by kernel_rfl) (by kernel_rfl) (by kernel_rfl) (fun _ _ _ h => h) (Or.inl ⟨by rfl, ?_⟩) hE3 ?_
  rotate_left
  · intro w hw; obtain e1 := hw; go_simp
    try with_reducible rfl
  simp only [Act.put]
  try simp only [List.setIfInBounds_toArray]
  refine wpE_take (i := 2) (v := ?_) rfl (by kernel_rfl) (by kernel_rfl) (by kernel_rfl) (by kernel_rfl) (fun _ _ _ h => h) (Or.inl ⟨by rfl, ?_⟩) hE3 ?_
  rotate_left
  · intro w hw; obtain e1 := hw; go_simp
    try with_reducible rfl
  simp only [Act.put]
  try simp only [List.setIfInBounds_toArray]
  refine wpE_take (i := 3) (v := ?_) rfl (by kernel_rfl) (by kernel_rfl) (by kernel_rfl) (by kernel_rfl) (fun _ _ _ h => h) (Or.inl ⟨by rfl, ?_⟩) hE3 ?_
  rotate_left
  · intro w hw; obtain e1 := hw; go_simp
    try with_reducible rfl
  simp only [Act.put]
  try simp only [List.setIfInBounds_toArray]
  refine wpE_take (i := 4) (v := ?_) rfl (by kernel_rfl) (by kernel_rfl) (by kernel_rfl) (by kernel_rfl) (fun _ _ _ h => h) (Or.inl ⟨by rfl, ?_⟩) hE3 ?_
  rotate_left
  · intro w hw; obtain e1 := hw; go_simp
    try with_reducible rfl
  simp only [Act.put]
  try simp only [List.setIfInBounds_toArray]
  refine wpE_one (i := 5) (by kernel_rfl) rfl (fun K hK => ?_)
  go_simp
  go_at_call 24
  refine (hpa'.out _).mono ?_
  rintro e w3 ⟨rfl, hb3⟩
  have hX4 := hX3.pure hb3
  have s4 : w3.cell? ⟨W, 2, none⟩ = some (.map (some bk)) := by rw [hX4.box_cell 1 rfl 2]; rfl
  have hlk := hX4.gm_look 4 rfl keyed_str Tryz.underlying68 (zero_int' _) (keyOf_strV [] (by simp))
  rw [hk] at hlk
  obtain ⟨w5, hup2, hX5⟩ := hX4.gm_put 4 rfl keyed_str Tryz.underlying68 (by unfold maxLen; omega) (v := .int .i64 ((k : Int) + 1)) (keyOf_strV [] (by simp))
  unfold strV at hlk hup2
  have hX5' := Lib.hid hX5
  clear hX5 hX4 hX3 hb3
  dsimp only
  refine hK _ _ (fun _ => s4) ?_
  clear hK K
  try simp only [Act.put]
  try simp only [List.setIfInBounds_toArray]
  refine wpE_one (i := 6) (by kernel_rfl) rfl (fun K hK => ?_)
  go_simp
  refine hK _ _ (fun _ => s4) ?_
  clear hK K
  try simp only [Act.put]
  try simp only [List.setIfInBounds_toArray]
  refine wpE_one (i := 7) (by kernel_rfl) rfl (fun K hK => ?_)
  go_simp
  refine hK _ _ (fun _ => s4) ?_
  clear hK K
  try simp only [Act.put]
  try simp only [List.setIfInBounds_toArray]
  refine wpE_one (i := 8) (by kernel_rfl) rfl (fun K hK => ?_)
  go_simp
  refine hK _ _ (fun h => absurd rfl h) ?_
  clear hK K
  try simp only [Act.put]
  try simp only [List.setIfInBounds_toArray]
  refine wpE_done (by kernel_rfl) ?_ _
  have u0 := hX5'.out.box_cell 0 rfl 0
  simp only [List.getElem?_toArray, List.getElem?_cons_zero] at u0
  have hfi : (wAs W bn bf bk next (putN Ns p f.id) Fs (putM Lk (.string []) (.int .i64 ((k : Int) + 1))) R)[j + 4]? = some (fileBox f) := by
    show (Fs.map fileBox ++ R)[j]? = _
    have hj := (List.getElem?_eq_some_iff.1 hf).1
    rw [List.getElem?_append_left (by simpa using hj), List.getElem?_map, hf]
    rfl
  have hX6 : Sep w0 w5.drew (.box w.heap.size 110 #[.int .i64 f.id, .int .i64 0] :: wAs W bn bf bk next (putN Ns p f.id) Fs (putM Lk (.string []) (.int .i64 ((k : Int) + 1))) R) := by
    have h9 := hX5'.out.drew
    rw [nodesL_put] at h9
    exact h9
  have hlf := hX6.gm_look 3 rfl (Maps.int_keyed Tryz.underlying3) Tryz.underlying106 (zero_pfile _) (keyOf_id f.id (by omega))
  rw [getM_mem (hX6.gm_keys 3 rfl) (v := .pointer (some ⟨f.ptr, 0, none⟩)) (List.mem_map.2 ⟨f, List.mem_of_getElem? hf, rfl⟩), Option.getD_some] at hlf
  have hE5 : w5.drew.cell? ⟨W, 1, none⟩ = some (.map (some bf)) ∧ w5.drew.cell? ⟨w.heap.size, 0, none⟩ = some (.int .i64 f.id) ∧ w5.drew.cell? ⟨f.ptr, 1, none⟩ = some (.int .i64 f.names) ∧ (Instr.lookup 106 (.map (some bf)) (.int .i64 f.id) false).run Tryz.prog w5.drew = .ok (.pointer (some ⟨f.ptr, 0, none⟩)) w5.drew :=
    ⟨by rw [hX6.box_cell 1 rfl 1]; rfl, by rw [hX6.box_cell 0 rfl 0]; rfl, by rw [hX6.box_cell (j + 5) hfi 1]; rfl, hlf⟩
  have hfz := hX6.box_frozen (j + 5) hfi 1
  have hX6' := Lib.hid hX6
  have hfi' := Lib.hid hfi
  clear hX6 hX5' hlf hfi
  go_wp2_with fail
  refine wp_region_E (S := fun w' => w'.cell? ⟨W, 1, none⟩ = some (.map (some bf)) ∧ w'.cell? ⟨w.heap.size, 0, none⟩ = some (.int .i64 f.id) ∧ w'.cell? ⟨f.ptr, 1, none⟩ = some (.int .i64 f.names) ∧ (Instr.lookup 106 (.map (some bf)) (.int .i64 f.id) false).run Tryz.prog w' = .ok (.pointer (some ⟨f.ptr, 0, none⟩)) w') 13 (by kernel_rfl) ?_
  simp only [List.size_toArray, List.length_cons, List.length_nil, Nat.reduceAdd]
  refine wpE_take (i := 0) (v := ?_) rfl (by kernel_rfl) (by kernel_rfl) (by kernel_rfl) (by kernel_rfl) (fun _ _ _ h => h) (Or.inl ⟨by rfl, ?_⟩) hE5 ?_
  rotate_left
  · intro w hw; obtain ⟨e1, e2, e3, e4⟩ := hw; go_simp
    try with_reducible rfl
  simp only [Act.put]
  try simp only [List.setIfInBounds_toArray]
  refine wpE_take (i := 1) (v := ?_) rfl (by kernel_rfl) (by kernel_rfl) (by kernel_rfl) (by kernel_rfl) (fun _ _ _ h => h) (Or.inl ⟨by rfl, ?_⟩) hE5 ?_
  rotate_left
  · intro w hw; obtain ⟨e1, e2, e3, e4⟩ := hw; go_simp
    try with_reducible rfl
  simp only [Act.put]
  try simp only [List.setIfInBounds_toArray]
  refine wpE_take (i := 2) (v := ?_) rfl (by kernel_rfl) (by kernel_rfl) (by kernel_rfl) (by kernel_rfl) (fun _ _ _ h => h) (Or.inl ⟨by rfl, ?_⟩) hE5 ?_
  rotate_left
  · intro w hw; obtain ⟨e1, e2, e3, e4⟩ := hw; go_simp
    try with_reducible rfl
  simp only [Act.put]
  try simp only [List.setIfInBounds_toArray]
  refine wpE_take (i := 3) (v := ?_) rfl (by kernel_rfl) (by kernel_rfl) (by kernel_rfl) (by kernel_rfl) (fun _ _ _ h => h) (Or.inl ⟨by rfl, ?_⟩) hE5 ?_
  rotate_left
  · intro w hw; obtain ⟨e1, e2, e3, e4⟩ := hw; go_simp
    try with_reducible rfl
  simp only [Act.put]
  try simp only [List.setIfInBounds_toArray]
  refine wpE_take (i := 4) (v := ?_) rfl (by kernel_rfl) (by kernel_rfl) (by kernel_rfl) (by kernel_rfl) (fun _ _ _ h => h) (Or.inl ⟨by rfl, ?_⟩) hE5 ?_
  rotate_left
  · intro w hw; obtain ⟨e1, e2, e3, e4⟩ := hw; go_simp
    try with_reducible rfl
  simp only [Act.put]
  try simp only [List.setIfInBounds_toArray]
  refine wpE_take (i := 5) (v := ?_) rfl (by kernel_rfl) (by kernel_rfl) (by kernel_rfl) (by kernel_rfl) (fun _ _ _ h => h) (Or.inl ⟨by rfl, ?_⟩) hE5 ?_
  rotate_left
  · intro w hw; obtain ⟨e1, e2, e3, e4⟩ := hw; go_simp
    try with_reducible rfl
  simp only [Act.put]
  try simp only [List.setIfInBounds_toArray]
  obtain ⟨x1, x2, x3, x4⟩ := id hE5
  refine wpE_one (i := 6) (by kernel_rfl) rfl (fun K hK => ?_)
  go_simp
  refine hK _ _ (fun _ => hE5) ?_
  clear hK K
  try simp only [Act.put]
  try simp only [List.setIfInBounds_toArray]
  refine wpE_take (i := 7) (v := ?_) rfl (by kernel_rfl) (by kernel_rfl) (by kernel_rfl) (by kernel_rfl) (fun _ _ _ h => h) (Or.inl ⟨by rfl, ?_⟩) hE5 ?_
  rotate_left
  · intro w hw; obtain ⟨e1, e2, e3, e4⟩ := hw; go_simp
    try with_reducible rfl
  simp only [Act.put]
  try simp only [List.setIfInBounds_toArray]
  refine wpE_take (i := 8) (v := ?_) rfl (by kernel_rfl) (by kernel_rfl) (by kernel_rfl) (by kernel_rfl) (fun _ _ _ h => h) (Or.inl ⟨by rfl, ?_⟩) hE5 ?_
  rotate_left
  · intro w hw; obtain ⟨e1, e2, e3, e4⟩ := hw; go_simp
    try with_reducible rfl
  simp only [Act.put]
  try simp only [List.setIfInBounds_toArray]
  refine wpE_take (i := 9) (v := ?_) rfl (by kernel_rfl) (by kernel_rfl) (by kernel_rfl) (by kernel_rfl) (fun _ _ _ h => h) (Or.inl ⟨by rfl, ?_⟩) hE5 ?_
  rotate_left
  · intro w hw; obtain ⟨e1, e2, e3, e4⟩ := hw; go_simp
    try with_reducible rfl
  simp only [Act.put]
  try simp only [List.setIfInBounds_toArray]
  refine wpE_take (i := 10) (v := ?_) rfl (by kernel_rfl) (by kernel_rfl) (by kernel_rfl) (by kernel_rfl) (fun _ _ _ h => h) (Or.inl ⟨by rfl, ?_⟩) hE5 ?_
  rotate_left
  · intro w hw; obtain ⟨e1, e2, e3, e4⟩ := hw; go_simp
    try with_reducible rfl
  simp only [Act.put]
  try simp only [List.setIfInBounds_toArray]
  refine wpE_one (i := 11) (by kernel_rfl) rfl (fun K hK => ?_)
  go_simp
  refine hK _ _ (fun _ => hE5) ?_
  clear hK K
  try simp only [Act.put]
  try simp only [List.setIfInBounds_toArray]
  refine wpE_one (i := 12) (by kernel_rfl) rfl (fun K hK => ?_)
  go_simp
  refine hK _ _ (fun _ => hE5) ?_
  clear hK K
  try simp only [Act.put]
  try simp only [List.setIfInBounds_toArray]
  refine wpE_one (i := 13) (by kernel_rfl) rfl (fun K hK => ?_)
  go_simp
  refine hK _ _ (fun h => absurd rfl h) ?_
  clear hK K
  try simp only [Act.put]
  try simp only [List.setIfInBounds_toArray]
  refine wpE_done (by kernel_rfl) ?_ _
  go_wp2_with fail
  go_end0
  refine ⟨rfl, ?_⟩
  have h1 := Sep.drop 1 (hX6'.out.box_stored (j + 5) hfi'.out 1 (.int .i64 (f.names + 1)))
  have hj := (List.getElem?_eq_some_iff.1 hf).1
  have e1 : (Fs.set j { f with names := f.names + 1 }).map fileBox = (Fs.map fileBox).set j (.box f.ptr 113 #[.int .i64 f.mode, .int .i64 (f.names + 1), f.dv]) := by rw [List.map_set]; rfl
  have e2 : filesL (Fs.set j { f with names := f.names + 1 }) = filesL Fs := by
    unfold filesL
    rw [List.map_set]
    exact List.set_getElem_self' (by rw [List.getElem?_map, hf]; rfl)
  unfold wAs
  rw [e2, e1, ← List.set_append_left _ _ (by simpa using hj)]
  exact h1
end Go.Proofs.YtahkpkaodeeemaaGreat
