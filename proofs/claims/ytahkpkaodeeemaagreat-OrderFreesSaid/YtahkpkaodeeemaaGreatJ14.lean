/- Components3, App, laid together. -/
import Derived.Test.YtahkpkaodeeemaaGreatJ13
import Derived.Test.YtahkpkaodeeemaaGreatJ3
namespace Go.Proofs.YtahkpkaodeeemaaGreat
open Go.RowKit
set_option linter.unusedVariables false

theorem zip_perm {α β γ : Type} {f : α → β → γ} {n : Nat} {T : List Nat} (hp : T.Perm (List.range n)) {vs : List α} {xs : List β} (g : Nat → α) (h : Nat → β) (hv : vs = (List.range n).map g) (hx : xs = (List.range n).map h) :
    (List.zipWith f vs xs).Perm (List.zipWith f (T.map g) (T.map h)) := by
  have key : ∀ l : List Nat, List.zipWith f (l.map g) (l.map h) = l.map fun c => f (g c) (h c) := by
    intro l
    induction l with
    | nil => rfl
    | cons a l ih => simp [ih]
  rw [hv, hx, key, key]
  exact (hp.map _).symm
theorem list_range (vs : List Value) (d : Value) : vs = (List.range vs.length).map fun c => vs.getD c d := by
  apply List.ext_getElem?
  intro i
  by_cases hi : i < vs.length
  · simp [hi, List.getD]
  · simp [hi]

/-- The told components are the rows of the answer. -/
theorem SG.result {w0 w : World} {xss : List (List Int)} {of : Nat → Int} {count : Nat} {T : List Nat} {wf : Nat → Int} {gw gt gu gl : Nat} {ov : Value} {us vs : List Value}
    (h : SG w0 w xss of count T wf gw gt gu gl ov us vs) (hul : us.length = count) (hvl : vs.length = count) (hp : T.Perm (List.range count)) :
    Sep w0 w [rowsR ov (T.map fun c => (cls xss.length of c).map fun (v : Nat) => (v : Int))] := by
  have h1 := Sep.drop 4 h
  simp only [List.drop_succ_cons, List.drop_zero] at h1
  have h2 := h1.perm (List.perm_middle.symm)
  have h3 := Sep.drop (List.zipWith intsR us (usersTo xss of count count (fun _ => false))).length h2
  rw [List.drop_left] at h3
  have hz := zip_perm (f := intsR) hp (vs := vs) (xs := rowsTo count xss.length of) (fun c => vs.getD c (.slice none 0 0)) (fun c => (cls xss.length of c).map fun (v : Nat) => (v : Int)) (by rw [← hvl]; exact list_range _ _) rfl
  have h4 := h3.perm (List.Perm.cons _ hz)
  refine Sep.list_shut (vs := T.map fun c => vs.getD c (.slice none 0 0)) (by simp) ?_
  rw [List.length_map, List.append_nil]
  exact h4

set_option maxRecDepth 100000 in
theorem comps_refused {xss : List (List Int)} {w : World} {nv : Value} (hx : refused xss ≠ 0) (hn : RowsAt w nv xss) :
    Calls Tryz.prog 26 #[nv] w fun e w' => e = .returned (.tuple #[.slice none 0 0, .int .i64 (refused xss)]) ∧ w' = w := by
  obtain ⟨A, c, rfl, _⟩ := hn.shape
  have b1 : (refused xss != 0) = true := by simpa using hx
  have hck := check_any w _ xss hn
  have hn' := Lib.hid hn
  clear hn
  go_enter Tryz.func26, Tryz.ntmps26
  go_wp2_with (go_at_call 45; refine hck.mono ?_; rintro e w' ⟨rfl, rfl⟩)
  go_ret2
  exact ⟨rfl, rfl⟩

set_option maxRecDepth 100000 in
set_option maxHeartbeats 2000000 in
theorem comps_told {xss : List (List Int)} {w : World} {nv : Value} (hx : refused xss = 0) (hn : RowsAt w nv xss) :
    Calls Tryz.prog 26 #[nv] w fun e w' => ∃ v rep T, e = .returned (.tuple #[v, .int .i64 0]) ∧ IsRep xss rep ∧ Told xss rep T ∧ Sep w w' [rowsR v (T.map fun i => (mem xss.length rep i).map fun (v : Nat) => (v : Int))] := by
  have hx0 := hx
  obtain ⟨hl, hrow, hgood⟩ := refused_zero hx
  obtain ⟨i0, hi, hz0, hz1, hz2⟩ := info_parts info_int
  obtain ⟨i1, hi1, hz10, hz11, hz12⟩ := info_parts info_ints
  obtain ⟨i2, hi2, hz20, hz21, hz22⟩ := info_parts info_bool
  obtain ⟨A, c, rfl, hmax⟩ := hn.shape
  clear hmax
  have hck := check_any w _ xss hn
  rw [hx] at hck
  have hpt := parted_any hx hn
  have hck' := Lib.hid hck
  have hpt' := Lib.hid hpt
  have hn' := Lib.hid hn
  have hx' := Lib.hid hx
  clear hn hx hck hpt hrow hgood hx0
  go_enter Tryz.func26, Tryz.ntmps26
  go_wp2_with (first | (go_at_call 45; refine hck'.out.mono ?_; rintro e w' ⟨rfl, rfl⟩) | (go_at_call 46; refine hpt'.out.mono ?_; rintro e w1 ⟨go, of, count, rfl, hS1, hg⟩; (have hcl := hg.le); (have hS1' := Lib.hid hS1); (have hg' := Lib.hid hg); clear hS1 hg; have hmk1 := fun W : World => run_make_n (P := Tryz.prog) 24 27 i1 (.slice none 0 0) 24 Tryz.underlying24 hi1 hz10 hz11 hz12 rfl .i64 .i64 count (by omega) (by unfold maxLen; omega) W))
  have hS2 := hS1'.out.made 27 (.slice none 0 0) count (by unfold maxLen; omega)
  have hS3 := hS2.nils count
  rename_i K hK
  have hSC : SC w (w1.alloc (.cells (madeCells #[.slice none 0 0] count) 27)) xss.length count 0 of go w1.heap.size :=
    ⟨List.replicate count (.slice none 0 0), by simp, by rw [rowsTo_zero]; exact hS3.sel [1, 0] (by decide) (by simp)⟩
  refine comps_rows hl hcl (fun v hv => ⟨hg'.out.lo v hv, hg'.out.hi v⟩) ⟨rfl, rfl, rfl, rfl, rfl, rfl, trivial⟩ hSC ?_
  intro ac2 w2 h1 h2 h3 hS4
  have hF : Fm 189 ac2 [.slice A xss.length c, undef, .slice none 0 0, .int .i64 0, .int .i64 0, .slice (some ⟨go, 0, none⟩) xss.length xss.length, .int .i64 count, .slice (some ⟨w1.heap.size, 0, none⟩) count count] := ⟨h3, h2, h1⟩
  generalize w1.heap.size = gl at hF hS4
  obtain ⟨f, rfl⟩ := Fm.lit (m := 181) hF rfl
  clear h1 h2 h3 hF hSC hS3 hS2 hpt' hck'
  show K _ w2
  apply hK
  clear hK
  simp only [lits, Nat.reduceAdd, List.cons_append, List.nil_append]
  obtain ⟨vs, hvl, hS4⟩ := hS4
  have hmk0 := fun W : World => run_make_n (P := Tryz.prog) 27 3 i0 (.int .i64 0) 8 Tryz.underlying27 hi hz0 hz1 hz2 rfl .i64 .i64 count (by omega) (by unfold maxLen; omega) W
  have hS5 := ((((hS4.made 3 (.int .i64 0) count (by unfold maxLen; omega)).made 27 (.slice none 0 0) count (by unfold maxLen; omega)).imap_new).nils count)
  simp only [World.size_alloc, Nat.add_assoc, Nat.reduceAdd] at hS5
  have hS5' := Lib.hid hS5
  clear hS5 hS4
  have hmm := @run_makeMap Tryz.prog
  go_wp2_with fail
  generalize hgw : w2.heap.size = gw at hS5' ⊢
  have hSD : SD w (((w2.alloc (.cells (madeCells #[.int .i64 0] count) 3)).alloc (.cells (madeCells #[.slice none 0 0] count) 27)).alloc (.map #[] 0)) xss of count 0 (fun _ => false) 0 (gw + 2) gw (gw + 1) gl go (fun _ => 0) vs := by
    refine ⟨List.replicate count (.slice none 0 0), by simp, ?_⟩
    rw [waitTo_zero, usersTo_zero, ← zeros_arr]
    have h1 := hS5'.out.perm (List.Perm.append_left [_, _, _, _, _] List.perm_append_comm)
    exact h1.sel [0, 2, 3, 1, 4] (by decide) (by simp)
  clear hS5'
  have hSD' := Lib.hid hSD
  clear hSD
  rename_i K hK
  refine comps_waits hx'.out hg'.out hn'.out hvl 0 (fun _ => 0) ⟨rfl, rfl, rfl, rfl, rfl, rfl, rfl, rfl, rfl, rfl, trivial⟩ hSD'.out ?_
  intro ac3 w3 m F h1 h2 h3 hS6
  have hF : Fm 189 ac3 [.slice A xss.length c, undef, .slice none 0 0, .int .i64 0, .int .i64 0, .slice (some ⟨go, 0, none⟩) xss.length xss.length, .int .i64 count, .slice (some ⟨gl, 0, none⟩) count count, f 0, f 1, .slice (some ⟨gw, 0, none⟩) count count, .slice (some ⟨gw + 1, 0, none⟩) count count, .map (some (gw + 2))] := ⟨h3, h2, h1⟩
  obtain ⟨f', rfl⟩ := Fm.lit (m := 176) hF rfl
  clear h1 h2 h3 hF hSD' hgw hmm hmk0 hmk1
  show K _ w3
  apply hK
  clear hK
  simp only [lits, Nat.reduceAdd, List.cons_append, List.nil_append]
  obtain ⟨us, hul, hS6⟩ := hS6
  have hmk2 := fun W : World => run_make_n (P := Tryz.prog) 96 4 i2 (.bool false) 1 Tryz.underlying96 hi2 hz20 hz21 hz22 rfl .i64 .i64 count (by omega) (by unfold maxLen; omega) W
  have hS7 := (hS6.made 4 (.bool false) count (by unfold maxLen; omega)).sl_nil 27 1
  have hS8 : SG w (w3.alloc (.cells (madeCells #[.bool false] count) 4)) xss of count [] (fun x => (waitOf xss of count [] x : Int)) gw w3.heap.size (gw + 1) gl (.slice none 0 0) us vs := by
    unfold SG
    rw [← arr_congr fun v hv => waitOf_nil (xss := xss) (of := of) v hv]
    have e : (List.range count).map (fun c => Value.bool (([] : List Nat).contains c)) = List.replicate count (.bool false) := by
      apply List.ext_getElem?
      intro i
      by_cases hi : i < count <;> simp [hi]
    rw [e]
    exact Sep.drop 2 (hS7.sel [2, 4, 3, 1, 5, 6, 0] (by decide) (by simp))
  have hS8' := Lib.hid hS8
  clear hS6 hS7 hS8
  go_wp2_with fail
  rename_i K hK
  refine comps_tell hx'.out hg'.out hul hvl ⟨rfl, rfl, rfl, rfl, rfl, rfl, rfl, rfl, rfl, trivial⟩ hS8'.out ?_
  intro ac4 w4 ov T hT hTl hF hS9
  obtain ⟨f4, rfl, h20, -⟩ := hF.lit
  simp only at h20
  show K _ w4
  apply hK
  clear hK hF
  simp only [lits, Nat.reduceAdd, h20]
  have hR := hS9.result hul hvl (hT.perm hTl)
  rw [hT.rows hg'.out] at hR
  have hR' := Lib.hid hR
  clear hR hS9 hS8' hmk2
  go_wp2_with fail
  go_ret2
  exact ⟨ov, repOf xss of, T.map (fst' xss.length of), rfl, hg'.out.isRep hx'.out, hT.told hg'.out hTl, hR'.out⟩
end Go.Proofs.YtahkpkaodeeemaaGreat

namespace Go.Proofs.YtahkpkaodeeemaaGreat
open Go.RowKit
set_option linter.unusedVariables false

theorem Sep.grownAny {w0 w w' : World} {As : List Asn} {e : TypeId} {sz n m : Nat} {v v' : Value} {cs cs' : List Value} (i : Nat) (h : Sep w0 w As) (hi : As[i]? = some (.sl e sz v n cs))
    (hown : w'.ownsRow 0 e sz v' m cs') (hgrow : w.grownBy w' v.ownBlock) (hat : v'.ownBlock = v.ownBlock ∨ v'.ownBlock = some w.heap.size) :
    Sep w0 w' (As.set i (.sl e sz v' m cs')) := by
  refine h.step i hi fun F ⟨ho, hF⟩ _ => ⟨v'.ownBlock.toList, ⟨hown, rfl⟩, fun b hb => ?_, ?_⟩
  · rcases hat with hat | hat
    · left; rw [hF, ← hat]; exact hb
    · right
      rw [hat] at hb
      simp at hb
      omega
  · rw [hF]
    exact Keeps.of_grown hgrow

theorem run_append_sep {P : Program} {w0 w : World} {As : List Asn} (k : Nat) (t ty e : TypeId) (i : TypeInfo) (z : Value) (size bytes : Nat) (ht : P.underlying t = some (.slice e)) (hi : P.info? e = some i) (hz : i.zero = some z)
    (hsize : i.size = size) (hby : i.bytes = bytes) (hzs : z.cells.size = size) (hsz : 0 < size)
    (hS : Sep w0 w As) (v : Value) (n : Nat) (cs : List Value) (hk : As[k]? = some (.sl e size v n cs))
    (xv : Value) (m : Nat) (news : List Value) (hr : Rd w size xv m news) (h1 : ∀ u ∈ news, u.oneCell' = true) (h63 : n + m ≤ maxLen) (hbytes : (n + m) * bytes ≤ 140737488355328) :
    ∃ v' w', (Builtin.append_ #[t, t] ty #[v, xv]).run P w = .ok v' w' ∧ Sep w0 w' (As.set k (.sl e size v' (n + m) (cs ++ news))) ∧ w.heap.size ≤ w'.heap.size := by
  obtain ⟨F, ⟨hown, hF⟩, _⟩ := hS.get k hk
  obtain ⟨hl, A, c, rfl, h2, h3, h4⟩ := hr
  rcases A with _ | ad
  · have hm : m = 0 := by
      rcases Nat.eq_zero_or_pos m with h0 | h0
      · exact h0
      · obtain ⟨ad, h, _⟩ := h4 h0
        cases h
    subst hm
    have hn : news = [] := List.eq_nil_of_length_eq_zero (by simpa using hl)
    subst hn
    have hrun : (Builtin.append_ #[t, t] ty #[v, .slice none 0 c]).run P w = .ok v w := by
      rcases hown.2 with ⟨rfl, rfl⟩ | ⟨g, cap, cur, rfl, _, _, hnc, _⟩
      · simp [Builtin.append_, run_underlying ht, sizeOf, typeInfo, hi, Builtin.lenOf, Builtin.firstCells]
      · simp [Builtin.append_, run_underlying ht, sizeOf, typeInfo, hi, Builtin.lenOf, Builtin.firstCells, hnc, storeCells]
    refine ⟨v, w, hrun, ?_, Nat.le_refl _⟩
    rw [Nat.add_zero, List.append_nil]
    obtain ⟨hlt, e'⟩ := List.getElem?_eq_some_iff.1 hk
    rw [← e', List.set_getElem_self]
    exact hS
  · have hcells : ∀ j u, news[j]? = some u → w.cell? (ad.add j) = some u := by
      intro j u hu
      rcases Nat.eq_zero_or_pos m with h0 | h0
      · subst h0
        have hn : news = [] := List.eq_nil_of_length_eq_zero (by simpa using hl)
        subst hn
        simp at hu
      · obtain ⟨ad', h, _, hc⟩ := h4 h0
        injection h with h
        subst h
        exact hc j u hu
    obtain ⟨v', w', hrun, h5, h6, _, h7⟩ := run_append_own_at (P := P) w 0 t ty e i z size bytes ht hi hz hsize hby hzs hsz v n cs hown ad m c news hl hcells h1 h63 hbytes (Nat.zero_le _)
    exact ⟨v', w', hrun, hS.grownAny k hk h5 h6 h7, h6.size⟩

section
variable {P : Program} {w0 w : World} {As : List Asn} {ops : Array Oper} {rest : List Oper} {o : Oper} {a : Act} {Q : Exit → Act → World → Prop}
theorem wp_append_any_sep {K : Act → World → Prop} (k : Nat) (s x : Operand) (t : TypeId)
    (ho : o.op = .call { callee := .builtin .append, args := #[s, x], argTypes := #[t, t] })
    (e : TypeId) (i : TypeInfo) (z : Value) (size bytes : Nat) (ht : P.underlying t = some (.slice e)) (hi : P.info? e = some i) (hz : i.zero = some z)
    (hsize : i.size = size) (hby : i.bytes = bytes) (hzs : z.cells.size = size) (hsz : 0 < size)
    (hS : Sep w0 w As) (v : Value) (n : Nat) (cs : List Value) (hk : As[k]? = some (.sl e size v n cs)) (hs : a.eval s = v)
    (xv : Value) (m : Nat) (news : List Value) (hx : a.eval x = xv) (hr : Rd w size xv m news) (h1 : ∀ u ∈ news, u.oneCell' = true)
    (h63 : n + m ≤ maxLen) (hbytes : (n + m) * bytes ≤ 140737488355328)
    (h : ∀ v' w', Sep w0 w' (As.set k (.sl e size v' (n + m) (cs ++ news))) → w.heap.size ≤ w'.heap.size → K (a.put o.dst v') w') :
    o.wp P a w K Q := by
  obtain ⟨v', w', hrun, h2, h3⟩ := run_append_sep (P := P) k t o.type e i z size bytes ht hi hz hsize hby hzs hsz hS v n cs hk xv m news hr h1 h63 hbytes
  unfold Oper.wp execOp
  simp only [ho, resolve, invoke, builtin, Sem.run_bind, Sem.run_pure, Result.andThen_ok, List.map_toArray, List.map_cons, List.map_nil, hs, hx, hrun]
  exact h v' w' h2 h3
theorem wpList_append_any_sep (k : Nat) (hgd : o.guard = none) (s x : Operand) (t : TypeId)
    (ho : o.op = .call { callee := .builtin .append, args := #[s, x], argTypes := #[t, t] })
    (e : TypeId) (i : TypeInfo) (z : Value) (size bytes : Nat) (ht : P.underlying t = some (.slice e)) (hi : P.info? e = some i) (hz : i.zero = some z)
    (hsize : i.size = size) (hby : i.bytes = bytes) (hzs : z.cells.size = size) (hsz : 0 < size)
    (hS : Sep w0 w As) (v : Value) (n : Nat) (cs : List Value) (hk : As[k]? = some (.sl e size v n cs)) (hs : a.eval s = v)
    (xv : Value) (m : Nat) (news : List Value) (hx : a.eval x = xv) (hr : Rd w size xv m news) (h1 : ∀ u ∈ news, u.oneCell' = true)
    (h63 : n + m ≤ maxLen) (hbytes : (n + m) * bytes ≤ 140737488355328)
    (h : ∀ v' w', Sep w0 w' (As.set k (.sl e size v' (n + m) (cs ++ news))) → w.heap.size ≤ w'.heap.size → wpList P ops Q rest (a.put o.dst v') w') :
    wpList P ops Q (o :: rest) a w :=
  wpList_plain hgd fun _ hK => wp_append_any_sep k s x t ho e i z size bytes ht hi hz hsize hby hzs hsz hS v n cs hk hs xv m news hx hr h1 h63 hbytes fun v' w' h2 h3 => hK _ _ (h v' w' h2 h3)
theorem step_append_any_sep {K : Act → World → Prop} {E : Prop} (k : Nat) (hgd : o.guard = none) (s x : Operand) (t : TypeId)
    (ho : o.op = .call { callee := .builtin .append, args := #[s, x], argTypes := #[t, t] })
    (e : TypeId) (i : TypeInfo) (z : Value) (size bytes : Nat) (ht : P.underlying t = some (.slice e)) (hi : P.info? e = some i) (hz : i.zero = some z)
    (hsize : i.size = size) (hby : i.bytes = bytes) (hzs : z.cells.size = size) (hsz : 0 < size)
    (hS : Sep w0 w As) (v : Value) (n : Nat) (cs : List Value) (hk : As[k]? = some (.sl e size v n cs)) (hs : a.eval s = v)
    (xv : Value) (m : Nat) (news : List Value) (hx : a.eval x = xv) (hr : Rd w size xv m news) (h1 : ∀ u ∈ news, u.oneCell' = true)
    (h63 : n + m ≤ maxLen) (hbytes : (n + m) * bytes ≤ 140737488355328)
    (h : ∀ v' w', Sep w0 w' (As.set k (.sl e size v' (n + m) (cs ++ news))) → w.heap.size ≤ w'.heap.size → K (a.put o.dst v') w') :
    if Region.wanted o (yielded ops a.tmps) = true then Oper.wp P o a w K Q else E := by
  have hw : Region.wanted o (yielded ops a.tmps) = true := by simp [Region.wanted, hgd]
  rw [if_pos hw]
  exact wp_append_any_sep k s x t ho e i z size bytes ht hi hz hsize hby hzs hsz hS v n cs hk hs xv m news hx hr h1 h63 hbytes h
end
end Go.Proofs.YtahkpkaodeeemaaGreat
