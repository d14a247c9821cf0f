/- append of a slice that reads as a list, nil, empty or not, onto a part of the state. -/
import Derived.Test.YtahkpkaodeeemaaGreatLaws
namespace Go.Proofs.YtahkpkaodeeemaaGreat
open Go.RowKit
set_option linter.unusedVariables false

theorem Sep.grownAny {w0 w w' : World} {As : List Asn} {e : TypeId} {sz n m : Nat} {v v' : Value} {cs cs' : List Value} (i : Nat) (h : Sep w0 w As) (hi : As[i]? = some (.sl e sz v n cs))
    (hown : w'.ownsRow 0 e sz v' m cs') (hgrow : w.grownBy w' v.ownBlock) (hat : v'.ownBlock = v.ownBlock ∨ v'.ownBlock = some w.heap.size) :
    Sep w0 w' (As.set i (.sl e sz v' m cs')) := by
  refine h.step i hi fun F ⟨ho, hF⟩ _ => ⟨v'.ownBlock.toList, ⟨hown, rfl⟩, fun b hb => ?_, ?_⟩
  · rcases hat with hat | hat
    · left; rw [hF, ← hat]; exact hb
    · right
      rw [hat] at hb
      simp at hb
      omega
  · rw [hF]
    exact Keeps.of_grown hgrow

theorem run_append_sep {P : Program} {w0 w : World} {As : List Asn} (k : Nat) (t ty e : TypeId) (i : TypeInfo) (z : Value) (size bytes : Nat) (ht : P.underlying t = some (.slice e)) (hi : P.info? e = some i) (hz : i.zero = some z)
    (hsize : i.size = size) (hby : i.bytes = bytes) (hzs : z.cells.size = size) (hsz : 0 < size)
    (hS : Sep w0 w As) (v : Value) (n : Nat) (cs : List Value) (hk : As[k]? = some (.sl e size v n cs))
    (xv : Value) (m : Nat) (news : List Value) (hr : Rd w size xv m news) (h1 : ∀ u ∈ news, u.oneCell' = true) (h63 : n + m ≤ maxLen) (hbytes : (n + m) * bytes ≤ 140737488355328) :
    ∃ v' w', (Builtin.append_ #[t, t] ty #[v, xv]).run P w = .ok v' w' ∧ Sep w0 w' (As.set k (.sl e size v' (n + m) (cs ++ news))) ∧ w.heap.size ≤ w'.heap.size := by
  obtain ⟨F, ⟨hown, hF⟩, _⟩ := hS.get k hk
  obtain ⟨hl, A, c, rfl, h2, h3, h4⟩ := hr
  rcases A with _ | ad
  · have hm : m = 0 := by
      rcases Nat.eq_zero_or_pos m with h0 | h0
      · exact h0
      · obtain ⟨ad, h, _⟩ := h4 h0
        cases h
    subst hm
    have hn : news = [] := List.eq_nil_of_length_eq_zero (by simpa using hl)
    subst hn
    have hrun : (Builtin.append_ #[t, t] ty #[v, .slice none 0 c]).run P w = .ok v w := by
      rcases hown.2 with ⟨rfl, rfl⟩ | ⟨g, cap, cur, rfl, _, _, hnc, _⟩
      · simp [Builtin.append_, run_underlying ht, sizeOf, typeInfo, hi, Builtin.lenOf, Builtin.firstCells]
      · simp [Builtin.append_, run_underlying ht, sizeOf, typeInfo, hi, Builtin.lenOf, Builtin.firstCells, hnc, storeCells]
    refine ⟨v, w, hrun, ?_, Nat.le_refl _⟩
    rw [Nat.add_zero, List.append_nil]
    obtain ⟨hlt, e'⟩ := List.getElem?_eq_some_iff.1 hk
    rw [← e', List.set_getElem_self]
    exact hS
  · have hcells : ∀ j u, news[j]? = some u → w.cell? (ad.add j) = some u := by
      intro j u hu
      rcases Nat.eq_zero_or_pos m with h0 | h0
      · subst h0
        have hn : news = [] := List.eq_nil_of_length_eq_zero (by simpa using hl)
        subst hn
        simp at hu
      · obtain ⟨ad', h, _, hc⟩ := h4 h0
        injection h with h
        subst h
        exact hc j u hu
    obtain ⟨v', w', hrun, h5, h6, _, h7⟩ := run_append_own_at (P := P) w 0 t ty e i z size bytes ht hi hz hsize hby hzs hsz v n cs hown ad m c news hl hcells h1 h63 hbytes (Nat.zero_le _)
    exact ⟨v', w', hrun, hS.grownAny k hk h5 h6 h7, h6.size⟩

section
variable {P : Program} {w0 w : World} {As : List Asn} {ops : Array Oper} {rest : List Oper} {o : Oper} {a : Act} {Q : Exit → Act → World → Prop}
theorem wp_append_any_sep {K : Act → World → Prop} (k : Nat) (s x : Operand) (t : TypeId)
    (ho : o.op = .call { callee := .builtin .append, args := #[s, x], argTypes := #[t, t] })
    (e : TypeId) (i : TypeInfo) (z : Value) (size bytes : Nat) (ht : P.underlying t = some (.slice e)) (hi : P.info? e = some i) (hz : i.zero = some z)
    (hsize : i.size = size) (hby : i.bytes = bytes) (hzs : z.cells.size = size) (hsz : 0 < size)
    (hS : Sep w0 w As) (v : Value) (n : Nat) (cs : List Value) (hk : As[k]? = some (.sl e size v n cs)) (hs : a.eval s = v)
    (xv : Value) (m : Nat) (news : List Value) (hx : a.eval x = xv) (hr : Rd w size xv m news) (h1 : ∀ u ∈ news, u.oneCell' = true)
    (h63 : n + m ≤ maxLen) (hbytes : (n + m) * bytes ≤ 140737488355328)
    (h : ∀ v' w', Sep w0 w' (As.set k (.sl e size v' (n + m) (cs ++ news))) → w.heap.size ≤ w'.heap.size → K (a.put o.dst v') w') :
    o.wp P a w K Q := by
  obtain ⟨v', w', hrun, h2, h3⟩ := run_append_sep (P := P) k t o.type e i z size bytes ht hi hz hsize hby hzs hsz hS v n cs hk xv m news hr h1 h63 hbytes
  unfold Oper.wp execOp
  simp only [ho, resolve, invoke, builtin, Sem.run_bind, Sem.run_pure, Result.andThen_ok, List.map_toArray, List.map_cons, List.map_nil, hs, hx, hrun]
  exact h v' w' h2 h3
theorem wpList_append_any_sep (k : Nat) (hgd : o.guard = none) (s x : Operand) (t : TypeId)
    (ho : o.op = .call { callee := .builtin .append, args := #[s, x], argTypes := #[t, t] })
    (e : TypeId) (i : TypeInfo) (z : Value) (size bytes : Nat) (ht : P.underlying t = some (.slice e)) (hi : P.info? e = some i) (hz : i.zero = some z)
    (hsize : i.size = size) (hby : i.bytes = bytes) (hzs : z.cells.size = size) (hsz : 0 < size)
    (hS : Sep w0 w As) (v : Value) (n : Nat) (cs : List Value) (hk : As[k]? = some (.sl e size v n cs)) (hs : a.eval s = v)
    (xv : Value) (m : Nat) (news : List Value) (hx : a.eval x = xv) (hr : Rd w size xv m news) (h1 : ∀ u ∈ news, u.oneCell' = true)
    (h63 : n + m ≤ maxLen) (hbytes : (n + m) * bytes ≤ 140737488355328)
    (h : ∀ v' w', Sep w0 w' (As.set k (.sl e size v' (n + m) (cs ++ news))) → w.heap.size ≤ w'.heap.size → wpList P ops Q rest (a.put o.dst v') w') :
    wpList P ops Q (o :: rest) a w :=
  wpList_plain hgd fun _ hK => wp_append_any_sep k s x t ho e i z size bytes ht hi hz hsize hby hzs hsz hS v n cs hk hs xv m news hx hr h1 h63 hbytes fun v' w' h2 h3 => hK _ _ (h v' w' h2 h3)
theorem step_append_any_sep {K : Act → World → Prop} {E : Prop} (k : Nat) (hgd : o.guard = none) (s x : Operand) (t : TypeId)
    (ho : o.op = .call { callee := .builtin .append, args := #[s, x], argTypes := #[t, t] })
    (e : TypeId) (i : TypeInfo) (z : Value) (size bytes : Nat) (ht : P.underlying t = some (.slice e)) (hi : P.info? e = some i) (hz : i.zero = some z)
    (hsize : i.size = size) (hby : i.bytes = bytes) (hzs : z.cells.size = size) (hsz : 0 < size)
    (hS : Sep w0 w As) (v : Value) (n : Nat) (cs : List Value) (hk : As[k]? = some (.sl e size v n cs)) (hs : a.eval s = v)
    (xv : Value) (m : Nat) (news : List Value) (hx : a.eval x = xv) (hr : Rd w size xv m news) (h1 : ∀ u ∈ news, u.oneCell' = true)
    (h63 : n + m ≤ maxLen) (hbytes : (n + m) * bytes ≤ 140737488355328)
    (h : ∀ v' w', Sep w0 w' (As.set k (.sl e size v' (n + m) (cs ++ news))) → w.heap.size ≤ w'.heap.size → K (a.put o.dst v') w') :
    if Region.wanted o (yielded ops a.tmps) = true then Oper.wp P o a w K Q else E := by
  have hw : Region.wanted o (yielded ops a.tmps) = true := by simp [Region.wanted, hgd]
  rw [if_pos hw]
  exact wp_append_any_sep k s x t ho e i z size bytes ht hi hz hsize hby hzs hsz hS v n cs hk hs xv m news hx hr h1 h63 hbytes h
end
end Go.Proofs.YtahkpkaodeeemaaGreat
