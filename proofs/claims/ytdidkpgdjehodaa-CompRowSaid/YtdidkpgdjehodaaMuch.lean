/- Much and alive, walked. -/
import Derived.Test.YtdidkpgdjehodaaComponents3
namespace Go.Proofs.Ytdidkpgdjehodaa
open Go.RowKit
set_option linter.unusedVariables false

def muchN : Int → List (List Int) → Int
  | n, [] => n
  | n, r :: l => if n ≤ 3000 then muchN (wrap64 (wrap64 (n + 1) + (r.length : Int))) l else n
def muchB (xss : List (List Int)) : Bool := decide (3000 < muchN 0 xss) || decide (80 < xss.length)

theorem much_any {xss : List (List Int)} {w : World} {nv : Value} (hn : RowsAt w nv xss) :
    Calls Try.prog 9 #[nv] w fun e w' => e = .returned (.bool (muchB xss)) ∧ w = w' := by
  obtain ⟨A, c, rfl, hm⟩ := hn.shape
  unfold maxLen at hm
  have hm' : (xss.length : Int) ≤ 9223372036854775807 := by omega
  go_enter Try.func9, Try.ntmps9
  go_wp2_with fail
  go_loop [3, 4] (fun n i => ∃ (x : Int) (k : Nat), k ≤ xss.length ∧ n = .int .i64 x ∧ i = .int .i64 k ∧ Hid (muchN 0 xss = muchN x (xss.drop k))) (fun _ i => xss.length - (intOf i).toNat)
  case atStart => exact ⟨0, 0, Nat.zero_le _, rfl, rfl, rfl⟩
  case round =>
    obtain ⟨x, k, hk, rfl, rfl, hd⟩ := hrel
    by_cases hlt : k < xss.length
    · obtain ⟨ad, c', u, e, h3, h4⟩ := hn.at_ hlt
      cases e
      obtain ⟨A', c'', rfl, hm2⟩ := h4.shape
      unfold maxLen at hm2
      have b1 : (k : Int) < (xss.length : Int) := by omega
      have b2 : (0 : Int) ≤ (k : Int) := by omega
      have hd2 := hd.out
      rw [List.drop_eq_getElem_cons hlt, muchN] at hd2
      by_cases h3 : x ≤ 3000
      · rw [if_pos h3] at hd2
        have hd' := Lib.hid hd2
        clear hd hd2
        go_wp2_with fail
        all_goals exact ⟨⟨_, k + 1, by omega, rfl, by go_num, hd'⟩, by simp [intOf]; omega⟩
      · rw [if_neg h3] at hd2
        have e : Value.bool true = .bool (muchB xss) := by
          unfold muchB
          rw [hd2]
          simp
          omega
        have e' := Lib.hid e
        clear hd hd2 e
        have h3' : 3000 < x := by omega
        go_wp2_with fail
        go_ret
        exact ⟨by rw [← e'.out]; rfl, rfl⟩
    · obtain rfl : k = xss.length := by omega
      have hd2 := hd.out
      rw [List.drop_length, muchN] at hd2
      by_cases h3 : x ≤ 3000
      · have e : Value.bool (decide (3000 < x) || decide (80 < (xss.length : Int))) = .bool (muchB xss) := by
          unfold muchB
          rw [hd2]
          have e1 : decide (80 < (xss.length : Int)) = decide (80 < xss.length) := decide_eq_decide.2 (by omega)
          rw [e1]
        have e' := Lib.hid e
        clear hd hd2 e
        go_wp2_with fail
        go_ret
        rw [← e'.out]
        exact ⟨rfl, rfl⟩
      · have e : Value.bool true = .bool (muchB xss) := by
          unfold muchB
          rw [hd2]
          simp
          omega
        have e' := Lib.hid e
        clear hd hd2 e
        have h3' : 3000 < x := by omega
        go_wp2_with fail
        go_ret
        exact ⟨by rw [← e'.out]; rfl, rfl⟩


/-! alive -/
def aliveX : List (List Int) := [[1], [0], [0]]
def aliveRep (v : Nat) : Nat := if v = 1 then 0 else v
theorem alive_ref : refused aliveX = 0 := by decide
theorem alive_adj : adjOf aliveX 0 = [1] ∧ adjOf aliveX 1 = [0] ∧ adjOf aliveX 2 = [0] := by decide
theorem alive_low {u v : Nat} (h : Tarjan.Reach (adjOf aliveX) u v) : u < 2 → v < 2 := by
  induction h with
  | refl => exact id
  | @step x y z e _ ih =>
    intro hx
    apply ih
    have : x = 0 ∨ x = 1 := by omega
    rcases this with rfl | rfl
    · rw [alive_adj.1] at e; simp at e; omega
    · rw [alive_adj.2.1] at e; simp at e; omega
theorem alive_rep : IsRep aliveX aliveRep := by
  have r01 : Tarjan.Reach (adjOf aliveX) 0 1 := .edge (by rw [alive_adj.1]; simp)
  have r10 : Tarjan.Reach (adjOf aliveX) 1 0 := .edge (by rw [alive_adj.2.1]; simp)
  intro v hv
  have hv' : v < 3 := hv
  have : v = 0 ∨ v = 1 ∨ v = 2 := by omega
  rcases this with rfl | rfl | rfl
  · exact ⟨by decide, Mut.refl 0, fun u _ _ => Nat.zero_le _⟩
  · exact ⟨by decide, ⟨r01, r10⟩, fun u _ _ => Nat.zero_le _⟩
  · refine ⟨by decide, Mut.refl 2, fun u hu hm => ?_⟩
    apply Classical.byContradiction
    intro h
    have := alive_low hm.1 (by have : ¬ 2 ≤ u := h; omega)
    omega
theorem alive_told : Told aliveX aliveRep [0, 2] := by
  have h1 : Pre aliveX aliveRep [0] := by
    refine .snoc (T := []) .nil (by decide) rfl (by simp) ?_ (fun j hj => by omega)
    intro v hv e u hu
    have hv' : v < 3 := hv
    have : v = 0 ∨ v = 1 ∨ v = 2 := by omega
    rcases this with rfl | rfl | rfl
    · rw [alive_adj.1] at hu; simp at hu; subst hu; exact .inl rfl
    · rw [alive_adj.2.1] at hu; simp at hu; subst hu; exact .inl rfl
    · simp [aliveRep] at e
  refine ⟨.snoc (T := [0]) h1 (by decide) rfl (by simp) ?_ ?_, ?_⟩
  · intro v hv e u hu
    have hv' : v < 3 := hv
    have : v = 0 ∨ v = 1 ∨ v = 2 := by omega
    rcases this with rfl | rfl | rfl
    · simp [aliveRep] at e
    · simp [aliveRep] at e
    · rw [alive_adj.2.2] at hu; simp at hu; subst hu; exact .inr (by simp [aliveRep])
  · intro j hj hr hn
    have : j = 0 ∨ j = 1 := by omega
    rcases this with rfl | rfl
    · simp at hn
    · simp [aliveRep] at hr
  · intro i hi e
    have hi' : i < 3 := hi
    have : i = 0 ∨ i = 1 ∨ i = 2 := by omega
    rcases this with rfl | rfl | rfl
    · simp
    · simp [aliveRep] at e
    · simp
theorem alive_rows {rep : Nat → Nat} {T : List Nat} (hr : IsRep aliveX rep) (hT : Told aliveX rep T) : (T.map fun i => (mem aliveX.length rep i).map fun (v : Nat) => (v : Int)) = [[0, 1], [2]] := by
  obtain rfl : T = [0, 2] := Told.uniq alive_ref hr alive_rep hT alive_told
  simp only [List.map_cons, List.map_nil]
  rw [mem_congr hr alive_rep, mem_congr hr alive_rep]
  decide

theorem rd_alloc (w : World) (cs : Array Value) (t : TypeId) (g : Nat) (hg : g = w.heap.size) (hmax : cs.size ≤ maxLen) : Rd (w.alloc (.cells cs t)) 1 (.slice (some ⟨g, 0, none⟩) cs.size cs.size) cs.size cs.toList :=
  ⟨by simp, _, _, rfl, Nat.le_refl _, hmax, fun _ => ⟨_, rfl, by simp [hg], cells_new w cs t g hg⟩⟩
theorem Below.new (w : World) (o : Obj) : Below w.heap.size w (w.alloc o) := (Below.refl _ _).alloc (Nat.le_refl _) o
theorem add_zero' (a : Addr) : a.add 0 = a := by simp [Addr.add]
/-- The cells of rows of one's own. -/
theorem rows_cells {w0 w : World} {v : Value} {xss : List (List Int)} {R : List Asn} (h : Sep w0 w (rowsR v xss :: R)) {k : Nat} (hk : k < xss.length) :
    ∃ g c u, v = .slice (some ⟨g, 0, none⟩) xss.length c ∧ w.cell? ⟨g, k, none⟩ = some u ∧ (∃ A cr, u = .slice A xss[k].length cr) ∧
      (0 < xss[k].length → ∃ gr cr, u = .slice (some ⟨gr, 0, none⟩) xss[k].length cr ∧ ∀ j (hj : j < xss[k].length), w.cell? ⟨gr, j, none⟩ = some (.int .i64 xss[k][j])) := by
  obtain ⟨vs, hl, h1⟩ := Sep.list_open h
  obtain ⟨g, c, rfl, _⟩ := h1.sl_form 0 rfl (by omega)
  have hv : vs[k]? = some (vs[k]'(by omega)) := List.getElem?_eq_getElem _
  have hi : (List.zipWith intsR vs xss ++ R)[k]? = some (intsR (vs[k]'(by omega)) xss[k]) := zip_at hl hk R
  have hri := h1.ints (k + 1) hi
  obtain ⟨A, cr, e, _⟩ := hri.shape
  refine ⟨g, c, _, rfl, by rw [h1.cellAt 0 rfl k (by omega), hv], ⟨A, cr, e⟩, fun hpos => ?_⟩
  obtain ⟨gr, cr', e', _⟩ := h1.sl_form (k + 1) hi hpos
  rw [e'] at hi
  refine ⟨gr, cr', e', fun j hj => ?_⟩
  rw [h1.cellAt (k + 1) hi j (by omega)]
  simp [hj]
theorem alive_reads {w0 w : World} {v : Value} (h : Sep w0 w [rowsR v [[0, 1], [2]]]) : ∃ g c A5 c5 g6 c6, v = .slice (some ⟨g, 0, none⟩) 2 c ∧ w.cell? ⟨g, 0, none⟩ = some (.slice A5 2 c5) ∧ w.cell? ⟨g, 1, none⟩ = some (.slice (some ⟨g6, 0, none⟩) 1 c6) ∧ w.cell? ⟨g6, 0, none⟩ = some (.int .i64 2) := by
  obtain ⟨g, c, u0, rfl, r1, ⟨A5, c5, rfl⟩, _⟩ := rows_cells h (k := 0) (by decide)
  obtain ⟨g', c', u1, e, r3, _, r4⟩ := rows_cells h (k := 1) (by decide)
  cases e
  obtain ⟨g6, c6, rfl, r6⟩ := r4 (by decide)
  exact ⟨g, c, A5, c5, g6, c6, rfl, r1, r3, r6 0 (by decide)⟩
theorem alive_any (w : World) :
    Calls Try.prog 8 #[] w fun e w' => e = .returned (.bool true) ∧ Below w.heap.size w w' := by
  have h1 : RowsAt ((((w.alloc (.cells #[.int .i64 1] 3)).alloc (.cells #[.int .i64 0] 3)).alloc (.cells #[.int .i64 0] 3)).alloc (.cells #[.slice (some ⟨w.heap.size, 0, none⟩) 1 1, .slice (some ⟨w.heap.size + 1, 0, none⟩) 1 1, .slice (some ⟨w.heap.size + 1 + 1, 0, none⟩) 1 1] 29)) (.slice (some ⟨w.heap.size + 1 + 1 + 1, 0, none⟩) 3 3) aliveX := by
    have a1 := rd_alloc w #[.int .i64 1] 3 _ rfl (by decide)
    have b1 := Below.new (w.alloc (.cells #[.int .i64 1] 3)) (.cells #[.int .i64 0] 3)
    have a2 := rd_alloc (w.alloc (.cells #[.int .i64 1] 3)) #[.int .i64 0] 3 (w.heap.size + 1) (by simp) (by decide)
    have b2 := Below.new ((w.alloc (.cells #[.int .i64 1] 3)).alloc (.cells #[.int .i64 0] 3)) (.cells #[.int .i64 0] 3)
    have a3 := rd_alloc ((w.alloc (.cells #[.int .i64 1] 3)).alloc (.cells #[.int .i64 0] 3)) #[.int .i64 0] 3 (w.heap.size + 1 + 1) (by simp) (by decide)
    have b3 := Below.new (((w.alloc (.cells #[.int .i64 1] 3)).alloc (.cells #[.int .i64 0] 3)).alloc (.cells #[.int .i64 0] 3)) (.cells #[.slice (some ⟨w.heap.size, 0, none⟩) 1 1, .slice (some ⟨w.heap.size + 1, 0, none⟩) 1 1, .slice (some ⟨w.heap.size + 1 + 1, 0, none⟩) 1 1] 29)
    have a4 := rd_alloc (((w.alloc (.cells #[.int .i64 1] 3)).alloc (.cells #[.int .i64 0] 3)).alloc (.cells #[.int .i64 0] 3)) #[.slice (some ⟨w.heap.size, 0, none⟩) 1 1, .slice (some ⟨w.heap.size + 1, 0, none⟩) 1 1, .slice (some ⟨w.heap.size + 1 + 1, 0, none⟩) 1 1] 29 (w.heap.size + 1 + 1 + 1) (by simp) (by simp [maxLen])
    refine ⟨_, a4, fun k u x hu hx => ?_⟩
    match k, hu, hx with
    | 0, hu, hx =>
      simp [aliveX] at hu hx
      subst hu hx
      exact ((a1.below b1).below b2).below b3
    | 1, hu, hx =>
      simp [aliveX] at hu hx
      subst hu hx
      exact (a2.below b2).below b3
    | 2, hu, hx =>
      simp [aliveX] at hu hx
      subst hu hx
      exact a3.below b3
    | k + 3, hu, hx => simp [aliveX] at hx
  have hc := Lib.hid (comps_told alive_ref h1)
  clear h1
  have hnum : ∀ W, Calls Try.prog 11 #[.int .i64 0] W fun e w' => e = .returned (.int .i64 0) ∧ W = w' := fun W => num_any 0 W
  have hb : Below w.heap.size w ((((w.alloc (.cells #[.int .i64 1] 3)).alloc (.cells #[.int .i64 0] 3)).alloc (.cells #[.int .i64 0] 3)).alloc (.cells #[.slice (some ⟨w.heap.size, 0, none⟩) 1 1, .slice (some ⟨w.heap.size + 1, 0, none⟩) 1 1, .slice (some ⟨w.heap.size + 1 + 1, 0, none⟩) 1 1] 29)) :=
    ((((Below.refl _ _).alloc (Nat.le_refl _) _).alloc (by simp) _).alloc (by simp; omega) _).alloc (by simp; omega) _
  have hb' := Lib.hid hb
  clear hb
  go_enter Try.func8, Try.ntmps8
  go_wp2_with (first
    | (go_at_call 10; refine hc.out.mono ?_; rintro e w' ⟨v, rep, T, rfl, hr, hT, hS⟩; rw [alive_rows hr hT] at hS; obtain ⟨g, c, A5, c5, g6, c6, rfl, r1, r3, r6⟩ := alive_reads hS; (have hS' := Lib.hid hS); clear hS)
    | (go_at_call 11; refine (hnum _).mono ?_; rintro e w' ⟨rfl, rfl⟩))
  go_ret
  exact ⟨rfl, hb'.out.trans (hS'.out.below.mono (by simp; omega))⟩
end Go.Proofs.Ytdidkpgdjehodaa
