/- Kit14, laid together. -/
import Derived.Test.YtahkpkaodeeemaaGreatJ14
namespace Go.Proofs.YtahkpkaodeeemaaGreat
open Go.RowKit
set_option linter.unusedVariables false

/-- j is needed from i on. -/
def RP (xss : List (List Int)) (i j : Nat) : Prop := ∃ u, u ∈ adjOf xss i ∧ Tarjan.Reach (adjOf xss) u j

def pot (xss : List (List Int)) (f : Nat → Bool) : Nat := ((List.range xss.length).map fun v => if f v = true then 0 else (adjOf xss v).length).sum
def updB (f : Nat → Bool) (x : Nat) (b : Bool) : Nat → Bool := fun v => if v = x then b else f v

theorem sum_upd (h : Nat → Nat) (f : Nat → Bool) (x : Nat) (h0 : f x = false) : ∀ n, x < n →
    ((List.range n).map fun v => if updB f x true v = true then 0 else h v).sum + h x = ((List.range n).map fun v => if f v = true then 0 else h v).sum := by
  have low : ∀ n, n ≤ x → ((List.range n).map fun v => if updB f x true v = true then 0 else h v) = ((List.range n).map fun v => if f v = true then 0 else h v) := by
    intro n hn
    apply List.map_congr_left
    intro v hv
    have := List.mem_range.1 hv
    have : v ≠ x := by omega
    simp [updB, this]
  intro n
  induction n with
  | zero => intro hx; omega
  | succ m ih =>
    intro hx
    simp only [List.range_succ, List.map_append, List.sum_append, List.map_cons, List.map_nil, List.sum_cons, List.sum_nil]
    by_cases e : x = m
    · subst e
      rw [low x (Nat.le_refl _)]
      simp [updB, h0]
    · have := ih (by omega)
      have hm : ¬ m = x := fun h => e h.symm
      have e2 : updB f x true m = f m := by simp [updB, hm]
      rw [e2]
      omega
theorem pot_upd {xss : List (List Int)} {f : Nat → Bool} {x : Nat} (hx : x < xss.length) (h0 : f x = false) : pot xss (updB f x true) + (adjOf xss x).length = pot xss f :=
  sum_upd (fun v => (adjOf xss v).length) f x h0 _ hx
theorem sum_le (h : Nat → Nat) (b : Nat) : ∀ n, (∀ v, v < n → h v ≤ b) → ((List.range n).map h).sum ≤ n * b := by
  intro n
  induction n with
  | zero => intro _; simp
  | succ m ih =>
    intro hb
    simp only [List.range_succ, List.map_append, List.sum_append, List.map_cons, List.map_nil, List.sum_cons, List.sum_nil]
    have h1 := ih fun v hv => hb v (by omega)
    have h2 := hb m (by omega)
    rw [Nat.succ_mul]
    omega
theorem adj_len {xss : List (List Int)} {v : Nat} (hv : v < xss.length) : (adjOf xss v).length = (xss[v]).length := by rw [adjOf_at hv, List.length_map]
theorem adj_back {xss : List (List Int)} (hx : refused xss = 0) {v : Nat} (hv : v < xss.length) : (adjOf xss v).map (fun (u : Nat) => (u : Int)) = xss[v] := by
  obtain ⟨_, _, hg⟩ := refused_zero hx
  rw [adjOf_at hv, List.map_map]
  apply List.ext_getElem (by simp)
  intro k h1 h2
  have := hg v hv k h2
  simp
  omega
theorem pot_le {xss : List (List Int)} (hx : refused xss = 0) (f : Nat → Bool) : pot xss f ≤ 1048576 := by
  obtain ⟨h1, h2, _⟩ := refused_zero hx
  have := sum_le (fun v => if f v = true then 0 else (adjOf xss v).length) 1024 xss.length fun v hv => by
    split
    · omega
    · rw [adj_len hv]; exact h2 v hv
  have h3 : xss.length * 1024 ≤ 1024 * 1024 := Nat.mul_le_mul_right _ h1
  unfold pot
  omega

structure RI (xss : List (List Int)) (i : Nat) (f : Nat → Bool) (L : List Nat) : Prop where
  stack : ∀ x, x ∈ L → x < xss.length ∧ RP xss i x
  seen : ∀ x, f x = true → x < xss.length ∧ RP xss i x
  from' : ∀ u, u ∈ adjOf xss i → f u = true ∨ u ∈ L
  shut : ∀ x, f x = true → ∀ u, u ∈ adjOf xss x → f u = true ∨ u ∈ L
theorem RP.next {xss : List (List Int)} {i x u : Nat} (h : RP xss i x) (hu : u ∈ adjOf xss x) : RP xss i u := by
  obtain ⟨y, hy, hr⟩ := h
  exact ⟨y, hy, hr.trans (.step hu (.refl _))⟩
theorem RI.start {xss : List (List Int)} (hx : refused xss = 0) {i : Nat} (hi : i < xss.length) : RI xss i (fun _ => false) (adjOf xss i) :=
  ⟨fun x h => ⟨adj_lt hx hi h, x, h, .refl _⟩, fun x h => by simp at h, fun u h => .inr h, fun x h => by simp at h⟩
theorem RI.old {xss : List (List Int)} {i x : Nat} {f : Nat → Bool} {L : List Nat} (h : RI xss i f (L ++ [x])) (hf : f x = true) : RI xss i f L := by
  have key : ∀ u, (f u = true ∨ u ∈ L ++ [x]) → f u = true ∨ u ∈ L := by
    intro u hu
    rcases hu with hu | hu
    · exact .inl hu
    · rcases List.mem_append.1 hu with hu | hu
      · exact .inr hu
      · simp only [List.mem_singleton] at hu
        exact .inl (hu ▸ hf)
  exact ⟨fun y hy => h.stack y (List.mem_append_left _ hy), h.seen, fun u hu => key u (h.from' u hu), fun y hy u hu => key u (h.shut y hy u hu)⟩
theorem RI.new {xss : List (List Int)} (hx : refused xss = 0) {i x : Nat} {f : Nat → Bool} {L : List Nat} (h : RI xss i f (L ++ [x])) (hf : f x = false) : RI xss i (updB f x true) (L ++ adjOf xss x) := by
  obtain ⟨h1, h2⟩ := h.stack x (by simp)
  have key : ∀ u, (f u = true ∨ u ∈ L ++ [x]) → updB f x true u = true ∨ u ∈ L ++ adjOf xss x := by
    intro u hu
    by_cases e : u = x
    · left; simp [updB, e]
    · rcases hu with hu | hu
      · left; simp [updB, e, hu]
      · rcases List.mem_append.1 hu with hu | hu
        · exact .inr (List.mem_append_left _ hu)
        · simp only [List.mem_singleton] at hu
          exact absurd hu e
  refine ⟨fun y hy => ?_, fun y hy => ?_, fun u hu => key u (h.from' u hu), fun y hy u hu => ?_⟩
  · rcases List.mem_append.1 hy with hy | hy
    · exact h.stack y (List.mem_append_left _ hy)
    · exact ⟨adj_lt hx h1 hy, h2.next hy⟩
  · by_cases e : y = x
    · subst e; exact ⟨h1, h2⟩
    · simp [updB, e] at hy
      exact h.seen y hy
  · by_cases e : y = x
    · subst e; exact .inr (List.mem_append_right _ hu)
    · simp [updB, e] at hy
      exact key u (h.shut y hy u hu)
theorem RI.done {xss : List (List Int)} {i : Nat} {f : Nat → Bool} (h : RI xss i f []) (j : Nat) : f j = true ↔ RP xss i j := by
  constructor
  · intro hj; exact (h.seen j hj).2
  · rintro ⟨u, hu, hr⟩
    have h0 : f u = true := by
      rcases h.from' u hu with h1 | h1
      · exact h1
      · cases h1
    clear hu
    induction hr with
    | refl => exact h0
    | step e _ ih =>
      apply ih
      rcases h.shut _ h0 _ e with h1 | h1
      · exact h1
      · cases h1

def barr (g n : Nat) (f : Nat → Bool) : Asn := .sl 4 1 (.slice (some ⟨g, 0, none⟩) n n) n ((List.range n).map fun v => Value.bool (f v))
theorem barr_at {w0 w : World} {As : List Asn} {g n : Nat} {f : Nat → Bool} (i : Nat) (h : Sep w0 w As) (hi : As[i]? = some (barr g n f)) (k : Nat) (hk : k < n) : w.cell? ⟨g, k, none⟩ = some (.bool (f k)) := by
  rw [h.cellAt i hi k (by omega)]
  simp [hk]
theorem barr_set (g n : Nat) (f : Nat → Bool) (k : Nat) (b : Bool) : Asn.sl 4 1 (.slice (some ⟨g, 0, none⟩) n n) n (((List.range n).map fun v => Value.bool (f v)).set k (.bool b)) = barr g n (updB f k b) := by
  rw [map_range_set, barr]
  congr 1
  apply List.map_congr_left
  intro v _
  simp only [updB]
  split <;> rfl
theorem boolsR_barr (g n : Nat) (f : Nat → Bool) : boolsR (.slice (some ⟨g, 0, none⟩) n n) ((List.range n).map f) = barr g n f := by
  unfold boolsR barr
  rw [List.length_map, List.length_range, List.map_map]
  rfl
theorem barr_made (g n : Nat) : Asn.sl 4 1 (.slice (some ⟨g, 0, none⟩) n n) n (List.replicate n (.bool false)) = barr g n (fun _ => false) := by
  unfold barr
  congr 1
  apply List.ext_getElem?
  intro i
  by_cases hi : i < n <;> simp [hi]

noncomputable def rpB (xss : List (List Int)) (i j : Nat) : Bool := @decide (RP xss i j) (Classical.propDecidable _)
theorem rpB_iff {xss : List (List Int)} {i j : Nat} : rpB xss i j = true ↔ RP xss i j := by unfold rpB; exact @decide_eq_true_iff _ (Classical.propDecidable _)
theorem rpB_eq {xss : List (List Int)} {i : Nat} {f : Nat → Bool} (h : ∀ j, f j = true ↔ RP xss i j) : f = rpB xss i := by
  funext j
  rw [Bool.eq_iff_iff, h j, rpB_iff]
noncomputable def both (xss : List (List Int)) (i k : Nat) : Bool := rpB xss i k && rpB xss k i
/-- The least number of i's component, as the document seeks it. -/
noncomputable def partsRep (xss : List (List Int)) (i : Nat) : Nat := ((List.range i).find? (both xss i)).getD i
theorem both_mut {xss : List (List Int)} {i k : Nat} (h : k ≠ i) : both xss i k = true ↔ Mut xss k i := by
  have key : ∀ {a b : Nat}, a ≠ b → (RP xss a b ↔ Tarjan.Reach (adjOf xss) a b) := by
    intro a b hab
    constructor
    · rintro ⟨u, hu, hr⟩; exact .step hu hr
    · intro hr
      cases hr with
      | refl => exact absurd rfl hab
      | step e h => exact ⟨_, e, h⟩
  simp only [both, Bool.and_eq_true, rpB_iff]
  rw [key h.symm, key h]
  exact ⟨fun ⟨a, b⟩ => ⟨b, a⟩, fun ⟨a, b⟩ => ⟨b, a⟩⟩
theorem Mut.rfl' {xss : List (List Int)} (i : Nat) : Mut xss i i := ⟨.refl _, .refl _⟩
theorem partsRep_some {xss : List (List Int)} {i k : Nat} (hk : k < i) (h1 : both xss i k = true) (h0 : ∀ j, j < k → both xss i j = false) : partsRep xss i = k := by
  unfold partsRep
  have : (List.range i).find? (both xss i) = some k := by
    rw [List.find?_range_eq_some]
    exact ⟨h1, List.mem_range.2 hk, fun j hj => by simp [h0 j hj]⟩
  rw [this]
  rfl
theorem partsRep_none {xss : List (List Int)} {i : Nat} (h0 : ∀ j, j < i → both xss i j = false) : partsRep xss i = i := by
  unfold partsRep
  have : (List.range i).find? (both xss i) = none := by
    rw [List.find?_eq_none]
    intro j hj
    simp [h0 j (List.mem_range.1 hj)]
  rw [this]
  rfl
theorem partsRep_isRep (xss : List (List Int)) : IsRep xss (partsRep xss) := by
  intro i hi
  by_cases hex : ∃ k, k < i ∧ both xss i k = true
  · obtain ⟨k, hk, hb, hmin⟩ : ∃ k, k < i ∧ both xss i k = true ∧ ∀ j, j < k → both xss i j = false := by
      obtain ⟨k, hk, hb⟩ := hex
      induction k using Nat.strongRecOn with
      | ind k ih =>
        by_cases h : ∃ j, j < k ∧ both xss i j = true
        · obtain ⟨j, hj, hbj⟩ := h
          exact ih j hj (by omega) hbj
        · exact ⟨k, hk, hb, fun j hj => by
            cases e : both xss i j with
            | false => rfl
            | true => exact absurd ⟨j, hj, e⟩ h⟩
    rw [partsRep_some hk hb hmin]
    have hm := (both_mut (by omega)).1 hb
    refine ⟨by omega, hm, fun u hu hmu => ?_⟩
    apply Classical.byContradiction
    intro hlt
    have h1 : both xss i u = true := (both_mut (by omega)).2 hmu
    rw [hmin u (by omega)] at h1
    cases h1
  · have h0 : ∀ j, j < i → both xss i j = false := fun j hj => by
      cases e : both xss i j with
      | false => rfl
      | true => exact absurd ⟨j, hj, e⟩ hex
    rw [partsRep_none h0]
    refine ⟨hi, Mut.rfl' i, fun u hu hmu => ?_⟩
    apply Classical.byContradiction
    intro hlt
    exact hex ⟨u, by omega, (both_mut (by omega)).2 hmu⟩

theorem mem_zero (rep : Nat → Nat) (x : Nat) : mem 0 rep x = [] := rfl
theorem mem_succ (n : Nat) (rep : Nat → Nat) (x : Nat) : mem (n + 1) rep x = mem n rep x ++ if rep n = x then [n] else [] := by
  unfold mem
  rw [List.range_succ, List.filter_append]
  congr 1
  by_cases h : rep n = x <;> simp [h]
theorem mem_len (n : Nat) (rep : Nat → Nat) (x : Nat) : (mem n rep x).length ≤ n := by
  have := List.length_filter_le (fun v => rep v == x) (List.range n)
  simpa [mem] using this
def repL (n : Nat) (rep : Nat → Nat) : List Int := (List.range n).map fun i => (rep i : Int)

/-- The rows of the document's Round, as far as the first k numbers. -/
noncomputable def roundTo (xss : List (List Int)) (k : Nat) : List (List Int) := ((List.range k).filter fun i => (partsRep xss i == i) && rpB xss i i).map fun i => (mem xss.length (partsRep xss) i).map fun (v : Nat) => (v : Int)
theorem roundTo_succ (xss : List (List Int)) (k : Nat) : roundTo xss (k + 1) = roundTo xss k ++ if (partsRep xss k == k) && rpB xss k k then [(mem xss.length (partsRep xss) k).map fun (v : Nat) => (v : Int)] else [] := by
  unfold roundTo
  rw [List.range_succ, List.filter_append, List.map_append]
  congr 1
  cases h : ((partsRep xss k == k) && rpB xss k k) <;> simp [h]
theorem roundTo_len (xss : List (List Int)) (k : Nat) : (roundTo xss k).length ≤ k := by
  have := List.length_filter_le (fun i => (partsRep xss i == i) && rpB xss i i) (List.range k)
  simpa [roundTo] using this

noncomputable def repX (xss : List (List Int)) (i : Nat) : List Int := (mem xss.length (partsRep xss) i).map fun (v : Nat) => (v : Int)
theorem rd_alloc (w : World) (cs : Array Value) (t : TypeId) (g : Nat) (hg : g = w.heap.size) (hmax : cs.size ≤ maxLen) : Rd (w.alloc (.cells cs t)) 1 (.slice (some ⟨g, 0, none⟩) cs.size cs.size) cs.size cs.toList :=
  ⟨by simp, _, _, rfl, Nat.le_refl _, hmax, fun _ => ⟨_, rfl, by simp [hg], cells_new w cs t g hg⟩⟩
theorem Below.new (w : World) (o : Obj) : Below w.heap.size w (w.alloc o) := (Below.refl _ _).alloc (Nat.le_refl _) o
theorem add_zero' (a : Addr) : a.add 0 = a := by simp [Addr.add]
/-- The cells of rows of one's own. -/
theorem rows_cells {w0 w : World} {v : Value} {xss : List (List Int)} {R : List Asn} (h : Sep w0 w (rowsR v xss :: R)) {k : Nat} (hk : k < xss.length) :
    ∃ g c u, v = .slice (some ⟨g, 0, none⟩) xss.length c ∧ w.cell? ⟨g, k, none⟩ = some u ∧ (∃ A cr, u = .slice A xss[k].length cr) ∧
      (0 < xss[k].length → ∃ gr cr, u = .slice (some ⟨gr, 0, none⟩) xss[k].length cr ∧ ∀ j (hj : j < xss[k].length), w.cell? ⟨gr, j, none⟩ = some (.int .i64 xss[k][j])) := by
  obtain ⟨vs, hl, h1⟩ := Sep.list_open h
  obtain ⟨g, c, rfl, _⟩ := h1.sl_form 0 rfl (by omega)
  have hv : vs[k]? = some (vs[k]'(by omega)) := List.getElem?_eq_getElem _
  have hi : (List.zipWith intsR vs xss ++ R)[k]? = some (intsR (vs[k]'(by omega)) xss[k]) := zip_at hl hk R
  have hri := h1.ints (k + 1) hi
  obtain ⟨A, cr, e, _⟩ := hri.shape
  refine ⟨g, c, _, rfl, by rw [h1.cellAt 0 rfl k (by omega), hv], ⟨A, cr, e⟩, fun hpos => ?_⟩
  obtain ⟨gr, cr', e', _⟩ := h1.sl_form (k + 1) hi hpos
  rw [e'] at hi
  refine ⟨gr, cr', e', fun j hj => ?_⟩
  rw [h1.cellAt (k + 1) hi j (by omega)]
  simp [hj]
end Go.Proofs.YtahkpkaodeeemaaGreat
