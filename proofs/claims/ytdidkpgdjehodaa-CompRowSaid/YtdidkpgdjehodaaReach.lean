/- The document's reach, plain and walked. -/
import Derived.Test.YtdidkpgdjehodaaComponents3
import Derived.Test.YtdidkpgdjehodaaApp
namespace Go.Proofs.Ytdidkpgdjehodaa
open Go.RowKit
set_option linter.unusedVariables false

/-- j is needed from i on. -/
def RP (xss : List (List Int)) (i j : Nat) : Prop := ∃ u, u ∈ adjOf xss i ∧ Tarjan.Reach (adjOf xss) u j

def pot (xss : List (List Int)) (f : Nat → Bool) : Nat := ((List.range xss.length).map fun v => if f v = true then 0 else (adjOf xss v).length).sum
def updB (f : Nat → Bool) (x : Nat) (b : Bool) : Nat → Bool := fun v => if v = x then b else f v

theorem sum_upd (h : Nat → Nat) (f : Nat → Bool) (x : Nat) (h0 : f x = false) : ∀ n, x < n →
    ((List.range n).map fun v => if updB f x true v = true then 0 else h v).sum + h x = ((List.range n).map fun v => if f v = true then 0 else h v).sum := by
  have low : ∀ n, n ≤ x → ((List.range n).map fun v => if updB f x true v = true then 0 else h v) = ((List.range n).map fun v => if f v = true then 0 else h v) := by
    intro n hn
    apply List.map_congr_left
    intro v hv
    have := List.mem_range.1 hv
    have : v ≠ x := by omega
    simp [updB, this]
  intro n
  induction n with
  | zero => intro hx; omega
  | succ m ih =>
    intro hx
    simp only [List.range_succ, List.map_append, List.sum_append, List.map_cons, List.map_nil, List.sum_cons, List.sum_nil]
    by_cases e : x = m
    · subst e
      rw [low x (Nat.le_refl _)]
      simp [updB, h0]
    · have := ih (by omega)
      have hm : ¬ m = x := fun h => e h.symm
      have e2 : updB f x true m = f m := by simp [updB, hm]
      rw [e2]
      omega
theorem pot_upd {xss : List (List Int)} {f : Nat → Bool} {x : Nat} (hx : x < xss.length) (h0 : f x = false) : pot xss (updB f x true) + (adjOf xss x).length = pot xss f :=
  sum_upd (fun v => (adjOf xss v).length) f x h0 _ hx
theorem sum_le (h : Nat → Nat) (b : Nat) : ∀ n, (∀ v, v < n → h v ≤ b) → ((List.range n).map h).sum ≤ n * b := by
  intro n
  induction n with
  | zero => intro _; simp
  | succ m ih =>
    intro hb
    simp only [List.range_succ, List.map_append, List.sum_append, List.map_cons, List.map_nil, List.sum_cons, List.sum_nil]
    have h1 := ih fun v hv => hb v (by omega)
    have h2 := hb m (by omega)
    rw [Nat.succ_mul]
    omega
theorem adj_len {xss : List (List Int)} {v : Nat} (hv : v < xss.length) : (adjOf xss v).length = (xss[v]).length := by rw [adjOf_at hv, List.length_map]
theorem adj_back {xss : List (List Int)} (hx : refused xss = 0) {v : Nat} (hv : v < xss.length) : (adjOf xss v).map (fun (u : Nat) => (u : Int)) = xss[v] := by
  obtain ⟨_, _, hg⟩ := refused_zero hx
  rw [adjOf_at hv, List.map_map]
  apply List.ext_getElem (by simp)
  intro k h1 h2
  have := hg v hv k h2
  simp
  omega
theorem pot_le {xss : List (List Int)} (hx : refused xss = 0) (f : Nat → Bool) : pot xss f ≤ 1048576 := by
  obtain ⟨h1, h2, _⟩ := refused_zero hx
  have := sum_le (fun v => if f v = true then 0 else (adjOf xss v).length) 1024 xss.length fun v hv => by
    split
    · omega
    · rw [adj_len hv]; exact h2 v hv
  have h3 : xss.length * 1024 ≤ 1024 * 1024 := Nat.mul_le_mul_right _ h1
  unfold pot
  omega

structure RI (xss : List (List Int)) (i : Nat) (f : Nat → Bool) (L : List Nat) : Prop where
  stack : ∀ x, x ∈ L → x < xss.length ∧ RP xss i x
  seen : ∀ x, f x = true → x < xss.length ∧ RP xss i x
  from' : ∀ u, u ∈ adjOf xss i → f u = true ∨ u ∈ L
  shut : ∀ x, f x = true → ∀ u, u ∈ adjOf xss x → f u = true ∨ u ∈ L
theorem RP.next {xss : List (List Int)} {i x u : Nat} (h : RP xss i x) (hu : u ∈ adjOf xss x) : RP xss i u := by
  obtain ⟨y, hy, hr⟩ := h
  exact ⟨y, hy, hr.trans (.step hu (.refl _))⟩
theorem RI.start {xss : List (List Int)} (hx : refused xss = 0) {i : Nat} (hi : i < xss.length) : RI xss i (fun _ => false) (adjOf xss i) :=
  ⟨fun x h => ⟨adj_lt hx hi h, x, h, .refl _⟩, fun x h => by simp at h, fun u h => .inr h, fun x h => by simp at h⟩
theorem RI.old {xss : List (List Int)} {i x : Nat} {f : Nat → Bool} {L : List Nat} (h : RI xss i f (L ++ [x])) (hf : f x = true) : RI xss i f L := by
  have key : ∀ u, (f u = true ∨ u ∈ L ++ [x]) → f u = true ∨ u ∈ L := by
    intro u hu
    rcases hu with hu | hu
    · exact .inl hu
    · rcases List.mem_append.1 hu with hu | hu
      · exact .inr hu
      · simp only [List.mem_singleton] at hu
        exact .inl (hu ▸ hf)
  exact ⟨fun y hy => h.stack y (List.mem_append_left _ hy), h.seen, fun u hu => key u (h.from' u hu), fun y hy u hu => key u (h.shut y hy u hu)⟩
theorem RI.new {xss : List (List Int)} (hx : refused xss = 0) {i x : Nat} {f : Nat → Bool} {L : List Nat} (h : RI xss i f (L ++ [x])) (hf : f x = false) : RI xss i (updB f x true) (L ++ adjOf xss x) := by
  obtain ⟨h1, h2⟩ := h.stack x (by simp)
  have key : ∀ u, (f u = true ∨ u ∈ L ++ [x]) → updB f x true u = true ∨ u ∈ L ++ adjOf xss x := by
    intro u hu
    by_cases e : u = x
    · left; simp [updB, e]
    · rcases hu with hu | hu
      · left; simp [updB, e, hu]
      · rcases List.mem_append.1 hu with hu | hu
        · exact .inr (List.mem_append_left _ hu)
        · simp only [List.mem_singleton] at hu
          exact absurd hu e
  refine ⟨fun y hy => ?_, fun y hy => ?_, fun u hu => key u (h.from' u hu), fun y hy u hu => ?_⟩
  · rcases List.mem_append.1 hy with hy | hy
    · exact h.stack y (List.mem_append_left _ hy)
    · exact ⟨adj_lt hx h1 hy, h2.next hy⟩
  · by_cases e : y = x
    · subst e; exact ⟨h1, h2⟩
    · simp [updB, e] at hy
      exact h.seen y hy
  · by_cases e : y = x
    · subst e; exact .inr (List.mem_append_right _ hu)
    · simp [updB, e] at hy
      exact key u (h.shut y hy u hu)
theorem RI.done {xss : List (List Int)} {i : Nat} {f : Nat → Bool} (h : RI xss i f []) (j : Nat) : f j = true ↔ RP xss i j := by
  constructor
  · intro hj; exact (h.seen j hj).2
  · rintro ⟨u, hu, hr⟩
    have h0 : f u = true := by
      rcases h.from' u hu with h1 | h1
      · exact h1
      · cases h1
    clear hu
    induction hr with
    | refl => exact h0
    | step e _ ih =>
      apply ih
      rcases h.shut _ h0 _ e with h1 | h1
      · exact h1
      · cases h1

def barr (g n : Nat) (f : Nat → Bool) : Asn := .sl 4 1 (.slice (some ⟨g, 0, none⟩) n n) n ((List.range n).map fun v => Value.bool (f v))
theorem barr_at {w0 w : World} {As : List Asn} {g n : Nat} {f : Nat → Bool} (i : Nat) (h : Sep w0 w As) (hi : As[i]? = some (barr g n f)) (k : Nat) (hk : k < n) : w.cell? ⟨g, k, none⟩ = some (.bool (f k)) := by
  rw [h.cellAt i hi k (by omega)]
  simp [hk]
theorem barr_set (g n : Nat) (f : Nat → Bool) (k : Nat) (b : Bool) : Asn.sl 4 1 (.slice (some ⟨g, 0, none⟩) n n) n (((List.range n).map fun v => Value.bool (f v)).set k (.bool b)) = barr g n (updB f k b) := by
  rw [map_range_set, barr]
  congr 1
  apply List.map_congr_left
  intro v _
  simp only [updB]
  split <;> rfl
theorem boolsR_barr (g n : Nat) (f : Nat → Bool) : boolsR (.slice (some ⟨g, 0, none⟩) n n) ((List.range n).map f) = barr g n f := by
  unfold boolsR barr
  rw [List.length_map, List.length_range, List.map_map]
  rfl
theorem barr_made (g n : Nat) : Asn.sl 4 1 (.slice (some ⟨g, 0, none⟩) n n) n (List.replicate n (.bool false)) = barr g n (fun _ => false) := by
  unfold barr
  congr 1
  apply List.ext_getElem?
  intro i
  by_cases hi : i < n <;> simp [hi]

theorem reach_any {xss : List (List Int)} {w : World} {nv : Value} {i : Nat} (hx : refused xss = 0) (hn : RowsAt w nv xss) (hi : i < xss.length) :
    Calls Try.prog 23 #[nv, .int .i64 i] w fun e w' => ∃ v f, e = .returned v ∧ Sep w w' [boolsR v ((List.range xss.length).map f)] ∧ ∀ j, f j = true ↔ RP xss i j := by
  obtain ⟨hl, hrow, _⟩ := refused_zero hx
  obtain ⟨i0, hinf, hz0, hz1, hz2⟩ := info_parts info_int
  obtain ⟨i2, hi2, hz20, hz21, hz22⟩ := info_parts info_bool
  obtain ⟨ad, c, u, rfl, hrow1, hrowc⟩ := hn.all hi
  have hmk2 := fun W : World => run_make_n (P := Try.prog) 33 4 i2 (.bool false) 1 Try.underlying33 hi2 hz20 hz21 hz22 rfl .i64 .i64 xss.length (by omega) (by unfold maxLen; omega) W
  have hS1 := ((Sep.nil w).made 4 (.bool false) xss.length (by unfold maxLen; omega)).sl_nil 3 1
  rw [barr_made] at hS1
  have a0 := hrowc _ hS1.below
  have hrd := hrow1.below hS1.below
  have hLi := hrow i hi
  have hone : ∀ (xs : List Int) (u : Value), u ∈ xs.map (Value.int .i64) → u.oneCell' = true := by
    intro xs u hu
    obtain ⟨x, _, rfl⟩ := List.mem_map.1 hu
    rfl
  have hS1' := Lib.hid hS1
  have hrd' := Lib.hid hrd
  have hone' := Lib.hid hone
  have hx' := Lib.hid hx
  have hn' := Lib.hid hn
  have hrow' := Lib.hid hrow
  clear hS1 hrd hone hx hn hrowc hrow1 hrow
  have b0 : (0 : Int) ≤ (i : Int) := by omega
  have b1 : (i : Int) < (xss.length : Int) := by omega
  go_enter Try.func23, Try.ntmps23
  go_wp2_with (first
    | (at_builtin; refine wpList_append_any_sep 0 rfl _ _ 29 rfl 3 i0 (.int .i64 0) 1 8 Try.underlying29 hinf hz0 hz1 hz2 rfl (by decide) hS1'.out _ _ _ rfl rfl _ _ _ rfl hrd'.out (hone'.out _) (by unfold maxLen; omega) (by omega) ?_)
    | fail)
  intro lv w1 hS2 hsz
  have hS3 : Sep w w1 [intsR lv ((adjOf xss i).map fun (v : Nat) => (v : Int)), barr w.heap.size xss.length (fun _ => false)] := by
    rw [adj_back hx'.out hi]
    exact hS2
  generalize w.heap.size = gs at hS3 ⊢
  have hS3' := Lib.hid hS3
  clear hS2 hS3 hS1' hrd' hmk2 a0 hsz
  go_wp2_with fail
  go_loopg [6] ((adjOf xss i).length + pot xss (fun _ => false)) (fun g lv wr => ∃ f L, Hid (g = L.length + pot xss f) ∧ L.length + pot xss f ≤ 2000000 ∧ RI xss i f L ∧ Sep w wr [intsR lv (L.map fun (v : Nat) => (v : Int)), barr gs xss.length f])
  case atStart =>
    refine ⟨fun _ => false, adjOf xss i, rfl, ?_, .start hx'.out hi, hS3'.out⟩
    have := pot_le hx'.out (fun _ => false)
    rw [adj_len hi]
    omega
  case round =>
    obtain ⟨f, L, hm, hb, hR, hT⟩ := hrel
    rcases List.eq_nil_or_concat L with rfl | ⟨L', x, rfl⟩
    · obtain ⟨A, cA, rfl, _⟩ := (hT.ints 0 rfl).shape
      have hT' := Lib.hid hT
      have hR' := Lib.hid hR
      clear hT hR
      go_wp2_with fail
      go_ret
      refine ⟨.slice (some ⟨gs, 0, none⟩) xss.length xss.length, f, rfl, ?_, hR'.out.done⟩
      rw [boolsR_barr]
      exact Sep.drop 1 hT'.out
    rw [List.concat_eq_append] at hm hb hR hT
    rw [List.map_append, List.map_cons, List.map_nil] at hT
    obtain ⟨hx1, _⟩ := hR.stack x (by simp)
    obtain ⟨g, cap, rfl, hg, hgl, hcap, hmax⟩ := hT.sl_form 0 rfl (by simp)
    have hlen : (L'.map (fun (v : Nat) => (v : Int)) ++ [(x : Int)]).length = L'.length + 1 := by simp
    have a0 : wr.cell? ⟨g, L'.length, none⟩ = some (.int .i64 x) := by rw [hT.cellAt 0 rfl L'.length (by simp)]; simp
    have a1 := barr_at 1 hT rfl x hx1
    have a2 := hT.frozenAt 1 rfl x
    rw [hlen] at hT ⊢
    have hcap' : L'.length + 1 ≤ cap := by simpa using hcap
    have b2 : (0 : Int) ≤ (L'.length : Int) := by omega
    have b3 : (L'.length : Int) ≤ (cap : Int) := by omega
    have b4 : (cap : Int) ≤ 9223372036854775807 := by have := hmax; simp only [maxLen] at this; omega
    have b5 : (x : Int) < (xss.length : Int) := by omega
    have b6 : (0 : Int) ≤ (x : Int) := by omega
    have hT2 : Sep w wr [.sl 3 1 (.slice (some ⟨g, 0, none⟩) (L'.length + 1) cap) (L'.length + 1) (((L'.map fun (v : Nat) => (v : Int)) ++ [(x : Int)]).map (Value.int .i64)), barr gs xss.length f] := by
      rw [intsR, hlen] at hT
      exact hT
    have hT3 := hT2.sl_cut 0 rfl L'.length (by omega)
    have hT4 : Sep w wr [intsR (.slice (some ⟨g, 0, none⟩) L'.length cap) (L'.map fun (v : Nat) => (v : Int)), barr gs xss.length f] := by
      simpa [intsR] using hT3
    have hT' := Lib.hid hT4
    have hR' := Lib.hid hR
    clear hT hR hmax hcap hlen hg hgl hT2 hT3 hT4
    cases hf : f x
    case true =>
      rw [hf] at a1
      go_wp2_with fail
      go_roundg (L'.length + pot xss f)
      case measure => rw [hm.out]; simp
      case rel =>
        exact ⟨f, L', rfl, by simp at hb; omega, hR'.out.old hf, hT'.out⟩
    case false =>
      rw [hf] at a1
      obtain ⟨ad', c', u', e, hrowx, hrowcx⟩ := hn'.out.all hx1
      cases e
      have hS4 := hT'.out.stored 1 rfl x (.bool true)
      simp only [List.set_cons_succ, List.set_cons_zero] at hS4
      rw [barr_set] at hS4
      have a3 := hrowcx _ hS4.below
      have hrd := hrowx.below hS4.below
      have hLx := hrow'.out x hx1
      have hpu := pot_upd hx1 hf
      have hb2 : L'.length ≤ 2000000 := by simp at hb; omega
      have hS4' := Lib.hid hS4
      have hrd' := Lib.hid hrd
      have hpu' := Lib.hid hpu
      have hb' := Lib.hid hb
      clear hS4 hrd hrowx hrowcx hb hpu
      go_wp2_with (first
        | (at_builtin; refine wpList_append_any_sep 0 rfl _ _ 29 rfl 3 i0 (.int .i64 0) 1 8 Try.underlying29 hinf hz0 hz1 hz2 rfl (by decide) hS4'.out _ _ _ rfl rfl _ _ _ rfl hrd'.out (hone'.out _) (by simp only [List.length_map]; unfold maxLen; omega) (by simp only [List.length_map]; omega) ?_)
        | fail)
      intro lv' w4 hS5 hsz5
      have hS6 : Sep w w4 [intsR lv' ((L' ++ adjOf xss x).map fun (v : Nat) => (v : Int)), barr gs xss.length (updB f x true)] := by
        rw [List.map_append, adj_back hx'.out hx1]
        simpa [intsR] using hS5
      have hS6' := Lib.hid hS6
      clear hS5 hS6 hS4' hrd' hsz5
      go_wp2_with fail
      go_roundg ((L' ++ adjOf xss x).length + pot xss (updB f x true))
      case measure =>
        rw [hm.out]
        have := hpu'.out
        simp only [List.length_append, List.length_cons, List.length_nil]
        omega
      case rel =>
        refine ⟨updB f x true, L' ++ adjOf xss x, rfl, ?_, hR'.out.new hx'.out hf, hS6'.out⟩
        have := hpu'.out
        have := hb'.out
        simp only [List.length_append, List.length_cons, List.length_nil] at *
        omega
end Go.Proofs.Ytdidkpgdjehodaa
