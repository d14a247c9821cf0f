/- Parts of the state: a []int, a []bool, a slice of slices, of the call's own. -/
import Derived.Test.YtahkpkaodeeemaaGreatLaws
namespace Go.Proofs.YtahkpkaodeeemaaGreat
open Go.RowKit

def intsR (v : Value) (xs : List Int) : Asn := .sl 3 1 v xs.length (xs.map (.int .i64))
def boolsR (v : Value) (xs : List Bool) : Asn := .sl 4 1 v xs.length (xs.map .bool)
/-- A slice of one-cell elements, each with a part of its own behind it. -/
def Asn.list {α : Type} (e : TypeId) (One : Value → α → Asn) (v : Value) (xs : List α) : Asn :=
  .ex fun vs : List Value => .star (.pure (vs.length = xs.length)) (.star (.sl e 1 v xs.length vs) (.starL (List.zipWith One vs xs)))
def rowsR (v : Value) (xss : List (List Int)) : Asn := .list 27 intsR v xss

section
variable {w0 w w' : World} {As R : List Asn} {α : Type} {e : TypeId} {One : Value → α → Asn} {v : Value} {xs : List α}

theorem sl_rd {w : World} {F : List Nat} {e : TypeId} {sz n : Nat} {v : Value} {cs : List Value} (h : (Asn.sl e sz v n cs).on w F) : Rd w sz v n cs := by
  obtain ⟨ho, _⟩ := h
  refine ⟨ho.1, ?_⟩
  rcases ho.2 with ⟨rfl, rfl⟩ | ⟨g, cap, cur, rfl, _, hg, hc, hm, _⟩
  · exact ⟨none, 0, rfl, Nat.le_refl _, by simp [maxLen], fun h => absurd h (Nat.lt_irrefl _)⟩
  · exact ⟨_, cap, rfl, hc, hm, fun _ => ⟨_, rfl, lt_of_heap hg, ho.cells (g := g) rfl⟩⟩
theorem intsR_at {w : World} {F : List Nat} {v : Value} {xs : List Int} (h : (intsR v xs).on w F) : IntsAt w v xs := sl_rd h
theorem boolsR_at {w : World} {F : List Nat} {v : Value} {xs : List Bool} (h : (boolsR v xs).on w F) : BoolsAt w v xs := sl_rd h
theorem starL_get {w : World} : ∀ {As : List Asn} {F : List Nat} {k : Nat} {A : Asn}, (Asn.starL As).on w F → As[k]? = some A → ∃ G, A.on w G
  | [], _, _, _, _, h => by simp at h
  | B :: As, F, 0, A, hf, h => by
    obtain ⟨_, F1, F2, _, h1, _⟩ := hf
    simp at h
    subst h
    exact ⟨F1, h1⟩
  | B :: As, F, k + 1, A, hf, h => by
    obtain ⟨_, F1, F2, _, _, h2⟩ := hf
    exact starL_get h2 (by simpa using h)
theorem list_at {w : World} {F : List Nat} {At : World → Value → α → Prop} (hone : ∀ u x G, (One u x).on w G → At w u x) (h : (Asn.list e One v xs).on w F) : ListAt At w v xs := by
  obtain ⟨vs, _, _, _, _, ⟨hlen, _⟩, _, F1, F2, _, h1, h2⟩ := h
  refine ⟨vs, sl_rd h1, fun k u x hu hx => ?_⟩
  obtain ⟨G, hg⟩ := starL_get h2 (k := k) (A := One u x) (by rw [List.getElem?_zipWith, hu, hx])
  exact hone u x G hg
theorem rowsR_at {w : World} {F : List Nat} {v : Value} {xss : List (List Int)} (h : (rowsR v xss).on w F) : RowsAt w v xss := list_at (fun _ _ _ => intsR_at) h

theorem Sep.ints (i : Nat) {v : Value} {xs : List Int} (h : Sep w0 w As) (hi : As[i]? = some (intsR v xs)) : IntsAt w v xs := by
  obtain ⟨F, ho, _⟩ := h.get i hi
  exact intsR_at ho
theorem Sep.bools (i : Nat) {v : Value} {xs : List Bool} (h : Sep w0 w As) (hi : As[i]? = some (boolsR v xs)) : BoolsAt w v xs := by
  obtain ⟨F, ho, _⟩ := h.get i hi
  exact boolsR_at ho
theorem Sep.rows (i : Nat) {v : Value} {xss : List (List Int)} (h : Sep w0 w As) (hi : As[i]? = some (rowsR v xss)) : RowsAt w v xss := by
  obtain ⟨F, ho, _⟩ := h.get i hi
  exact rowsR_at ho

theorem Sep.list_open (h : Sep w0 w (Asn.list e One v xs :: R)) : ∃ vs : List Value, vs.length = xs.length ∧ Sep w0 w (.sl e 1 v xs.length vs :: (List.zipWith One vs xs ++ R)) := by
  obtain ⟨vs, h⟩ := h.ex_open
  obtain ⟨hl, h⟩ := h.star_open.pure_open
  have h2 := h.star_open
  exact ⟨vs, hl, (h2.perm (List.Perm.swap _ _ _)).starL_open.perm List.perm_middle⟩
theorem Sep.list_shut {vs : List Value} (hl : vs.length = xs.length) (h : Sep w0 w (.sl e 1 v xs.length vs :: (List.zipWith One vs xs ++ R))) : Sep w0 w (Asn.list e One v xs :: R) := by
  have h1 : Sep w0 w (List.zipWith One vs xs ++ (.sl e 1 v xs.length vs :: R)) := h.perm List.perm_middle.symm
  have h2 := (h1.starL_shut.perm (List.Perm.swap _ _ _)).star_shut
  exact Sep.ex_shut vs (Sep.star_shut (h2.pure_shut hl))
theorem Sep.list_nil (h : Sep w0 w R) (e : TypeId) (One : Value → α → Asn) : Sep w0 w (Asn.list e One (.slice none 0 0) [] :: R) :=
  Sep.list_shut (vs := []) rfl (by simpa using h.sl_nil e 1)
/-- One more element, with the part behind it. -/
theorem Sep.list_push {vs : List Value} {u : Value} {x : α} (hl : vs.length = xs.length) (h : Sep w0 w (.sl e 1 v (xs.length + 1) (vs ++ [u]) :: (List.zipWith One vs xs ++ (One u x :: R)))) :
    Sep w0 w (Asn.list e One v (xs ++ [x]) :: R) := by
  refine Sep.list_shut (vs := vs ++ [u]) (by simp [hl]) ?_
  rw [List.zipWith_append hl]
  simpa using h
theorem zip_at {β : Type} {f : Value → α → β} {vs : List Value} {xs : List α} (hl : vs.length = xs.length) {k : Nat} (hk : k < xs.length) (R : List β) :
    (List.zipWith f vs xs ++ R)[k]? = some (f (vs[k]'(by omega)) xs[k]) := by
  rw [List.getElem?_append_left (by simp [hl, hk]), List.getElem?_zipWith]
  simp [hk, hl]
theorem zip_some {β : Type} {f : Value → α → β} {vs : List Value} {xs : List α} {k : Nat} {v : Value} {x : α} (hv : vs[k]? = some v) (hx : xs[k]? = some x) : (List.zipWith f vs xs)[k]? = some (f v x) := by
  rw [List.getElem?_zipWith, hv, hx]
theorem zip_set {β : Type} {f : Value → α → β} : ∀ (vs : List Value) (xs : List α) (k : Nat) (u : Value) (x : α), List.zipWith f (vs.set k u) (xs.set k x) = (List.zipWith f vs xs).set k (f u x)
  | [], _, _, _, _ => by simp
  | _ :: _, [], _, _, _ => by simp
  | _ :: _, _ :: _, 0, _, _ => by simp
  | a :: vs, b :: xs, k + 1, u, x => by simp [zip_set vs xs k u x]
/-- One element is turned, its part too. -/
theorem Sep.list_set {vs : List Value} {u : Value} {x : α} {k : Nat} (hl : vs.length = xs.length) (hk : k < xs.length) (h : Sep w0 w (.sl e 1 v xs.length (vs.set k u) :: (List.zipWith One vs xs ++ R).set k (One u x))) :
    Sep w0 w (Asn.list e One v (xs.set k x) :: R) := by
  refine Sep.list_shut (vs := vs.set k u) (by simp [hl]) ?_
  rw [List.set_append_left _ _ (by simp [hl, hk])] at h
  rw [zip_set]
  simpa using h

theorem intsR_nil (h : Sep w0 w R) : Sep w0 w (intsR (.slice none 0 0) [] :: R) := h.sl_nil _ _
theorem boolsR_nil (h : Sep w0 w R) : Sep w0 w (boolsR (.slice none 0 0) [] :: R) := h.sl_nil _ _
theorem Sep.snoc_sl_nil (h : Sep w0 w As) (e : TypeId) (sz : Nat) : Sep w0 w (As ++ [.sl e sz (.slice none 0 0) 0 []]) := (h.sl_nil e sz).perm (List.perm_append_singleton _ _).symm
/-- So many rows that are nil. -/
theorem Sep.nils (h : Sep w0 w As) (m : Nat) : Sep w0 w (As ++ List.zipWith intsR (List.replicate m (.slice none 0 0)) (List.replicate m [])) := by
  induction m with
  | zero => simpa using h
  | succ m ih =>
    have h1 := ih.snoc_sl_nil 3 1
    rw [List.append_assoc] at h1
    have e : List.zipWith intsR (List.replicate (m + 1) (.slice none 0 0)) (List.replicate (m + 1) []) = List.zipWith intsR (List.replicate m (.slice none 0 0)) (List.replicate m []) ++ [.sl 3 1 (.slice none 0 0) 0 []] := by
      rw [List.replicate_succ', List.replicate_succ', List.zipWith_append (by simp)]
      rfl
    rw [e]
    exact h1
end
end Go.Proofs.YtahkpkaodeeemaaGreat
