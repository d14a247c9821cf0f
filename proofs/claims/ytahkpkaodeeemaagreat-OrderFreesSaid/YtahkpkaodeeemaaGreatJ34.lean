/- QueuePlain, laid together. -/
import Derived.Test.YtahkpkaodeeemaaGreatJ33
namespace Go.Proofs.YtahkpkaodeeemaaGreat
set_option linter.unusedVariables false

/-- The users of a number that is done wait for one less. None: a number out of bounds, or one that comes into the queue in its middle. -/
def decQ : List Int → List Int → List Int → Option (List Int × List Int)
  | [], w, r => some (w, r)
  | k :: ks, w, r =>
    if 0 ≤ k ∧ k.toNat < w.length ∧ 1 ≤ w.getD k.toNat 0 ∧ w.getD k.toNat 0 ≤ 1048576 ∧ k ≤ 1048576 then
      if w.getD k.toNat 0 = 1 then (if (∀ y ∈ r, 0 ≤ y ∧ y < k) ∧ r.length ≤ 1000 then decQ ks (w.set k.toNat 0) (r ++ [k]) else none)
      else decQ ks (w.set k.toNat (w.getD k.toNat 0 - 1)) r
    else none
def runQ : Nat → List (List Int) → List Int → List Int → List Int → Option (List Int)
  | _, _, _, [], out => some out
  | 0, _, _, _ :: _, _ => none
  | f + 1, us, w, i :: r, out =>
    if 0 ≤ i ∧ i.toNat < us.length ∧ (us.getD i.toNat []).length ≤ 1048576 ∧ out.length ≤ 1000 ∧ r.length ≤ 1000 then
      match decQ (us.getD i.toNat []) w r with
      | none => none
      | some s => runQ f us s.1 s.2 (out ++ [i])
    else none
/-- Each number of the list is used by i. -/
def addU (i : Int) : List Int → List (List Int) → List (List Int)
  | [], us => us
  | k :: ks, us => addU i ks (us.set k.toNat (us.getD k.toNat [] ++ [i]))
def usersQ (xss : List (List Int)) : Nat → List (List Int)
  | 0 => List.replicate xss.length []
  | i + 1 => addU i (normL (xss.getD i [])) (usersQ xss i)
def waitQ (xss : List (List Int)) (i : Nat) : List Int := (List.range xss.length).map fun j => if j < i then ((normL (xss.getD j [])).length : Int) else 0
def readyQ (xss : List (List Int)) : Nat → List Int
  | 0 => []
  | i + 1 => if (normL (xss.getD i [])).length = 0 then readyQ xss i ++ [(i : Int)] else readyQ xss i
def orderQ (xss : List (List Int)) : Option (List Int) := runQ xss.length (usersQ xss xss.length) (waitQ xss xss.length) (readyQ xss xss.length) []

theorem addU_len (i : Int) (ks : List Int) (us : List (List Int)) : (addU i ks us).length = us.length := by
  induction ks generalizing us with
  | nil => rfl
  | cons k ks ih => unfold addU; rw [ih, List.length_set]
theorem usersQ_len (xss : List (List Int)) (i : Nat) : (usersQ xss i).length = xss.length := by
  induction i with
  | zero => simp [usersQ]
  | succ i ih => unfold usersQ; rw [addU_len, ih]
theorem waitQ_len (xss : List (List Int)) (i : Nat) : (waitQ xss i).length = xss.length := by simp [waitQ]
theorem waitQ_set {xss : List (List Int)} {i : Nat} (hi : i < xss.length) : (waitQ xss i).set i ((normL (xss.getD i [])).length : Int) = waitQ xss (i + 1) := by
  apply List.ext_getElem
  · simp [waitQ]
  · intro j h1 h2
    rw [List.getElem_set]
    by_cases e : i = j
    · subst e
      simp [waitQ]
    · have e2 : j < i + 1 ↔ j < i := by omega
      simp [waitQ, e, e2]
theorem readyQ_lt (xss : List (List Int)) (i : Nat) : ∀ y ∈ readyQ xss i, 0 ≤ y ∧ y < (i : Int) := by
  induction i with
  | zero => simp [readyQ]
  | succ i ih =>
    intro y hy
    unfold readyQ at hy
    split at hy
    · rcases List.mem_append.1 hy with hy | hy
      · have := ih y hy; omega
      · rw [List.mem_singleton] at hy; omega
    · have := ih y hy; omega
theorem readyQ_len (xss : List (List Int)) (i : Nat) : (readyQ xss i).length ≤ i := by
  induction i with
  | zero => simp [readyQ]
  | succ i ih =>
    unfold readyQ
    split
    · rw [List.length_append]; simp; omega
    · omega

/-! Without needs: by numbers. -/
theorem normL_nil : normL [] = [] := normL_self (by simp)
section
variable {n : Nat}
theorem none_at (i : Nat) : (List.replicate n ([] : List Int)).getD i [] = [] := by
  rw [List.getD_eq_getElem?_getD, List.getElem?_replicate]
  split <;> rfl
theorem none_users (i : Nat) : usersQ (List.replicate n []) i = List.replicate n [] := by
  induction i with
  | zero => simp [usersQ]
  | succ i ih =>
    unfold usersQ
    rw [none_at, normL_nil]
    exact ih
theorem none_ready (i : Nat) : readyQ (List.replicate n []) i = (List.range i).map fun (v : Nat) => (v : Int) := by
  induction i with
  | zero => rfl
  | succ i ih =>
    unfold readyQ
    rw [none_at, normL_nil, List.length_nil, if_pos rfl, ih, List.range_succ, List.map_append]
    rfl
theorem run_none (us : List (List Int)) (hus : ∀ l ∈ us, l = []) (w : List Int) : ∀ (r : List Int) (f : Nat) (out : List Int), r.length ≤ f → (∀ y ∈ r, 0 ≤ y ∧ y.toNat < us.length) → out.length + r.length ≤ 1000 → runQ f us w r out = some (out ++ r)
  | [], f, out, _, _, _ => by cases f <;> simp [runQ]
  | i :: r, 0, out, h, _, _ => by simp at h
  | i :: r, f + 1, out, h, hb, hl => by
    have hi := hb i (by simp)
    have hu : us.getD i.toNat [] = [] := by
      rw [List.getD_eq_getElem?_getD, List.getElem?_eq_getElem hi.2]
      exact hus _ (List.getElem_mem _)
    simp only [List.length_cons] at h hl
    unfold runQ
    rw [hu, if_pos ⟨hi.1, hi.2, by simp, by omega, by omega⟩]
    simp only [decQ]
    rw [run_none us hus w r f (out ++ [i]) (by omega) (fun y hy => hb y (by simp [hy])) (by rw [List.length_append]; simp; omega)]
    simp
theorem order_none (hn : n ≤ 1000) : orderQ (List.replicate n []) = some ((List.range n).map fun (v : Nat) => (v : Int)) := by
  unfold orderQ
  rw [List.length_replicate, none_users, none_ready]
  refine run_none _ (fun l hl => (List.mem_replicate.1 hl).2) _ _ _ _ (by simp) (fun y hy => ?_) (by simpa using hn)
  obtain ⟨v, hv, rfl⟩ := List.mem_map.1 hy
  rw [List.mem_range] at hv
  rw [List.length_replicate]
  omega
end
end Go.Proofs.YtahkpkaodeeemaaGreat
