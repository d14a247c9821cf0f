/- Telling the components: who is ready, who waits. No program in sight. -/
import Derived.Test.YtahkpkaodeeemaaGreatComps
namespace Go.Proofs.YtahkpkaodeeemaaGreat
set_option linter.unusedVariables false

section
variable {xss : List (List Int)} {of : Nat → Int} {count : Nat} {T : List Nat}

def waitOf (xss : List (List Int)) (of : Nat → Int) (count : Nat) (T : List Nat) (x : Nat) : Nat := cntB count fun d => needB xss of x d && !T.contains d
theorem waitOf_le (x : Nat) : waitOf xss of count T x ≤ count := cntB_le _ _
theorem waitOf_zero {x : Nat} : waitOf xss of count T x = 0 ↔ ∀ d, d < count → needB xss of x d = true → d ∈ T := by
  constructor
  · intro h d hd hn
    have := cntB_zero h hd
    simpa [hn] using this
  · intro h
    rw [waitOf, cntB_congr (h' := fun _ => false), cntB_false]
    intro d hd
    cases e : needB xss of x d with
    | false => simp
    | true => simp [h d hd e]
theorem waitOf_nil (x : Nat) (hx : x < count) : waitTo xss of count count (fun _ => false) x = (waitOf xss of count [] x : Int) := by
  simp [waitTo, hx, waitOf]
theorem waitOf_snoc {c0 x : Nat} (hc : c0 < count) (h0 : c0 ∉ T) : waitOf xss of count T x = waitOf xss of count (T ++ [c0]) x + if needB xss of x c0 = true then 1 else 0 := by
  unfold waitOf
  by_cases h : needB xss of x c0 = true
  · rw [if_pos h, ← cntB_add count (fun d => needB xss of x d && !(T ++ [c0]).contains d) c0 hc (by simp)]
    apply cntB_congr
    intro d _
    by_cases e : d = c0
    · subst e; simp [h, h0]
    · simp [e]
  · rw [if_neg h, Nat.add_zero]
    apply cntB_congr
    intro d _
    by_cases e : d = c0
    · subst e
      have : needB xss of x d = false := by simpa using h
      simp [this]
    · simp [e]
/-- Who needs something of c. -/
def usersL (xss : List (List Int)) (of : Nat → Int) (count c : Nat) : List Nat := (List.range count).filter fun x => needB xss of x c
theorem usersL_nodup (c : Nat) : (usersL xss of count c).Nodup := List.nodup_range.sublist List.filter_sublist
theorem usersL_iff {c x : Nat} : x ∈ usersL xss of count c ↔ x < count ∧ needB xss of x c = true := by simp [usersL]
theorem usersL_len (c : Nat) : (usersL xss of count c).length ≤ count := by
  have := List.length_filter_le (fun x => needB xss of x c) (List.range count)
  simpa [usersL] using this
theorem usersTo_done {d : Nat} (hd : d < count) : (usersTo xss of count count (fun _ => false))[d]? = some ((usersL xss of count d).map fun (v : Nat) => (v : Int)) := by
  rw [usersTo_some hd]
  simp [usersL]
/-- Who waits for how many, when the first j users of c0 are told that it is told. -/
def waitJ (xss : List (List Int)) (of : Nat → Int) (count : Nat) (T : List Nat) (c0 j : Nat) : Nat → Int := fun x => (waitOf xss of count T x : Int) - if x ∈ (usersL xss of count c0).take j then 1 else 0
theorem waitJ_zero (c0 : Nat) : waitJ xss of count T c0 0 = fun x => (waitOf xss of count T x : Int) := by
  funext x
  simp [waitJ]
theorem waitJ_at {c0 j x : Nat} (h : (usersL xss of count c0)[j]? = some x) : waitJ xss of count T c0 j x = waitOf xss of count T x := by
  have hn := usersL_nodup (xss := xss) (of := of) (count := count) c0
  have : x ∉ (usersL xss of count c0).take j := by
    intro hm
    obtain ⟨i, hi, e⟩ := List.getElem_of_mem hm
    rw [List.length_take] at hi
    rw [List.getElem_take] at e
    obtain ⟨hj, ej⟩ := List.getElem?_eq_some_iff.1 h
    have := (List.getElem_inj hn).1 (e.trans ej.symm)
    omega
  simp [waitJ, this]
theorem waitJ_step {c0 j x : Nat} (h : (usersL xss of count c0)[j]? = some x) : Tarjan.upd (waitJ xss of count T c0 j) x ((waitOf xss of count T x : Int) - 1) = waitJ xss of count T c0 (j + 1) := by
  funext y
  simp only [Tarjan.upd, waitJ, List.take_add_one, h]
  by_cases e : y = x
  · subst e; simp
  · simp [e]
theorem waitJ_all {c0 : Nat} (hc : c0 < count) (h0 : c0 ∉ T) {x : Nat} (hx : x < count) : waitJ xss of count T c0 (usersL xss of count c0).length x = (waitOf xss of count (T ++ [c0]) x : Int) := by
  simp only [waitJ, List.take_length, usersL_iff]
  have h := waitOf_snoc (xss := xss) (of := of) (x := x) hc h0
  by_cases e : needB xss of x c0 = true
  · rw [if_pos e] at h
    rw [if_pos ⟨hx, e⟩]
    omega
  · rw [if_neg e] at h
    rw [if_neg fun h => e h.2]
    omega

def Rdy (xss : List (List Int)) (of : Nat → Int) (count : Nat) (T : List Nat) (c : Nat) : Prop := c ∉ T ∧ waitOf xss of count T c = 0
/-- The best of the first k components. -/
def BestTo (xss : List (List Int)) (of : Nat → Int) (count : Nat) (T : List Nat) (k : Nat) (b : Int) : Prop :=
  (b = -1 ∧ ∀ c, c < k → ¬ Rdy xss of count T c) ∨
  ∃ c0 : Nat, b = c0 ∧ c0 < count ∧ Rdy xss of count T c0 ∧ ∀ c, c < k → Rdy xss of count T c → fst' xss.length of c0 ≤ fst' xss.length of c
theorem BestTo.zero : BestTo xss of count T 0 (-1) := .inl ⟨rfl, fun c hc => by omega⟩
theorem BestTo.skip {k : Nat} {b : Int} (h : BestTo xss of count T k b) (hn : ¬ Rdy xss of count T k) : BestTo xss of count T (k + 1) b := by
  have key : ∀ c, c < k + 1 → Rdy xss of count T c → c < k := by
    intro c hc hr
    apply Classical.byContradiction
    intro hck
    obtain rfl : c = k := by omega
    exact hn hr
  rcases h with ⟨e, h⟩ | ⟨c0, e, h1, h2, h3⟩
  · exact .inl ⟨e, fun c hc hr => h c (key c hc hr) hr⟩
  · exact .inr ⟨c0, e, h1, h2, fun c hc hr => h3 c (key c hc hr) hr⟩
theorem BestTo.first {k : Nat} (h : BestTo xss of count T k (-1)) (hk : k < count) (hr : Rdy xss of count T k) : BestTo xss of count T (k + 1) (k : Int) := by
  rcases h with ⟨e, h⟩ | ⟨c0, e, h1, h2, h3⟩
  · refine .inr ⟨k, rfl, hk, hr, fun c hc hrc => ?_⟩
    by_cases e : c = k
    · subst e; exact Nat.le_refl _
    · exact absurd hrc (h c (by omega))
  · omega
theorem BestTo.keep {k c0 : Nat} (h : BestTo xss of count T k (c0 : Int)) (hle : fst' xss.length of c0 ≤ fst' xss.length of k) : BestTo xss of count T (k + 1) (c0 : Int) := by
  rcases h with ⟨e, h⟩ | ⟨c1, e, h1, h2, h3⟩
  · omega
  · obtain rfl : c0 = c1 := by omega
    refine .inr ⟨c0, rfl, h1, h2, fun c hc hrc => ?_⟩
    by_cases e : c = k
    · subst e; exact hle
    · exact h3 c (by omega) hrc
theorem BestTo.take {k c0 : Nat} (h : BestTo xss of count T k (c0 : Int)) (hk : k < count) (hr : Rdy xss of count T k) (hlt : fst' xss.length of k < fst' xss.length of c0) : BestTo xss of count T (k + 1) (k : Int) := by
  rcases h with ⟨e, h⟩ | ⟨c1, e, h1, h2, h3⟩
  · omega
  · obtain rfl : c0 = c1 := by omega
    refine .inr ⟨k, rfl, hk, hr, fun c hc hrc => ?_⟩
    by_cases e : c = k
    · subst e; exact Nat.le_refl _
    · have := h3 c (by omega) hrc; omega
theorem BestTo.form {k : Nat} {b : Int} (h : BestTo xss of count T k b) : b = -1 ∨ ∃ c0 : Nat, b = c0 ∧ c0 < count := by
  rcases h with ⟨e, h⟩ | ⟨c1, e, h1, h2, h3⟩
  · exact .inl e
  · exact .inr ⟨c1, e, h1⟩

/-- What holds of the components that are told. -/
structure Tells (xss : List (List Int)) (of : Nat → Int) (count : Nat) (T : List Nat) : Prop where
  nodup : T.Nodup
  lt : ∀ c, c ∈ T → c < count
  pre : Pre xss (repOf xss of) (T.map (fst' xss.length of))
theorem Tells.nil : Tells xss of count [] := ⟨List.nodup_nil, fun _ h => (List.not_mem_nil h).elim, .nil⟩
theorem BestTo.done (hx : refused xss = 0) (hg : Good xss of count) (hT : Tells xss of count T) (hl : T.length < count) {b : Int} (h : BestTo xss of count T count b) :
    ∃ c0 : Nat, b = c0 ∧ c0 < count ∧ c0 ∉ T ∧ Tells xss of count (T ++ [c0]) := by
  rcases h with ⟨e, h⟩ | ⟨c1, e, h1, h2, h3⟩
  · have : ∃ c, c < count ∧ c ∉ T := by
      apply Classical.byContradiction
      intro hno
      have h1 : (List.range count).length ≤ T.length := by
        refine List.Nodup.length_le_of_subset List.nodup_range fun x hx => ?_
        apply Classical.byContradiction
        intro hxT
        exact hno ⟨x, List.mem_range.1 hx, hxT⟩
      simp only [List.length_range] at h1
      omega
    obtain ⟨b', hb1, hb2, hb3⟩ := hg.exists_ready hx this
    exact absurd ⟨hb2, waitOf_zero.2 hb3⟩ (h b' hb1)
  · refine ⟨c1, e, h1, h2.1, ?_, ?_, ?_⟩
    · rw [List.nodup_append]
      refine ⟨hT.nodup, by simp, ?_⟩
      intro a ha c hc e
      simp only [List.mem_singleton] at hc
      exact h2.1 (hc ▸ e ▸ ha)
    · intro c hc
      rcases List.mem_append.1 hc with hc | hc
      · exact hT.lt c hc
      · simp only [List.mem_singleton] at hc; subst hc; exact h1
    · exact hg.tell hx hT.lt hT.pre h1 h2.1 (waitOf_zero.1 h2.2) fun c hc hcT hr => h3 c hc ⟨hcT, waitOf_zero.2 hr⟩
theorem Tells.perm (hT : Tells xss of count T) (hl : T.length = count) : T.Perm (List.range count) := by
  have hfull := full_of_nodup hT.nodup hT.lt hl
  exact (List.perm_ext_iff_of_nodup hT.nodup List.nodup_range).2 fun c => ⟨fun h => List.mem_range.2 (hT.lt c h), fun h => hfull c (List.mem_range.1 h)⟩
theorem Tells.told (hg : Good xss of count) (hT : Tells xss of count T) (hl : T.length = count) : Told xss (repOf xss of) (T.map (fst' xss.length of)) :=
  hg.told hT.lt hT.pre (full_of_nodup hT.nodup hT.lt hl)
theorem Tells.rows (hg : Good xss of count) (hT : Tells xss of count T) : T.map (fun c => (cls xss.length of c).map fun (v : Nat) => (v : Int)) = (T.map (fst' xss.length of)).map fun i => (mem xss.length (repOf xss of) i).map fun (v : Nat) => (v : Int) := by
  rw [List.map_map]
  apply List.map_congr_left
  intro c hc
  simp only [Function.comp_apply]
  rw [hg.mem_eq (hT.lt c hc)]
end
end Go.Proofs.YtahkpkaodeeemaaGreat
