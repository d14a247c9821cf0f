/- BreakPlain, RefBreak3, laid together. -/
import Derived.Test.YtioonfceamgpmaaGreatDoorJ20
import Derived.Test.YtioonfceamgpmaaGreatDoorJ25
import Derived.Test.YtioonfceamgpmaaGreatDoorJ21
import Derived.Test.YtioonfceamgpmaaGreatDoorJ23
namespace Go.Proofs.YtioonfceamgpmaaGreatDoor
set_option linter.unusedVariables false

structure Broken where
  acts : List Ins
  needs : List (List Int)
  cuts : Int
  err : Int

/-- The number that the first place names. -/
def placeR (ns : List Int) (j : Int) : Nat := (ns.getD j.toNat 0).toNat
def insZ : Ins := ⟨0, ⟨#[]⟩, ⟨#[]⟩, 0, 0⟩
def cutNext (acts : List Ins) (xss : List (List Int)) (k r : Nat) : List (List Int) := mendTo (cutActs acts (acts.getD r insZ) k r) (acts.getD r insZ).to r xss.length (cutRows xss r (xss.getD r [])) xss.length
/-- Cut by cut, at most so many. -/
noncomputable def breakP : Nat → List Ins → List (List Int) → Nat → Broken
  | 0, acts, xss, k => ⟨acts, xss, k, 0⟩
  | f + 1, acts, xss, k => match roundRows xss with
    | [] => ⟨acts, xss, k, 0⟩
    | ns :: _ => if firstL acts ns < 0 then ⟨[], [], 0, 33⟩
      else breakP f (cutActs acts (acts.getD (placeR ns (firstL acts ns)) insZ) k (placeR ns (firstL acts ns))) (cutNext acts xss k (placeR ns (firstL acts ns))) (k + 1)
noncomputable def breakT (acts : List Ins) (xss : List (List Int)) : Broken :=
  if refused xss ≠ 0 then ⟨[], [], 0, refused xss⟩ else if xss.length ≠ acts.length then ⟨[], [], 0, 1⟩ else breakP (acts.length + 1) acts (xss.map normL) 0

/-! Facts. -/
theorem okay_refused {xss : List (List Int)} (h : Okay xss) (hl : xss.length ≤ 1024) : refused xss = 0 := by
  refine refused_none hl (fun j hj => ?_) (fun j hj i hi => ?_)
  · have := h.len (List.getElem_mem hj); omega
  · exact (h _ (List.getElem_mem hj)).2 _ (List.getElem_mem hi)

theorem findL_bad {q : Int → Bool} {l : List Int} {k : Nat} (h : findL q l k < 0) : ∀ y ∈ l, q y = false := by
  induction l generalizing k with
  | nil => simp
  | cons y l ih =>
    unfold findL at h
    split at h
    · omega
    · rename_i hy
      intro z hz
      rcases List.mem_cons.1 hz with rfl | hz
      · simpa using hy
      · exact ih h z hz
theorem findL_good {q : Int → Bool} {l : List Int} {k : Nat} (h : 0 ≤ findL q l k) : ∃ j : Nat, findL q l k = ((k + j : Nat) : Int) ∧ j < l.length ∧ q (l.getD j 0) = true := by
  induction l generalizing k with
  | nil => unfold findL at h; omega
  | cons y l ih =>
    unfold findL at h ⊢
    split at h
    · rename_i hy
      exact ⟨0, by rw [if_pos hy]; simp, by simp, by simpa using hy⟩
    · rename_i hy
      rw [if_neg hy]
      obtain ⟨j, h1, h2, h3⟩ := ih h
      exact ⟨j + 1, by rw [h1]; congr 1; omega, by simp; omega, by simpa using h3⟩

/-- What a component that goes round says of its numbers. -/
theorem round_mem {xss : List (List Int)} (hx : refused xss = 0) {ns : List Int} (h : ns ∈ roundRows xss) {y : Int} (hy : y ∈ ns) : ∃ r : Nat, y = (r : Int) ∧ r < xss.length ∧ adjOf xss r ≠ [] := by
  rw [roundRows_ok hx, round_rows] at h
  obtain ⟨i, hi, rfl⟩ := List.mem_map.1 h
  obtain ⟨r, hr, rfl⟩ := List.mem_map.1 hy
  obtain ⟨h1, h2⟩ := mem_iff.1 hr
  obtain ⟨i1, i2, i3⟩ := roundL_iff.1 hi
  refine ⟨r, rfl, h1, fun he => ?_⟩
  by_cases e : r = i
  · subst e
    obtain ⟨u, hu, _⟩ := i3
    rw [he] at hu
    cases hu
  · have hm := ((partsRep_isRep xss).iff h1 i1).1 (by rw [h2, i2])
    cases hm.1 with
    | refl => exact e rfl
    | step h3 _ => rw [he] at h3; cases h3

def cutable (acts : List Ins) (xss : List (List Int)) (i : Nat) : Bool := cutsX (acts.getD i insZ) && !(xss.getD i []).isEmpty
/-- How many can still be cut. -/
def potB (acts : List Ins) (xss : List (List Int)) : Nat := ((List.range acts.length).filter (cutable acts xss)).length

theorem temp_kept {k : Nat} (hk : k < 100) : keptL (tempS k).data.toList = true := by
  have h : ∀ k, k < 100 → keptL (tempS k).data.toList = true := by decide +kernel
  exact h k hk
theorem temp_size {k : Nat} (hk : k < 100) : (tempS k).size ≤ 100 := by
  have h : ∀ k, k < 100 → (tempS k).size ≤ 100 := by decide +kernel
  exact h k hk

theorem cutActs_len {acts : List Ins} {x : Ins} {k r : Nat} : (cutActs acts x k r).length = acts.length + 1 := by simp [cutActs]
theorem cutRows_len2 {xss : List (List Int)} {r : Nat} {l : List Int} : (cutRows xss r l).length = xss.length + 1 := by simp [cutRows]
theorem cutNext_len {acts : List Ins} {xss : List (List Int)} {k r : Nat} : (cutNext acts xss k r).length = xss.length + 1 := by rw [cutNext, mendTo_len, cutRows_len2]

theorem cutable_next {acts : List Ins} {xss : List (List Int)} {k r : Nat} (hl : xss.length = acts.length) (hr : r < acts.length) (hk : k < 100) {i : Nat} (hi : i < acts.length + 1)
    (h : cutable (cutActs acts (acts.getD r insZ) k r) (cutNext acts xss k r) i = true) : i ≠ r ∧ i < acts.length ∧ cutable acts xss i = true := by
  unfold cutable at h
  rw [Bool.and_eq_true, Bool.not_eq_true'] at h
  obtain ⟨h1, h2⟩ := h
  obtain ⟨l, hl1⟩ : ∃ l, (cutNext acts xss k r)[i]? = some l := ⟨_, List.getElem?_eq_getElem (by rw [cutNext_len]; omega)⟩
  have h2' : l ≠ [] := by
    intro e
    rw [List.getD_eq_getElem?_getD, hl1, e] at h2
    simp at h2
  obtain ⟨m, hm, hlm⟩ := mendTo_row _ hl1
  have hm' : m ≠ [] := by
    rcases hlm with e | ⟨_, e⟩
    · rwa [← e]
    · intro e'
      rw [e'] at e
      cases e
  have hir : i ≠ r := by
    intro e
    subst e
    unfold cutRows at hm
    rw [List.getElem?_set_self (by simp; omega)] at hm
    simp at hm
    exact hm' (by first | exact hm | exact hm.symm)
  unfold cutRows at hm
  rw [List.getElem?_set_ne (Ne.symm hir)] at hm
  unfold cutActs at h1
  rw [List.getD_eq_getElem?_getD, List.getElem?_set_ne (Ne.symm hir)] at h1
  rcases Nat.lt_or_ge i acts.length with hlt | hge
  · refine ⟨hir, hlt, ?_⟩
    rw [List.getElem?_append_left hlt] at h1
    rw [List.getElem?_append_left (by omega)] at hm
    unfold cutable
    rw [List.getD_eq_getElem?_getD, List.getD_eq_getElem?_getD, h1, hm]
    simpa using hm'
  · exfalso
    obtain rfl : i = acts.length := by omega
    rw [List.getElem?_append_right (by omega), Nat.sub_self] at h1
    simp [cutsX, temp_kept hk] at h1

theorem pot_next {acts : List Ins} {xss : List (List Int)} {k r : Nat} (hl : xss.length = acts.length) (hr : r < acts.length) (hk : k < 100) (hc : cutable acts xss r = true) :
    potB (cutActs acts (acts.getD r insZ) k r) (cutNext acts xss k r) + 1 ≤ potB acts xss := by
  unfold potB
  rw [cutActs_len]
  have hm : r ∈ (List.range acts.length).filter (cutable acts xss) := List.mem_filter.2 ⟨List.mem_range.2 hr, hc⟩
  have hn : ((List.range (acts.length + 1)).filter (cutable (cutActs acts (acts.getD r insZ) k r) (cutNext acts xss k r))).Nodup := List.nodup_range.sublist List.filter_sublist
  have hsub : (List.range (acts.length + 1)).filter (cutable (cutActs acts (acts.getD r insZ) k r) (cutNext acts xss k r)) ⊆ ((List.range acts.length).filter (cutable acts xss)).erase r := by
    intro i hi
    obtain ⟨h1, h2⟩ := List.mem_filter.1 hi
    obtain ⟨a1, a2, a3⟩ := cutable_next hl hr hk (List.mem_range.1 h1) h2
    exact (List.mem_erase_of_ne a1).2 (List.mem_filter.2 ⟨List.mem_range.2 a2, a3⟩)
  have h1 := List.Nodup.length_le_of_subset hn hsub
  rw [List.length_erase_of_mem hm] at h1
  have h2 : 0 < ((List.range acts.length).filter (cutable acts xss)).length := List.length_pos_of_mem hm
  omega

/-- What holds ahead of each cut. -/
structure BInv (acts : List Ins) (xss : List (List Int)) (k : Nat) : Prop where
  len : xss.length = acts.length
  ok : Okay xss
  small : acts.length ≤ 50 + k
  pot : k + potB acts xss ≤ 50
  path : ∀ x ∈ acts, x.path.size ≤ 4611686018427387904

theorem BInv.next {acts : List Ins} {xss : List (List Int)} {k r : Nat} (h : BInv acts xss k) (hr : r < acts.length) (hc : cutable acts xss r = true) : k < 100 ∧ BInv (cutActs acts (acts.getD r insZ) k r) (cutNext acts xss k r) (k + 1) := by
  have hk : k < 100 := by have := h.pot; omega
  have hp := pot_next h.len hr hk hc
  refine ⟨hk, ?_, ?_, ?_, ?_, ?_⟩
  · rw [cutNext_len, cutActs_len, h.len]
  · unfold cutNext
    have hl : xss[r]? = some (xss.getD r []) := by
      rw [List.getD_eq_getElem?_getD, List.getElem?_eq_getElem (by rw [h.len]; exact hr)]
      rfl
    exact cut_okay h.ok hl _
  · rw [cutActs_len]; have := h.small; omega
  · have := h.pot; omega
  · intro x hx
    unfold cutActs at hx
    rcases List.mem_or_eq_of_mem_set hx with hx | rfl
    · rcases List.mem_append.1 hx with hx | hx
      · exact h.path x hx
      · rw [List.mem_singleton] at hx
        subst hx
        have := temp_size hk
        show (tempS k).size ≤ _
        omega
    · show (acts.getD r insZ).path.size ≤ _
      rw [List.getD_eq_getElem?_getD, List.getElem?_eq_getElem hr]
      exact h.path _ (List.getElem_mem hr)
theorem potB_le (acts : List Ins) (xss : List (List Int)) : potB acts xss ≤ acts.length := by
  unfold potB
  have := List.length_filter_le (cutable acts xss) (List.range acts.length)
  simpa using this

/-- The number that first names can be cut. -/
theorem place_good {acts : List Ins} {xss : List (List Int)} {k : Nat} (h : BInv acts xss k) {ns : List Int} (hn : ns ∈ roundRows xss) (hf : 0 ≤ firstL acts ns) :
    ∃ j r : Nat, firstL acts ns = (j : Int) ∧ ns[j]? = some (r : Int) ∧ placeR ns (firstL acts ns) = r ∧ r < acts.length ∧ cutable acts xss r = true := by
  have hx : refused xss = 0 := okay_refused h.ok (by have := h.len; have := h.small; have := h.pot; omega)
  obtain ⟨j, h1, h2, h3⟩ := findL_good hf
  rw [Nat.zero_add] at h1
  have hj : ns[j]? = some ns[j] := List.getElem?_eq_getElem h2
  obtain ⟨r, hr, hlt, hadj⟩ := round_mem hx hn (List.getElem_mem h2)
  have hg : ns.getD j 0 = (r : Int) := by rw [List.getD_eq_getElem?_getD, hj, hr]; rfl
  refine ⟨j, r, h1, by rw [hj, hr], ?_, by rw [← h.len]; exact hlt, ?_⟩
  · unfold placeR
    have h1' : firstL acts ns = (j : Int) := h1
    rw [h1']
    rw [Int.toNat_natCast, hg, Int.toNat_natCast]
  · rw [hg] at h3
    unfold cutable
    rw [Bool.and_eq_true]
    have hra : r < acts.length := by rw [← h.len]; exact hlt
    constructor
    · rw [List.getD_eq_getElem?_getD, List.getElem?_eq_getElem hra]
      simpa [hra] using h3
    · have : xss.getD r [] ≠ [] := fun e => hadj (by unfold adjOf; rw [e]; rfl)
      simpa using this
end Go.Proofs.YtioonfceamgpmaaGreatDoor

namespace Go.Proofs.YtioonfceamgpmaaGreatDoor
open Go.RowKit
set_option linter.unusedVariables false

/-- The first number that answers. -/
def pickL (q : Int → Bool) : List Int → Int
  | [] => -1
  | y :: l => if q y = true then y else pickL q l
theorem pickL_find (q : Int → Bool) (l : List Int) (k : Nat) : (findL q l k < 0 ∧ pickL q l = -1) ∨ (∃ j : Nat, findL q l k = ((k + j : Nat) : Int) ∧ j < l.length ∧ pickL q l = l.getD j 0) := by
  induction l generalizing k with
  | nil => exact .inl ⟨by simp [findL], rfl⟩
  | cons y l ih =>
    unfold findL pickL
    by_cases h : q y = true
    · rw [if_pos h, if_pos h]
      exact .inr ⟨0, by simp, by simp, by simp⟩
    · rw [if_neg h, if_neg h]
      rcases ih (k + 1) with ⟨h1, h2⟩ | ⟨j, h1, h2, h3⟩
      · exact .inl ⟨h1, h2⟩
      · exact .inr ⟨j + 1, by rw [h1]; congr 1; omega, by simp; omega, by simpa using h3⟩

def cutQ (acts : List Ins) (y : Int) : Bool := cutsX (acts.getD y.toNat insZ)

set_option maxRecDepth 100000 in
set_option maxHeartbeats 4000000 in
theorem rb_find {w : World} {acts : List Ins} {ns : List Int} {more : List (List Int)} {vr : Value} {gA cA : Nat} {ac : Act} {Q : Exit → Act → World → Prop}
    (ha : ∀ W, Below w.heap.size w W → ∀ i x, acts[i]? = some x → ∀ f, f < 5 → W.cell? ⟨gA, i * 5 + f, none⟩ = x.cells[f]?) (hcA : acts.length ≤ cA) (hr : RowsAt w vr (ns :: more)) (hns : ∀ y ∈ ns, 0 ≤ y ∧ y < (acts.length : Int)) (hal : acts.length ≤ 10000) (hp : ∀ x ∈ acts, x.path.size ≤ 4611686018427387904)
    (hf : Fs 208 ac [(9, .slice (some ⟨gA, 0, none⟩) acts.length cA), (15, vr), (16, .int .i64 (-1)), (17, .int .i64 0)])
    (hQ : ∀ ac' w', ac'.tmps.toList.take 16 = ac.tmps.toList.take 16 → ac'.tmps[16]? = some (.int .i64 (pickL (cutQ acts) ns)) → (ac'.tmps.toList.drop 26).take 40 = (ac.tmps.toList.drop 26).take 40 → ac'.tmps.size = 208 → ac'.defers = [] → Below w.heap.size w w' → Q .normal ac' w') :
    (rbBlock 6).wp Tryz.prog (Exit.inBlock 6 Q) ac w := by
  obtain ⟨f, rfl, h9, h15, h16, h17, -⟩ := hf.lit
  simp only at h9 h15 h16 h17
  clear hf
  obtain ⟨ad, c', u, e, hI, hcl⟩ := hr.all (k := 0) (by simp)
  cases e
  simp only [List.getElem_cons_zero] at hI
  obtain ⟨Ar, cr, rfl, hmr⟩ := hI.shape
  unfold maxLen at hmr
  simp only [lits, Nat.reduceAdd, h9, h15, h16, h17] at hQ ⊢
  have hQ' := Lib.hid hQ
  have hns' := Lib.hid hns
  have hp' := Lib.hid hp
  have hI' := Lib.hid hI
  have ha' := Lib.hid ha
  have hcl' := Lib.hid hcl
  clear hQ h9 h15 h16 h17 hns hp hI ha hcl hr
  conv => arg 2; whnf
  go_loopw [16, 17] (fun rv iv wr => ∃ (i : Nat) (rr : Int), i ≤ ns.length ∧ iv = .int .i64 i ∧ rv = .int .i64 rr ∧ ((rr = -1 ∧ pickL (cutQ acts) ns = pickL (cutQ acts) (ns.drop i)) ∨ (0 ≤ rr ∧ pickL (cutQ acts) ns = rr)) ∧ Below w.heap.size w wr) (fun _ iv _ => ns.length - (intOf iv).toNat)
  case atStart => exact ⟨0, -1, Nat.zero_le _, rfl, rfl, .inl ⟨rfl, rfl⟩, Below.refl _ _⟩
  case round =>
    obtain ⟨i, rr, hi, rfl, rfl, hrr, hb⟩ := hrel
    have p3 : (0 : Int) ≤ (i : Int) := by omega
    have p5 : (0 : Int) < ((more.length : Int) + 1) := by omega
    have hc1 := hcl'.out _ hb
    rw [add_zero'] at hc1
    by_cases hlk : i < ns.length
    case neg =>
      obtain rfl : i = ns.length := by omega
      have hfin : pickL (cutQ acts) ns = rr := by
        rcases hrr with ⟨rfl, h2⟩ | ⟨_, h2⟩
        · rw [h2, List.drop_length]; rfl
        · exact h2
      have hfin' := Lib.hid hfin
      have hb' := Lib.hid hb
      clear hrr hfin hb
      go_wp2_with fail
      exact hQ'.out _ _ rfl (by rw [hfin'.out]; rfl) rfl rfl rfl hb'.out
    have p4 : (i : Int) < (ns.length : Int) := by omega
    by_cases hr0 : 0 ≤ rr
    · have hfin : pickL (cutQ acts) ns = rr := by
        rcases hrr with ⟨rfl, h2⟩ | ⟨_, h2⟩
        · omega
        · exact h2
      have hfin' := Lib.hid hfin
      have hb' := Lib.hid hb
      have p6 : ¬ rr < 0 := by omega
      clear hrr hfin hb
      go_wp2_with fail
      exact hQ'.out _ _ rfl (by rw [hfin'.out]; rfl) rfl rfl rfl hb'.out
    obtain ⟨rfl, hrest⟩ : rr = -1 ∧ pickL (cutQ acts) ns = pickL (cutQ acts) (ns.drop i) := by
      rcases hrr with h | ⟨h1, _⟩
      · exact h
      · exact absurd h1 hr0
    clear hrr hr0
    obtain ⟨ad2, c2, e, h3⟩ := hI'.out.all hlk
    cases e
    have h31 := h3 _ hb
    obtain ⟨y0, y1⟩ := hns'.out _ (List.getElem_mem hlk)
    have hdr : pickL (cutQ acts) (ns.drop i) = if cutQ acts ns[i] = true then ns[i] else pickL (cutQ acts) (ns.drop (i + 1)) := by
      rw [List.drop_eq_getElem_cons hlk, pickL]
    rw [hdr] at hrest
    clear hdr
    generalize ns[i] = y at h3 h31 y0 y1 hrest
    obtain ⟨j, rfl⟩ : ∃ j : Nat, y = (j : Int) := ⟨y.toNat, by omega⟩
    obtain ⟨x0, hx0⟩ : ∃ x, acts[j]? = some x := ⟨_, List.getElem?_eq_getElem (by omega)⟩
    have hxp := hp'.out x0 (List.mem_of_getElem? hx0)
    have hcq : cutQ acts (j : Int) = cutsX x0 := by
      unfold cutQ
      rw [Int.toNat_natCast, List.getD_eq_getElem?_getD, hx0]
      rfl
    rw [hcq] at hrest
    have c0 := ha'.out _ hb j x0 hx0 0 (by omega)
    have c1 := ha'.out _ hb j x0 hx0 1 (by omega)
    have c2' := ha'.out _ hb j x0 hx0 2 (by omega)
    have c3 := ha'.out _ hb j x0 hx0 3 (by omega)
    have c4 := ha'.out _ hb j x0 hx0 4 (by omega)
    simp only [Ins.cells, Nat.add_zero, List.getElem?_cons_zero, List.getElem?_cons_succ] at c0 c1 c2' c3 c4
    have hrest' := Lib.hid hrest
    have h3' := Lib.hid h3
    have hb' := Lib.hid hb
    clear hrest h3 hb hcq hx0
    have hk := fun W => refkept_any x0.path W hxp
    obtain ⟨kb, hkb⟩ : ∃ k, keptL x0.path.data.toList = k := ⟨_, rfl⟩
    have hcx : cutsX x0 = (decide (x0.op = 3) && !kb) := by rw [cutsX, hkb]
    rw [hcx] at hrest'
    simp only [hkb] at hk
    have hk' := Lib.hid hk
    have hbx := Lib.hid ((Sep.nil wr).box_new 29 #[.int .i64 x0.op, .string x0.path, .string x0.to, .int .i64 x0.mode, .int .i64 x0.ref])
    clear hk hkb hcx hxp
    have hstop : ∀ W, Below w.heap.size w W → (decide (x0.op = 3) && !kb) = false → ∃ (i' : Nat) (rr : Int), i' ≤ ns.length ∧ Value.int .i64 ((i : Int) + 1) = .int .i64 i' ∧ Value.int .i64 (-1) = .int .i64 rr ∧ ((rr = -1 ∧ pickL (cutQ acts) ns = pickL (cutQ acts) (ns.drop i')) ∨ (0 ≤ rr ∧ pickL (cutQ acts) ns = rr)) ∧ Below w.heap.size w W := by
      intro W hW hd
      have h1 := hrest'.out
      rw [hd] at h1
      exact ⟨i + 1, -1, by omega, by go_num, rfl, .inl ⟨rfl, by simpa using h1⟩, hW⟩
    have hstop' := Lib.hid hstop
    clear hstop
    by_cases hop : x0.op = 3
    · have e1 : (x0.op == 3) = true := by simpa using hop
      have e2 : decide (x0.op = 3) = true := by simpa using hop
      have e2' := Lib.hid e2
      clear e2 hop
      cases kb with
      | false =>
        go_wp2_with (first
          | (go_at_call 26; refine (hk'.out _).mono ?_; rintro e w2 ⟨rfl, hW⟩; have k0 := (hbx.out.pure hW).box_cell 0 rfl 0; simp only [List.getElem?_toArray, List.getElem?_cons_zero] at k0; have hbW : Below w.heap.size w w2 := (hb'.out.trans ((Below.new wr _).mono hb'.out.size)).trans (hW.mono (Nat.le_trans hb'.out.size (Below.new wr _).size)); have k1 := hcl'.out _ hbW; rw [add_zero'] at k1; have k2 := h3'.out _ hbW; replace hbW := Lib.hid hbW; clear hW)
          | fail)
        go_roundw
        case rel =>
          have h1 := hrest'.out
          rw [e2'.out] at h1
          have hfin : ∃ (i' : Nat) (rr : Int), i' ≤ ns.length ∧ Value.int .i64 ((i : Int) + 1) = .int .i64 i' ∧ Value.int .i64 (j : Int) = .int .i64 rr ∧ ((rr = -1 ∧ pickL (cutQ acts) ns = pickL (cutQ acts) (ns.drop i')) ∨ (0 ≤ rr ∧ pickL (cutQ acts) ns = rr)) ∧ Below w.heap.size w w2 := ⟨i + 1, (j : Int), by omega, by go_num, rfl, .inr ⟨by omega, by simpa using h1⟩, hbW.out⟩
          repeat apply Exists.intro
          exact ⟨hfin, rfl⟩
        case measure => simp [intOf]; omega
      | true =>
        go_wp2_with (first
          | (go_at_call 26; refine (hk'.out _).mono ?_; rintro e w2 ⟨rfl, hW⟩; have k0 := (hbx.out.pure hW).box_cell 0 rfl 0; simp only [List.getElem?_toArray, List.getElem?_cons_zero] at k0; have hbW : Below w.heap.size w w2 := (hb'.out.trans ((Below.new wr _).mono hb'.out.size)).trans (hW.mono (Nat.le_trans hb'.out.size (Below.new wr _).size)); have k1 := hcl'.out _ hbW; rw [add_zero'] at k1; have k2 := h3'.out _ hbW; replace hbW := Lib.hid hbW; clear hW)
          | fail)
        go_roundw
        case rel =>
          repeat apply Exists.intro
          exact ⟨hstop'.out _ hbW.out (by simp), rfl⟩
        case measure => simp [intOf]; omega
    · have e1 : (x0.op == 3) = false := by simpa using hop
      have e2 : decide (x0.op = 3) = false := by simpa using hop
      have e2' := Lib.hid e2
      clear e2 hop
      go_wp2_with (first
          | (go_at_call 26; refine (hk'.out _).mono ?_; rintro e w2 ⟨rfl, hW⟩; have k0 := (hbx.out.pure hW).box_cell 0 rfl 0; simp only [List.getElem?_toArray, List.getElem?_cons_zero] at k0; have hbW : Below w.heap.size w w2 := (hb'.out.trans ((Below.new wr _).mono hb'.out.size)).trans (hW.mono (Nat.le_trans hb'.out.size (Below.new wr _).size)); have k1 := hcl'.out _ hbW; rw [add_zero'] at k1; have k2 := h3'.out _ hbW; replace hbW := Lib.hid hbW; clear hW)
          | fail)
      go_roundw
      case rel =>
        repeat apply Exists.intro
        exact ⟨hstop'.out _ hbW.out (by rw [e2'.out]; rfl), rfl⟩
      case measure => simp [intOf]; omega
end Go.Proofs.YtioonfceamgpmaaGreatDoor
