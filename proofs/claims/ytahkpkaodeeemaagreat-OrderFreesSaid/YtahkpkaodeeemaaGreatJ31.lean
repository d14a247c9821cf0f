/- LooseE, RoundPlain, Round, laid together. -/
import Derived.Test.YtahkpkaodeeemaaGreatJ10
import Derived.Test.YtahkpkaodeeemaaGreatJ7
import Derived.Test.YtahkpkaodeeemaaGreatJ15
import Derived.Test.YtahkpkaodeeemaaGreatJ26
namespace Go.Proofs.YtahkpkaodeeemaaGreat
open Go.RowKit
set_option linter.unusedVariables false

def treeE : Value := .agg #[.slice none 0 0, .slice none 0 0]

theorem index_none (w : World) : Calls Tryz.prog 61 #[.slice none 0 0, .func (.func 43) #[] #[]] w fun e w' => e = .returned (.int .i64 (-1)) ∧ w = w' := by
  go_enter Tryz.func61, Tryz.ntmps61
  go_wp2_with fail
  refine wp_loop_rounds 1 ?_
  rw [rounds_succ]
  go_wp2_with fail
  go_ret
  exact ⟨rfl, rfl⟩
theorem contains_none (w : World) : Calls Tryz.prog 42 #[.slice none 0 0, .func (.func 43) #[] #[]] w fun e w' => e = .returned (.bool false) ∧ w = w' := by
  go_enter Tryz.func42, Tryz.ntmps42
  go_wp2_with (go_at_call 61; refine (index_none _).mono ?_; rintro e w' ⟨rfl, rfl⟩)
  go_ret
  exact ⟨rfl, rfl⟩
theorem bound_none (w : World) : Calls Tryz.prog 22 #[treeE] w fun e w' => e = .returned (.bool false) ∧ w' = w.alloc (.cells #[.slice none 0 0, .slice none 0 0] 34) := by
  unfold treeE
  go_enter Tryz.func22, Tryz.ntmps22
  go_wp2_with (go_at_call 42; refine (contains_none _).mono ?_; rintro e w' ⟨rfl, rfl⟩)
  go_ret
  exact ⟨rfl, rfl⟩
set_option maxRecDepth 100000 in
/-- A map that is new takes its first entry. -/
theorem map_first (w : World) : ∃ w', (Instr.mapUpdate 68 (.map (some w.heap.size)) (.string ⟨#[]⟩) (.int .i64 1)).run Tryz.prog (w.alloc (.map #[] 0)) = .ok () w' ∧ Below w.heap.size w w' := by
  have h1 : (w.alloc (.map #[] 0)).ownsMap Tryz.prog 9 (plainElem (H := Unit) Tryz.prog 3) w.heap.size 0 (.map []) := World.ownsMap_made w _ _ _
  obtain ⟨w', hrun, hown, hgrow⟩ := h1.update (Maps.string_keyed Tryz.underlying9) Tryz.underlying68 (by simp [maxLen]) (key := .string ⟨#[]⟩) (kl := .string []) (by rw [keyOf_string Tryz.underlying9]; simp [mapKey, Tryz.underlying9, ByteArray.size]) (plainElem_int Tryz.underlying3 (a := 1) (by decide))
  exact ⟨w', hrun, (Below.new w _).trans ((Keeps.of_grown hgrow).below (by simp) (by simp))⟩
set_option maxRecDepth 100000 in
theorem loose_none (w : World) : Calls Tryz.prog 10 #[treeE] w fun e w' => e = .returned (.int .i64 0) ∧ Below w.heap.size w w' := by
  have hbo := fun W => bound_none W
  unfold treeE at *
  go_enter Tryz.func10, Tryz.ntmps10
  go_wp2_with fail
  refine wp_scope_labels (fun _ => .skip) (fun _ _ _ _ => False) (fun _ _ _ _ h => h.elim) ?_ (fun _ _ _ _ h => h.elim)
  obtain ⟨w', hmu, hbw⟩ := map_first ((w.alloc (.cells #[.slice none 0 0, .slice none 0 0] 34)).alloc (.cells #[.slice none 0 0, .slice none 0 0] 34))
  simp only [World.size_alloc] at hmu
  have hb0 : Below w.heap.size w ((w.alloc (.cells #[.slice none 0 0, .slice none 0 0] 34)).alloc (.cells #[.slice none 0 0, .slice none 0 0] 34)) := ((Below.refl _ _).alloc (Nat.le_refl _) _).alloc (by simp) _
  have hbx := Lib.hid (hb0.trans (hbw.mono hb0.size))
  have c0 : w'.cell? ⟨w.heap.size, 1, none⟩ = some (.slice none 0 0) := by
    rw [hbw.cell (p := ⟨w.heap.size, 1, none⟩) (by simp; omega), World.cell?_of_block ((Below.new _ _).block _ (by simp))]
    exact cell_of_row _ _ 1 _ _ _ (heap_alloc_new w _)
  have c1 : w'.cell? ⟨w.heap.size, 0, none⟩ = some (.slice none 0 0) := by
    rw [hbw.cell (p := ⟨w.heap.size, 0, none⟩) (by simp; omega), World.cell?_of_block ((Below.new _ _).block _ (by simp))]
    exact cell_of_row _ _ 0 _ _ _ (heap_alloc_new w _)
  have hmm := @run_makeMap Tryz.prog
  clear hbw hb0
  go_wp2_with (go_at_call 22; refine (hbo _).mono ?_; rintro e w' ⟨rfl, rfl⟩)
  refine wp_loop_rounds 1 ?_
  rw [rounds_succ]
  go_wp2_with fail
  refine wp_loop_rounds 1 ?_
  rw [rounds_succ]
  go_wp2_with fail
  simp only [Jumps]
  go_ret
  exact ⟨rfl, hbx.out⟩
end Go.Proofs.YtahkpkaodeeemaaGreat

namespace Go.Proofs.YtahkpkaodeeemaaGreat
set_option linter.unusedVariables false

section
variable {xss : List (List Int)} {rep : Nat → Nat} {T : List Nat}

/-- Does the component of the least number i go round? -/
def goes (xss : List (List Int)) (rep : Nat → Nat) (i : Nat) : Bool := decide (1 < (mem xss.length rep i).length) || (xss.getD i []).contains (i : Int)

theorem mem_sorted (n : Nat) (rep : Nat → Nat) (i : Nat) : (mem n rep i).Pairwise (· < ·) := List.Pairwise.filter _ List.pairwise_lt_range
theorem mem_head (hr : IsRep xss rep) {i : Nat} (hi : i < xss.length) (e : rep i = i) : ∃ l, mem xss.length rep i = i :: l := by
  have hm : i ∈ mem xss.length rep i := mem_iff.2 ⟨hi, e⟩
  have hs := mem_sorted xss.length rep i
  have ha : ∀ a, a ∈ mem xss.length rep i → i ≤ a := fun a h => by
    obtain ⟨h1, h2⟩ := mem_iff.1 h
    have := (hr a h1).2.2 a h1 (Mut.refl a)
    omega
  cases hl : mem xss.length rep i with
  | nil => rw [hl] at hm; simp at hm
  | cons a l =>
    rw [hl] at hm hs ha
    rcases List.mem_cons.1 hm with rfl | h
    · exact ⟨l, rfl⟩
    · have := (List.pairwise_cons.1 hs).1 i h
      have := ha a (by simp)
      omega
theorem contains_adj (hx : refused xss = 0) {v u : Nat} (hv : v < xss.length) : (xss.getD v []).contains (u : Int) = true ↔ u ∈ adjOf xss v := by
  have e : xss.getD v [] = (adjOf xss v).map (fun (u : Nat) => (u : Int)) := by
    rw [adj_back hx hv]
    simp [List.getD, hv]
  rw [e, List.contains_iff_mem, List.mem_map]
  constructor
  · rintro ⟨a, h, e⟩
    have : a = u := by omega
    subst this
    exact h
  · intro h
    exact ⟨u, h, rfl⟩
theorem goes_iff (hx : refused xss = 0) (hr : IsRep xss rep) {i : Nat} (hi : i < xss.length) (e : rep i = i) : goes xss rep i = true ↔ RP xss i i := by
  unfold goes
  rw [Bool.or_eq_true, decide_eq_true_eq, contains_adj hx hi]
  obtain ⟨l, hl⟩ := mem_head hr hi e
  constructor
  · rintro (h | h)
    · rw [hl] at h
      obtain ⟨b, l', rfl⟩ : ∃ b l', l = b :: l' := by
        cases l with
        | nil => simp at h
        | cons b l' => exact ⟨b, l', rfl⟩
      have hs := mem_sorted xss.length rep i
      rw [hl] at hs
      have hib := (List.pairwise_cons.1 hs).1 b (by simp)
      have hb : b ∈ mem xss.length rep i := by rw [hl]; simp
      obtain ⟨b1, b2⟩ := mem_iff.1 hb
      have hm := (hr b b1).2.1
      rw [b2] at hm
      have h1 := hm.1
      cases h1 with
      | refl => omega
      | step h2 h3 => exact ⟨_, h2, h3.trans hm.2⟩
    · exact ⟨i, h, .refl _⟩
  · rintro ⟨u, h1, h2⟩
    by_cases hu : u = i
    · subst hu; exact .inr h1
    · left
      have u1 := adj_lt hx hi h1
      have hm : Mut xss i u := ⟨Tarjan.Reach.edge h1, h2⟩
      have u2 := (hr.iff hi u1).2 hm
      have h3 : u ∈ mem xss.length rep i := mem_iff.2 ⟨u1, by omega⟩
      rw [hl] at h3 ⊢
      rcases List.mem_cons.1 h3 with h4 | h4
      · exact absurd h4 hu
      · cases l with
        | nil => simp at h4
        | cons b l' => simp
noncomputable def roundL (xss : List (List Int)) : List Nat := (List.range xss.length).filter fun i => (partsRep xss i == i) && rpB xss i i
theorem roundL_iff {i : Nat} : i ∈ roundL xss ↔ i < xss.length ∧ partsRep xss i = i ∧ RP xss i i := by
  simp [roundL, rpB_iff]
theorem roundL_sorted : (roundL xss).Pairwise (· < ·) := List.Pairwise.filter _ List.pairwise_lt_range
theorem round_rows (xss : List (List Int)) : roundTo xss xss.length = (roundL xss).map fun i => (mem xss.length (partsRep xss) i).map fun (v : Nat) => (v : Int) := rfl
theorem rounds_perm (hx : refused xss = 0) (hr : IsRep xss rep) (hT : Told xss rep T) : (T.filter (goes xss rep)).Perm (roundL xss) := by
  refine (List.perm_ext_iff_of_nodup (hT.1.nodup.sublist List.filter_sublist) (roundL_sorted.imp fun h => by omega)).2 fun i => ?_
  rw [List.mem_filter, roundL_iff]
  constructor
  · rintro ⟨h1, h2⟩
    obtain ⟨a1, a2⟩ := hT.1.lt i h1
    exact ⟨a1, ((partsRep_isRep xss).uniq hr a1).trans a2, (goes_iff hx hr a1 a2).1 h2⟩
  · rintro ⟨a1, a2, a3⟩
    have e := (hr.uniq (partsRep_isRep xss) a1).trans a2
    exact ⟨hT.2 i a1 e, (goes_iff hx hr a1 e).2 a3⟩
/-- What a sort of the told ones leaves. -/
theorem rounds_sorted (hx : refused xss = 0) (hr : IsRep xss rep) (hT : Told xss rep T) {l : List Nat} (hp : (T.filter (goes xss rep)).Perm l) (hs : l.Pairwise (· ≤ ·)) : l = roundL xss := by
  refine List.Perm.eq_of_pairwise (le := (· ≤ ·)) (fun a b _ _ h1 h2 => by omega) hs (roundL_sorted.imp fun h => by omega) (hp.symm.trans (rounds_perm hx hr hT))
end
end Go.Proofs.YtahkpkaodeeemaaGreat

namespace Go.Proofs.YtahkpkaodeeemaaGreat
open Go.RowKit
set_option linter.unusedVariables false

theorem round_refused {xss : List (List Int)} {w : World} {nv : Value} (hx : refused xss ≠ 0) (hn : RowsAt w nv xss) :
    Calls Tryz.prog 11 #[nv] w fun e w' => e = .returned (.tuple #[.slice none 0 0, .int .i64 (refused xss)]) ∧ w' = w := by
  have hco := Lib.hid (comps_refused hx hn)
  have b1 : (refused xss != 0) = true := by simpa using hx
  obtain ⟨A, c, rfl, _⟩ := hn.shape
  clear hn hx
  go_enter Tryz.func11, Tryz.ntmps11
  go_wp2_with (go_at_call 26; refine hco.out.mono ?_; rintro e w2 ⟨rfl, rfl⟩)
  go_ret2
  exact ⟨rfl, rfl⟩

/-- The value that lies for each number of a list. -/
theorem enc_of {T : List Nat} (hn : T.Nodup) : ∀ {vs : List Value}, vs.length = T.length → ∃ enc : Nat → Value, T.map enc = vs := by
  induction T with
  | nil => intro vs h; exact ⟨fun _ => undef, by simp at h; simp [h]⟩
  | cons a T ih =>
    intro vs h
    cases vs with
    | nil => simp at h
    | cons v vs =>
      rw [List.nodup_cons] at hn
      obtain ⟨enc, he⟩ := ih hn.2 (by simpa using h)
      refine ⟨fun x => if x = a then v else enc x, ?_⟩
      rw [List.map_cons, if_pos rfl]
      congr 1
      rw [← he]
      apply List.map_congr_left
      intro x hx
      rw [if_neg]
      intro e
      subst e
      exact hn.1 hx

theorem filter_take {α : Type} {T : List α} {p : α → Bool} {k : Nat} {x : α} (h : T[k]? = some x) : (T.take (k + 1)).filter p = (T.take k).filter p ++ if p x then [x] else [] := by
  rw [List.take_add_one, h, List.filter_append]
  congr 1
  cases hp : p x <;> simp [hp]

set_option maxHeartbeats 1000000 in
theorem round_told {xss : List (List Int)} {w : World} {nv : Value} (hx : refused xss = 0) (hn : RowsAt w nv xss) :
    Calls Tryz.prog 11 #[nv] w fun e w' => ∃ v, e = .returned (.tuple #[v, .int .i64 0]) ∧ Sep w w' [rowsR v (roundTo xss xss.length)] := by
  have hco := Lib.hid (comps_told hx hn)
  obtain ⟨hl, hrowl, _⟩ := refused_zero hx
  obtain ⟨i1, hi1, hz10, hz11, hz12⟩ := info_parts info_ints
  obtain ⟨A, c, rfl, _⟩ := hn.shape
  have hn' := Lib.hid hn
  have hx' := Lib.hid hx
  clear hn hx hrowl
  go_enter Tryz.func11, Tryz.ntmps11
  go_wp2_with (go_at_call 26; refine hco.out.mono ?_; rintro e w1 ⟨lv, rep, T, rfl, hr, hT, hS⟩; obtain ⟨AL, cL, eL, hcL⟩ := (hS.rows 0 rfl).shape; rw [List.length_map] at eL hcL; subst eL; (have hr' := Lib.hid hr); (have hT' := Lib.hid hT); (have hS' := Lib.hid hS); clear hr hT hS)
  have hTn : T.length ≤ 1024 := by
    have h2 : T.length ≤ (List.range xss.length).length := List.Nodup.length_le_of_subset hT'.out.1.nodup fun x hx => List.mem_range.2 (hT'.out.1.lt x hx).1
    rw [List.length_range] at h2
    omega
  obtain ⟨row, hrow⟩ : ∃ row : Nat → List Int, row = fun i => (mem xss.length rep i).map fun (v : Nat) => (v : Int) := ⟨_, rfl⟩
  have hrow' := Lib.hid hrow
  obtain ⟨vs, hvl, hS1⟩ := Sep.list_open hS'.out
  obtain ⟨enc, henc⟩ := enc_of hT'.out.1.nodup (vs := vs) (by simpa using hvl)
  have hS2 : Sep w w1 (.sl 27 1 (.slice none 0 0) 0 [] :: .sl 27 1 (.slice AL T.length cL) T.length (T.map enc) :: partsOf enc row T) := by
    have h := hS1.sl_nil 27 1
    rw [← henc] at h
    rw [hrow]
    have e : List.zipWith intsR (T.map enc) (T.map fun i => (mem xss.length rep i).map fun (v : Nat) => (v : Int)) = partsOf enc (fun i => (mem xss.length rep i).map fun (v : Nat) => (v : Int)) T := by
      unfold partsOf
      rw [List.zipWith_map, List.zipWith_self]
    rw [e, List.append_nil, List.length_map] at h
    exact h
  clear hvl hS1 henc hrow
  obtain ⟨go, hgo⟩ : ∃ go : Nat → Bool, go = goes xss rep := ⟨_, rfl⟩
  have hgo' := Lib.hid hgo
  clear hgo
  have bT : (T.length : Int) ≤ 1024 := by omega
  have hS2' := Lib.hid hS2
  clear hS2 hcL hS' hco
  go_loopg [6, 19] T.length (fun g ov kk wr => ∃ k : Nat, k ≤ T.length ∧ Hid (g = T.length - k) ∧ kk = .int .i64 k ∧
    Sep w wr (.sl 27 1 ov ((T.take k).filter go).length (((T.take k).filter go).map enc) :: .sl 27 1 (.slice AL T.length cL) T.length (T.map enc) :: partsOf enc row T))
  case atStart => exact ⟨0, Nat.zero_le _, rfl, rfl, by simpa using hS2'.out⟩
  case round =>
    obtain ⟨k, hk, hm, rfl, hS⟩ := hrel
    by_cases hlt : k < T.length
    case neg =>
      obtain rfl : k = T.length := by omega
      rw [List.take_length] at hS
      have hperm : T.Perm (T.filter go ++ T.filter fun x => !go x) := by
        have := List.filter_append_perm go T
        exact this.symm
      have hS3 : Sep w wr (.sl 27 1 u6 (T.filter go).length ((T.filter go).map enc) :: (partsOf enc row (T.filter go) ++ (.sl 27 1 (.slice AL T.length cL) T.length (T.map enc) :: partsOf enc row (T.filter fun x => !go x)))) := by
        refine hS.perm (.cons _ ?_)
        have e : partsOf enc row (T.filter go ++ T.filter fun x => !go x) = partsOf enc row (T.filter go) ++ partsOf enc row (T.filter fun x => !go x) := by simp [partsOf]
        have h1 : (partsOf enc row T).Perm (partsOf enc row (T.filter go) ++ partsOf enc row (T.filter fun x => !go x)) := by
          rw [← e]
          exact hperm.map _
        exact (List.Perm.cons _ h1).trans List.perm_middle.symm
      have hlen : (T.filter go).length ≤ 1024 := Nat.le_trans (List.length_filter_le _ _) hTn
      have hso := Lib.hid (sort_any hS3 (fun i hi => by
        obtain ⟨h1, h2⟩ := hT'.out.1.lt i (List.mem_filter.1 hi).1
        obtain ⟨l, hl⟩ := mem_head hr'.out h1 h2
        exact ⟨l.map fun (v : Nat) => (v : Int), by rw [hrow'.out]; simp [hl]⟩) (fun i hi => by
        obtain ⟨h1, h2⟩ := hT'.out.1.lt i (List.mem_filter.1 hi).1
        omega) hlen)
      clear hS hS3 hperm
      go_wp2_with (go_at_call 28; refine hso.out.mono ?_; rintro e w2 ⟨rfl, L', hp, hs, hS4⟩; (have hp' := Lib.hid hp); (have hs' := Lib.hid hs); (have hS4' := Lib.hid hS4); clear hp hs hS4)
      go_ret2
      refine ⟨u6, rfl, ?_⟩
      have hp := hp'.out
      rw [hgo'.out] at hp
      have e := rounds_sorted hx'.out hr'.out hT'.out hp hs'.out
      have h := Sep.fst (X := [rowsR u6 (L'.map row)]) hS4'.out
      rw [e, hrow'.out] at h
      rw [round_rows]
      have e2 : ((roundL xss).map fun i => (mem xss.length rep i).map fun (v : Nat) => (v : Int)) = (roundL xss).map fun i => (mem xss.length (partsRep xss) i).map fun (v : Nat) => (v : Int) := by
        apply List.map_congr_left
        intro i _
        rw [mem_congr hr'.out (partsRep_isRep xss) i]
      rw [← e2]
      exact h
    obtain ⟨i, hki⟩ : ∃ i, T[k]? = some i := ⟨T[k], List.getElem?_eq_getElem hlt⟩
    obtain ⟨h1, h2⟩ := hT'.out.1.lt i (List.mem_of_getElem? hki)
    obtain ⟨l0, hl0⟩ := mem_head hr'.out h1 h2
    have hri : row i = (i : Int) :: l0.map fun (v : Nat) => (v : Int) := by rw [hrow'.out]; simp [hl0]
    obtain ⟨ln, hln⟩ : ∃ ln : Nat, ln = (row i).length := ⟨_, rfl⟩
    have hln1 : ln = l0.length + 1 := by rw [hln, hri]; simp
    have hpk : (.sl 27 1 u6 ((T.take k).filter go).length (((T.take k).filter go).map enc) :: .sl 27 1 (.slice AL T.length cL) T.length (T.map enc) :: partsOf enc row T)[k + 2]? = some (intsR (enc i) (row i)) := by
      simp [partsOf, hki]
    obtain ⟨gi, ci, hei, _⟩ := hS.sl_form (k + 2) hpk (by omega)
    rw [← hln] at hei
    have a0 : wr.cell? ⟨gi, 0, none⟩ = some (.int .i64 i) := by
      unfold intsR at hpk
      rw [hei, ← hln] at hpk
      rw [hS.cellAt (k + 2) hpk 0 (by omega), hri]
      rfl
    obtain ⟨gL, cL', eL, _⟩ := hS.sl_form 1 rfl (by omega)
    obtain ⟨rfl, rfl⟩ : AL = some ⟨gL, 0, none⟩ ∧ cL = cL' := by simpa using eL
    have a1 : wr.cell? ⟨gL, k, none⟩ = some (.slice (some ⟨gi, 0, none⟩) ln ci) := by
      rw [hS.cellAt 1 rfl k (by omega), ← hei]
      simp [hki]
    obtain ⟨ad, c', un, e, hun, hcn⟩ := hn'.out.all h1
    cases e
    have a2 := fun m => hcn (wr.drewN m) (hS.drewN m).below
    obtain ⟨Au, cu, rfl, hum⟩ := hun.shape
    have hcall := fun m => (contains_any (hun.below (hS.drewN m).below) (i : Int)).mono fun _ _ ⟨he, hw⟩ => (⟨he, hw.symm⟩ : _ ∧ _)
    have hgoi : go i = (decide (1 < ln) || (xss[i]).contains (i : Int)) := by
      rw [hgo'.out]
      unfold goes
      rw [hl0, hln1]
      simp [List.getD, h1]
    have b1 : (0 : Int) ≤ (i : Int) := by omega
    have b2 : (i : Int) < (xss.length : Int) := by omega
    have b3 : (0 : Int) ≤ (k : Int) := by omega
    have b4 : (k : Int) < (T.length : Int) := by omega
    have b5 : (0 : Int) < (ln : Int) := by omega
    have hfl : ((T.take k).filter go).length ≤ 1024 := by
      have h1 := List.length_filter_le go (T.take k)
      have h2 := List.length_take_le k T
      omega
    have hS' := Lib.hid hS
    have hcall' := Lib.hid hcall
    replace hki := Lib.hid hki
    replace hei := Lib.hid hei
    clear hS hcall hpk hri hl0 eL hln hln1 hcn hun
    generalize xss[i].contains (i : Int) = cb at hgoi hcall'
    generalize xss[i].length = nu at hcall' a2 hum
    by_cases hl1 : 1 < ln
    · have hgt := Lib.hid (show go i = true by rw [hgoi]; simp [hl1])
      have b6 : (1 : Int) < (ln : Int) := by omega
      clear hgoi hcall'
      go_wp2_with fail
      go_quiet (fail)
      have hS3 := Lib.hid ((hS'.out.drewN nq).alloc (.cells #[.slice (some ⟨gi, 0, none⟩) ln ci] 27))
      clear hS'
      go_wp2_with (first
        | (at_builtin; refine wpList_append_sep 0 rfl _ _ 24 rfl 27 i1 (.slice none 0 0) 1 24 Tryz.underlying24 hi1 hz10 hz11 hz12 rfl (by decide) hS3.out _ _ _ rfl rfl ⟨wr.heap.size, 0, none⟩ 1 1 [.slice (some ⟨gi, 0, none⟩) ln ci] rfl rfl (cell_one_new _ _ _) (by simp [Value.oneCell']) (by decide) (by unfold maxLen; omega) (by omega) ?_)
        | fail)
      intro g cap w2 hS4 hsz
      have hS5 : Sep w w2 (.sl 27 1 (.slice (some ⟨g, 0, none⟩) (((T.take k).filter go).length + 1) cap) ((T.take (k + 1)).filter go).length (((T.take (k + 1)).filter go).map enc) :: .sl 27 1 (.slice (some ⟨gL, 0, none⟩) T.length cL) T.length (T.map enc) :: partsOf enc row T) := by
        rw [filter_take hki.out, if_pos hgt.out, List.map_append, List.length_append, List.map_cons, List.map_nil, hei.out]
        exact hS4
      have hS5' := Lib.hid hS5
      clear hS3 hS4 hS5 hsz
      go_wp2_with fail
      go_roundg (T.length - (k + 1))
      case measure => rw [hm.out]; omega
      case rel => exact ⟨k + 1, by omega, rfl, by go_num, hS5'.out⟩
    · obtain rfl : ln = 1 := by omega
      cases cb
      · have hgt := Lib.hid (show go i = false by rw [hgoi]; rfl)
        clear hgoi
        go_wp2_with fail
        go_quiet ((go_at_call 27; exact Calls.quiet_of_same (hcall'.out _)))
        have hS3 := hS'.out.drewN nq
        have e : (T.take (k + 1)).filter go = (T.take k).filter go := by
          rw [filter_take hki.out, hgt.out]
          simp
        rw [← e] at hS3
        have hS3' := Lib.hid hS3
        clear hS' hS3 e hcall'
        go_wp2_with fail
        go_roundg (T.length - (k + 1))
        case measure => rw [hm.out]; omega
        case rel => exact ⟨k + 1, by omega, rfl, by go_num, hS3'.out⟩
      · have hgt := Lib.hid (show go i = true by rw [hgoi]; rfl)
        clear hgoi
        go_wp2_with fail
        go_quiet ((go_at_call 27; exact Calls.quiet_of_same (hcall'.out _)))
        have hS3 := Lib.hid ((hS'.out.drewN nq).alloc (.cells #[.slice (some ⟨gi, 0, none⟩) 1 ci] 27))
        clear hS' hcall'
        go_wp2_with (first
          | (at_builtin; refine wpList_append_sep 0 rfl _ _ 24 rfl 27 i1 (.slice none 0 0) 1 24 Tryz.underlying24 hi1 hz10 hz11 hz12 rfl (by decide) hS3.out _ _ _ rfl rfl ⟨wr.heap.size, 0, none⟩ 1 1 [.slice (some ⟨gi, 0, none⟩) 1 ci] rfl rfl (cell_one_new _ _ _) (by simp [Value.oneCell']) (by decide) (by unfold maxLen; omega) (by omega) ?_)
          | fail)
        intro g cap w2 hS4 hsz
        have hS5 : Sep w w2 (.sl 27 1 (.slice (some ⟨g, 0, none⟩) (((T.take k).filter go).length + 1) cap) ((T.take (k + 1)).filter go).length (((T.take (k + 1)).filter go).map enc) :: .sl 27 1 (.slice (some ⟨gL, 0, none⟩) T.length cL) T.length (T.map enc) :: partsOf enc row T) := by
          rw [filter_take hki.out, if_pos hgt.out, List.map_append, List.length_append, List.map_cons, List.map_nil, hei.out]
          exact hS4
        have hS5' := Lib.hid hS5
        clear hS3 hS4 hS5 hsz
        go_wp2_with fail
        go_roundg (T.length - (k + 1))
        case measure => rw [hm.out]; omega
        case rel => exact ⟨k + 1, by omega, rfl, by go_num, hS5'.out⟩
end Go.Proofs.YtahkpkaodeeemaaGreat
