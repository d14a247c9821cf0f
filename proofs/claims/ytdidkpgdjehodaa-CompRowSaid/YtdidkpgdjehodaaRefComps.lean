/- The document's Components, plain and walked. -/
import Derived.Test.YtdidkpgdjehodaaMembers
namespace Go.Proofs.Ytdidkpgdjehodaa
open Go.RowKit
set_option linter.unusedVariables false

section
variable {xss : List (List Int)} {rep rep' : Nat → Nat} {T T' : List Nat}
theorem Pre.at_ (h : Pre xss rep T) : ∀ {m : Nat}, m < T.length → ∃ k, T[m]? = some k ∧ k < xss.length ∧ rep k = k ∧ k ∉ T.take m ∧ ReadyR xss rep (T.take m) k := by
  induction h with
  | nil => intro m hm; simp at hm
  | @snoc T i p1 p2 p3 p4 p5 p6 ih =>
    intro m hm
    simp only [List.length_append, List.length_cons, List.length_nil] at hm
    rcases Nat.lt_or_ge m T.length with hlt | hge
    · obtain ⟨k, e1, e2⟩ := ih hlt
      refine ⟨k, by rw [List.getElem?_append_left hlt]; exact e1, ?_⟩
      rw [List.take_append_of_le_length (by omega)]
      exact e2
    · have e : m = T.length := by omega
      subst e
      refine ⟨i, by simp, ?_⟩
      rw [List.take_left]
      exact ⟨p2, p3, p4, p5⟩
theorem Pre.end_ (hx : refused xss = 0) (hr : IsRep xss rep) (hr' : IsRep xss rep') (h : Pre xss rep T) (h' : Told xss rep' T') (hno : ∀ i, i < xss.length → rep i = i → i ∉ T → ¬ ReadyR xss rep T i) : Told xss rep T := by
  have hl : T.length ≤ T'.length := h.nodup.length_le_of_subset fun i hi => by
    obtain ⟨a1, a2⟩ := h.lt i hi
    exact h'.2 i a1 ((hr.uniq hr' a1).symm.trans a2)
  have e := h.uniq hx hr hr' h'.1 hl
  refine ⟨h, fun i hi hri => ?_⟩
  apply Classical.byContradiction
  intro hiT
  have hiT' := h'.2 i hi ((hr.uniq hr' hi).symm.trans hri)
  have hlt : T.length < T'.length := by
    apply Classical.byContradiction
    intro hge
    rw [List.take_of_length_le (by omega)] at e
    exact hiT (e ▸ hiT')
  obtain ⟨k, _, k2, k3, k4, k5⟩ := h'.1.at_ hlt
  rw [← e] at k4 k5
  refine hno k k2 ((hr.uniq hr' k2).trans k3) k4 fun v hv ev u hu => ?_
  have hu' := adj_lt hx hv hu
  rw [hr.uniq hr' hu']
  exact k5 v hv ((hr.uniq hr' hv).symm.trans ev) u hu
/-- Is a need u of component i's met? -/
def okB (rep : Nat → Nat) (T : List Nat) (i u : Nat) : Bool := rep u == i || T.contains (rep u)
def rdyB (xss : List (List Int)) (rep : Nat → Nat) (T : List Nat) (i : Nat) : Bool := (mem xss.length rep i).all fun v => (adjOf xss v).all (okB rep T i)
theorem rdyB_iff (i : Nat) : rdyB xss rep T i = true ↔ ReadyR xss rep T i := by
  simp only [rdyB, List.all_eq_true, mem_iff, okB, Bool.or_eq_true, beq_iff_eq, List.contains_iff_mem]
  exact ⟨fun h v hv e u hu => h v ⟨hv, e⟩ u hu, fun h v hv u hu => h v hv.1 hv.2 u hu⟩
/-- What is sought: the first that is a least number, not told, and ready. -/
def candB (xss : List (List Int)) (rep : Nat → Nat) (T : List Nat) (i : Nat) : Bool := rep i == i && !T.contains i && rdyB xss rep T i
def rdyTo (xss : List (List Int)) (rep : Nat → Nat) (T : List Nat) (i k j : Nat) : Bool :=
  ((mem xss.length rep i).take k).all (fun v => (adjOf xss v).all (okB rep T i)) && ((adjOf xss ((mem xss.length rep i).getD k 0)).take j).all (okB rep T i)
theorem rdyTo_zero (i : Nat) : rdyTo xss rep T i 0 0 = true := by simp [rdyTo]
theorem rdyTo_all (i : Nat) : rdyTo xss rep T i (mem xss.length rep i).length 0 = rdyB xss rep T i := by simp [rdyTo, rdyB]
theorem rdyTo_next {i k v : Nat} (h : (mem xss.length rep i)[k]? = some v) : rdyTo xss rep T i k (adjOf xss v).length = rdyTo xss rep T i (k + 1) 0 := by
  simp [rdyTo, List.take_add_one, h, List.getD, List.all_append]
theorem rdyTo_step {i k j v u : Nat} (h : (mem xss.length rep i)[k]? = some v) (hu : (adjOf xss v)[j]? = some u) : rdyTo xss rep T i k (j + 1) = (rdyTo xss rep T i k j && okB rep T i u) := by
  simp [rdyTo, List.take_add_one, h, List.getD, hu, List.all_append, Bool.and_assoc]
theorem Pre.cand (h : Pre xss rep T) {i : Nat} (hi : i < xss.length) (hc : candB xss rep T i = true) (hmin : ∀ j, j < i → candB xss rep T j = false) : Pre xss rep (T ++ [i]) := by
  simp only [candB, Bool.and_eq_true, beq_iff_eq, Bool.not_eq_true', rdyB_iff] at hc
  obtain ⟨⟨h1, h2⟩, h3⟩ := hc
  refine .snoc h hi h1 (by simpa using h2) h3 fun j hj hrj hjT hrdy => ?_
  have := hmin j hj
  have h4 : candB xss rep T j = true := by
    simp only [candB, Bool.and_eq_true, beq_iff_eq, Bool.not_eq_true', rdyB_iff]
    exact ⟨⟨hrj, by simpa using hjT⟩, hrdy⟩
  rw [h4] at this
  cases this
theorem Pre.none_ (hx : refused xss = 0) (hr : IsRep xss rep) (hr' : IsRep xss rep') (h : Pre xss rep T) (h' : Told xss rep' T') (hno : ∀ j, j < xss.length → candB xss rep T j = false) : Told xss rep T := by
  refine h.end_ hx hr hr' h' fun i hi hri hiT hrdy => ?_
  have := hno i hi
  have h4 : candB xss rep T i = true := by
    simp only [candB, Bool.and_eq_true, beq_iff_eq, Bool.not_eq_true', rdyB_iff]
    exact ⟨⟨hri, by simpa using hiT⟩, hrdy⟩
  rw [h4] at this
  cases this
end

noncomputable def repX (xss : List (List Int)) (i : Nat) : List Int := (mem xss.length (partsRep xss) i).map fun (v : Nat) => (v : Int)
/-- The state while the document tells the components. -/
def RC (w0 w : World) (xss : List (List Int)) (T : List Nat) (ov tv av : Value) (gt : Nat) : Prop :=
  Sep w0 w [rowsR ov (T.map (repX xss)), barr gt xss.length (fun i => T.contains i), intsR tv (repL xss.length (partsRep xss)), allR av xss xss.length]
def RL (w0 w : World) (xss : List (List Int)) (T : List Nat) (ov tv av lv : Value) (gt i : Nat) : Prop :=
  Sep w0 w [intsR lv (repX xss i), rowsR ov (T.map (repX xss)), barr gt xss.length (fun i => T.contains i), intsR tv (repL xss.length (partsRep xss)), allR av xss xss.length]

def Best (xss : List (List Int)) (T : List Nat) (i : Nat) (b : Int) : Prop :=
  (b = -1 ∧ ∀ j, j < i → candB xss (partsRep xss) T j = false) ∨ ∃ b0 : Nat, b = b0 ∧ b0 < xss.length ∧ candB xss (partsRep xss) T b0 = true ∧ ∀ j, j < b0 → candB xss (partsRep xss) T j = false
theorem Best.no {xss : List (List Int)} {T : List Nat} {i : Nat} (h : Best xss T i (-1)) (hc : candB xss (partsRep xss) T i = false) : Best xss T (i + 1) (-1) := by
  rcases h with ⟨_, h⟩ | ⟨b0, e, _⟩
  · refine .inl ⟨rfl, fun j hj => ?_⟩
    by_cases e : j = i
    · subst e; exact hc
    · exact h j (by omega)
  · omega
theorem Best.yes {xss : List (List Int)} {T : List Nat} {i k : Nat} (h : Best xss T i (-1)) (hi : i < xss.length) (hc : candB xss (partsRep xss) T i = true) : Best xss T k (i : Int) := by
  rcases h with ⟨_, h⟩ | ⟨b0, e, _⟩
  · exact .inr ⟨i, rfl, hi, hc, h⟩
  · omega

set_option maxRecDepth 100000 in
set_option maxHeartbeats 4000000 in
theorem refcomps_any {xss : List (List Int)} {w : World} {nv : Value} (hx : refused xss = 0) (hn : RowsAt w nv xss) (hT0 : ∃ rep T, IsRep xss rep ∧ Told xss rep T) :
    Calls Try.prog 19 #[nv] w fun e w' => ∃ v T, e = .returned v ∧ Told xss (partsRep xss) T ∧ Sep w w' [rowsR v (T.map (repX xss))] := by
  obtain ⟨hl, hrow, _⟩ := refused_zero hx
  obtain ⟨i1, hi1, hz10, hz11, hz12⟩ := info_parts info_ints
  obtain ⟨i2, hi2, hz20, hz21, hz22⟩ := info_parts info_bool
  obtain ⟨A, c, rfl, _⟩ := hn.shape
  have hpa := Lib.hid (parts_any hx hn)
  have hmk2 := fun W : World => run_make_n (P := Try.prog) 33 4 i2 (.bool false) 1 Try.underlying33 hi2 hz20 hz21 hz22 rfl .i64 .i64 xss.length (by omega) (by unfold maxLen; omega) W
  have hx' := Lib.hid hx
  have hn' := Lib.hid hn
  have hT0' := Lib.hid hT0
  have hrow' := Lib.hid hrow
  clear hx hn hT0 hrow
  have bn : (xss.length : Int) ≤ 1024 := by omega
  go_enter Try.func19, Try.ntmps19
  go_wp2_with (go_at_call 12; refine hpa.out.mono ?_; rintro e w1 ⟨tv, av, rfl, hS1⟩; (have hS1' := Lib.hid hS1); clear hS1)
  have hS2 : RC w (w1.alloc (.cells (madeCells #[.bool false] xss.length) 4)) xss [] (.slice none 0 0) tv av w1.heap.size := by
    have h := (hS1'.out.made 4 (.bool false) xss.length (by unfold maxLen; omega)).list_nil 29 intsR
    rw [barr_made] at h
    unfold RC
    have e : (fun i => ([] : List Nat).contains i) = fun _ => false := by funext i; simp
    rw [e]
    exact h
  generalize w1.heap.size = gt at hS2 ⊢
  have hS2' := Lib.hid hS2
  clear hS2 hS1' hmk2 hpa
  go_loopg [6] (xss.length + 1) (fun g ov wr => ∃ T, T.length ≤ xss.length ∧ Hid (g = xss.length + 1 - T.length) ∧ Pre xss (partsRep xss) T ∧ RC w wr xss T ov tv av gt)
  case atStart => exact ⟨[], Nat.zero_le _, rfl, .nil, hS2'.out⟩
  case round =>
    obtain ⟨T, hTl, hm, hP, hT⟩ := hrel
    have hT' := Lib.hid hT
    have hP' := Lib.hid hP
    clear hT hP
    go_wp2_with fail
    go_loopg [7, 8] xss.length (fun g bv ii wr => ∃ (i : Nat) (b : Int), i ≤ xss.length ∧ Hid (g = xss.length - i) ∧ ii = .int .i64 i ∧ bv = .int .i64 b ∧ Best xss T i b ∧ RC w wr xss T u6 tv av gt)
    case atStart => exact ⟨0, -1, Nat.zero_le _, rfl, rfl, rfl, .inl ⟨rfl, fun j hj => absurd hj (Nat.not_lt_zero _)⟩, hT'.out⟩
    case round =>
      obtain ⟨i, b, hi, hm2, rfl, rfl, hB, hT⟩ := hrel
      have hBs := hB
      rcases hB with ⟨rfl, hno⟩ | ⟨b0, rfl, hb0, hcand, hmin⟩
      case inr =>
        have hP2 := hP'.out.cand hb0 hcand hmin
        have hlen2 : (T ++ [b0]).length ≤ (List.range xss.length).length := List.Nodup.length_le_of_subset hP2.nodup fun x hx => List.mem_range.2 (hP2.lt x hx).1
        rw [List.length_range, List.length_append, List.length_cons, List.length_nil] at hlen2
        have hTc : T.contains b0 = false := by
          simp only [candB, Bool.and_eq_true, Bool.not_eq_true'] at hcand
          exact hcand.1.2
        have a0 := barr_at 1 hT rfl b0 hb0
        rw [hTc] at a0
        have a1 := hT.frozenAt 1 rfl b0
        have hS1 := hT.stored 1 rfl b0 (.bool true)
        simp only [List.set_cons_succ, List.set_cons_zero] at hS1
        rw [barr_set] at hS1
        have eT : updB (fun i => T.contains i) b0 true = fun i => (T ++ [b0]).contains i := by
          funext x
          simp only [updB]
          by_cases e : x = b0
          · subst e; simp
          · simp [e]
        rw [eT] at hS1
        have hcall := Lib.hid (members_any b0 hl (hS1.ints 2 rfl))
        obtain ⟨vs, hvl, hO⟩ := Sep.list_open hS1
        rw [List.length_map] at hvl
        have hO' := Lib.hid hO
        have hP2' := Lib.hid hP2
        have b1 : (0 : Int) ≤ (b0 : Int) := by omega
        have b2 : (b0 : Int) < (xss.length : Int) := by omega
        clear hT hS1 hO hP2 hBs hcand hmin eT hTc
        by_cases hlt : i < xss.length
        all_goals
          go_wp2_with (first
            | (go_at_call 27; refine hcall.out.mono ?_; rintro e w2 ⟨u, rfl, hS2⟩; obtain ⟨Au, cu, eu, _⟩ := (hS2.ints 0 rfl).shape; rw [List.length_map] at eu; subst eu; have hS4 := Lib.hid (Sep.alloc (hO'.out.join hS2) (.cells #[.slice Au (mem xss.length (partsRep xss) b0).length cu] 29)); clear hS2)
            | (at_builtin; refine wpList_append_sep 1 rfl _ _ 22 rfl 29 i1 (.slice none 0 0) 1 24 Try.underlying22 hi1 hz10 hz11 hz12 rfl (by decide) hS4.out _ _ _ rfl rfl ⟨w2.heap.size, 0, none⟩ 1 1 [.slice Au (mem xss.length (partsRep xss) b0).length cu] rfl rfl (cell_one_new _ _ _) (by simp [Value.oneCell']) (by decide) (by simp only [List.length_map]; unfold maxLen; omega) (by simp only [List.length_map]; omega) ?_)
            | fail)
          intro g cap w4 hS5 hsz
          have hS6 : RC w w4 xss (T ++ [b0]) (.slice (some ⟨g, 0, none⟩) (T.length + 1) cap) tv av gt := by
            unfold RC
            rw [List.map_append, List.map_cons, List.map_nil]
            refine Sep.list_push (vs := vs) (u := .slice Au (mem xss.length (partsRep xss) b0).length cu) (by simpa using hvl) ?_
            rw [List.length_map]
            have h := hS5.perm ((List.Perm.swap _ _ _).trans (.cons _ List.perm_middle.symm))
            simpa [repX] using h
          have hS6' := Lib.hid hS6
          clear hS5 hS6 hS4 hsz
          go_wp2_with fail
          go_roundg (xss.length + 1 - (T.length + 1))
          case measure => rw [hm.out]; omega
          case rel => exact ⟨T ++ [b0], by simpa using hlen2, Lib.hid (by simp), hP2'.out, hS6'.out⟩
      by_cases hlt : i < xss.length
      case neg =>
        obtain rfl : i = xss.length := by omega
        obtain ⟨rep0, T0, hr0, hTT0⟩ := hT0'.out
        have htold := hP'.out.none_ hx'.out (partsRep_isRep xss) hr0 hTT0 hno
        have htold' := Lib.hid htold
        have hT' := Lib.hid hT
        clear hT hno hBs htold hr0 hTT0
        go_wp2_with fail
        go_ret
        exact ⟨u6, T, rfl, htold'.out, Sep.drop 3 (Sep.sel [1, 2, 3, 0] hT'.out (by decide) (by simp))⟩
      have hlen : (repL xss.length (partsRep xss)).length = xss.length := by simp [repL]
      have hts : ∀ {wq}, RC w wq xss T u6 tv av gt → IntsAt wq tv (repL xss.length (partsRep xss)) := fun h => h.ints 2 rfl
      obtain ⟨adt, ct, e, a0⟩ := (hts hT).at_ (k := i) (by rw [hlen]; exact hlt)
      have e1 : (repL xss.length (partsRep xss))[i]'(by rw [hlen]; exact hlt) = (partsRep xss i : Int) := by simp [repL]
      rw [e1] at a0
      rw [hlen] at e
      cases e
      have a1 := barr_at 1 hT rfl i hlt
      have b1 : (0 : Int) ≤ (i : Int) := by omega
      have b2 : (i : Int) < (xss.length : Int) := by omega
      have hT' := Lib.hid hT
      have hBs' := Lib.hid hBs
      by_cases hri : partsRep xss i = i
      case neg =>
        have b3 : ((partsRep xss i : Int) != (i : Int)) = true := by simp; omega
        have hc : candB xss (partsRep xss) T i = false := by
          have : (partsRep xss i == i) = false := by simpa using hri
          simp [candB, this]
        have hc' := Lib.hid hc
        clear hT hBs hno hc e1 hts
        go_wp2_with fail
        go_roundg (xss.length - (i + 1))
        case measure => rw [hm2.out]; omega
        case rel => exact ⟨i + 1, -1, by omega, rfl, by go_num, rfl, hBs'.out.no hc'.out, hT'.out⟩
      have b3 : ((partsRep xss i : Int) != (i : Int)) = false := by simp [hri]
      cases hiT : T.contains i
      case true =>
        rw [hiT] at a1
        have hc : candB xss (partsRep xss) T i = false := by
          simp only [candB, hiT]
          simp
        have hc' := Lib.hid hc
        clear hT hBs hno hc e1 hts
        go_wp2_with fail
        go_roundg (xss.length - (i + 1))
        case measure => rw [hm2.out]; omega
        case rel => exact ⟨i + 1, -1, by omega, rfl, by go_num, rfl, hBs'.out.no hc'.out, hT'.out⟩
      rw [hiT] at a1
      have hcd : candB xss (partsRep xss) T i = rdyB xss (partsRep xss) T i := by
        simp only [candB, hiT]
        simp [hri]
      have hcd' := Lib.hid hcd
      have hcall := Lib.hid (members_any i hl (hts hT))
      clear hT hBs hno hcd e1
      go_wp2_with (go_at_call 27; refine hcall.out.mono ?_; rintro e w2 ⟨lv, rfl, hS2⟩; have hL := Lib.hid (hT'.out.join hS2); clear hS2)
      have hml := mem_len xss.length (partsRep xss) i
      have hL' : Hid (RL w w2 xss T u6 (.slice (some adt) xss.length ct) av lv gt i) := Lib.hid hL.out
      clear hL
      obtain ⟨Al, cl, e, _⟩ := (Sep.ints 0 hL'.out rfl).shape
      rw [repX, List.length_map] at e
      subst e
      have bm : ((mem xss.length (partsRep xss) i).length : Int) ≤ 1024 := by omega
      go_loopg [9, 11] (mem xss.length (partsRep xss) i).length (fun g rv kk wr => ∃ k : Nat, k ≤ (mem xss.length (partsRep xss) i).length ∧ Hid (g = (mem xss.length (partsRep xss) i).length - k) ∧ kk = .int .i64 k ∧ rv = .bool (rdyTo xss (partsRep xss) T i k 0) ∧ RL w wr xss T u6 (.slice (some adt) xss.length ct) av (.slice Al (mem xss.length (partsRep xss) i).length cl) gt i)
      case atStart => exact ⟨0, Nat.zero_le _, rfl, rfl, by rw [rdyTo_zero], hL'.out⟩
      case round =>
        obtain ⟨k, hk, hm3, rfl, rfl, hS⟩ := hrel
        by_cases hlk : k < (mem xss.length (partsRep xss) i).length
        case neg =>
          obtain rfl : k = (mem xss.length (partsRep xss) i).length := by omega
          rw [rdyTo_all]
          have hS' : Hid (RC w wr xss T u6 (.slice (some adt) xss.length ct) av gt) := Lib.hid (Sep.drop 1 hS)
          clear hS
          cases hrd : rdyB xss (partsRep xss) T i
          case true =>
            go_wp2_with fail
            go_roundg (xss.length - (i + 1))
            case measure => rw [hm2.out]; omega
            case rel => exact ⟨i + 1, i, by omega, rfl, by go_num, rfl, hBs'.out.yes hlt (hcd'.out.trans hrd), hS'.out⟩
          case false =>
            go_wp2_with fail
            go_roundg (xss.length - (i + 1))
            case measure => rw [hm2.out]; omega
            case rel => exact ⟨i + 1, -1, by omega, rfl, by go_num, rfl, hBs'.out.no (hcd'.out.trans hrd), hS'.out⟩
        obtain ⟨v, hv⟩ : ∃ v, (mem xss.length (partsRep xss) i)[k]? = some v := ⟨_, List.getElem?_eq_getElem hlk⟩
        have hvn : v < xss.length := (mem_iff.1 (List.mem_of_getElem? hv)).1
        obtain ⟨adl, cl', e, c0⟩ := (Sep.ints 0 hS rfl).at_ (k := k) (by rw [repX, List.length_map]; exact hlk)
        have e2 : (repX xss i)[k]'(by rw [repX, List.length_map]; exact hlk) = (v : Int) := by
          simp only [repX, List.getElem_map]
          obtain ⟨_, e⟩ := List.getElem?_eq_some_iff.1 hv
          rw [e]
        rw [e2] at c0
        rw [repX, List.length_map] at e
        cases e
        obtain ⟨adn, cn, rv, e, hrow1, hrowc⟩ := hn'.out.all hvn
        cases e
        have c1 := hrowc wr hS.below
        obtain ⟨Ar, cr, rfl, _⟩ := hrow1.shape
        have hLv := hrow'.out v hvn
        have d1 : (0 : Int) ≤ (k : Int) := by omega
        have d2 : (k : Int) < ((mem xss.length (partsRep xss) i).length : Int) := by omega
        have d3 : (0 : Int) ≤ (v : Int) := by omega
        have d4 : (v : Int) < (xss.length : Int) := by omega
        have d5 : (xss[v].length : Int) ≤ 1024 := by omega
        have hS' := Lib.hid hS
        have hv' := Lib.hid hv
        have hrow1' := Lib.hid hrow1
        have hrowc' := Lib.hid hrowc
        clear hS e2 hrow1 hrowc hv
        go_wp2_with fail
        go_loopg [9, 12] xss[v].length (fun g rv jj wr => ∃ j : Nat, j ≤ xss[v].length ∧ Hid (g = xss[v].length - j) ∧ jj = .int .i64 j ∧ rv = .bool (rdyTo xss (partsRep xss) T i k j) ∧ RL w wr xss T u6 (.slice (some adt) xss.length ct) av (.slice (some adl) (mem xss.length (partsRep xss) i).length cl) gt i)
        case atStart => exact ⟨0, Nat.zero_le _, rfl, rfl, rfl, hS'.out⟩
        case round =>
          obtain ⟨j, hj, hm4, rfl, rfl, hS⟩ := hrel
          have c0 : wr.cell? (adl.add k) = some (.int .i64 v) := by
            obtain ⟨adl', cl', e, c0⟩ := (Sep.ints 0 hS rfl).at_ (k := k) (by rw [repX, List.length_map]; exact hlk)
            have e2 : (repX xss i)[k]'(by rw [repX, List.length_map]; exact hlk) = (v : Int) := by
              simp only [repX, List.getElem_map]
              obtain ⟨_, e⟩ := List.getElem?_eq_some_iff.1 hv'.out
              rw [e]
            rw [e2] at c0
            rw [repX, List.length_map] at e
            cases e
            exact c0
          have c1 := hrowc'.out wr hS.below
          by_cases hlj : j < xss[v].length
          case neg =>
            obtain rfl : j = xss[v].length := by omega
            have e3 := rdyTo_next (T := T) hv'.out
            rw [adj_len hvn] at e3
            have e3' := Lib.hid e3
            have hS' := Lib.hid hS
            clear hS e3
            go_wp2_with fail
            go_roundg ((mem xss.length (partsRep xss) i).length - (k + 1))
            case measure => rw [hm3.out]; omega
            case rel => exact ⟨k + 1, by omega, rfl, by go_num, by rw [e3'.out], hS'.out⟩
          obtain ⟨u, hu1, hun, hadj⟩ := adjOf_nth hx'.out hvn hlj
          have hstep := rdyTo_step (T := T) hv'.out hadj
          obtain ⟨adr, cr2, e, hcell⟩ := hrow1'.out.all hlj
          cases e
          have c2 := hcell wr hS.below
          rw [hu1] at c2
          have hlen : (repL xss.length (partsRep xss)).length = xss.length := by simp [repL]
          obtain ⟨adt', ct', e, c3⟩ := (Sep.ints 3 hS rfl).at_ (k := u) (by rw [hlen]; exact hun)
          have e1 : (repL xss.length (partsRep xss))[u]'(by rw [hlen]; exact hun) = (partsRep xss u : Int) := by simp [repL]
          rw [e1] at c3
          rw [hlen] at e
          cases e
          have hpu := (partsRep_isRep xss u hun).1
          have c4 := barr_at 2 hS rfl (partsRep xss u) hpu
          have f1 : (0 : Int) ≤ (j : Int) := by omega
          have f2 : (j : Int) < (xss[v].length : Int) := by omega
          have f3 : (0 : Int) ≤ (u : Int) := by omega
          have f4 : (u : Int) < (xss.length : Int) := by omega
          have f5 : (0 : Int) ≤ (partsRep xss u : Int) := by omega
          have f6 : (partsRep xss u : Int) < (xss.length : Int) := by omega
          have hstep' := Lib.hid hstep
          have hS' := Lib.hid hS
          clear hS hstep hcell e1 hu1 hadj hlen
          generalize hrr : rdyTo xss (partsRep xss) T i k j = rr at hstep'
          cases rr
          case false =>
            go_wp2_with fail
            go_roundg (xss[v].length - (j + 1))
            case measure => rw [hm4.out]; omega
            case rel => exact ⟨j + 1, by omega, rfl, by go_num, by rw [hstep'.out]; rfl, hS'.out⟩
          by_cases hpi : partsRep xss u = i
          · have f7 : ((partsRep xss u : Int) == (i : Int)) = true := by simp [hpi]
            have e4 : okB (partsRep xss) T i u = true := by simp [okB, hpi]
            have e4' := Lib.hid e4
            clear e4
            go_wp2_with fail
            go_roundg (xss[v].length - (j + 1))
            case measure => rw [hm4.out]; omega
            case rel => exact ⟨j + 1, by omega, rfl, by go_num, by rw [hstep'.out, e4'.out]; rfl, hS'.out⟩
          · have f7 : ((partsRep xss u : Int) == (i : Int)) = false := by simp; omega
            have e4 : okB (partsRep xss) T i u = T.contains (partsRep xss u) := by
              have : (partsRep xss u == i) = false := by simpa using hpi
              simp [okB, this]
            rw [← e4] at c4
            generalize okB (partsRep xss) T i u = bo at c4 hstep'
            have e5 := Lib.hid hstep'
            clear e4
            go_wp2_with fail
            go_roundg (xss[v].length - (j + 1))
            case measure => rw [hm4.out]; omega
            case rel => exact ⟨j + 1, by omega, rfl, by go_num, by rw [hstep'.out]; rfl, hS'.out⟩
end Go.Proofs.Ytdidkpgdjehodaa
