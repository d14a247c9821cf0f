/- Tell, Components2, laid together. -/
import Derived.Test.YtahkpkaodeeemaaGreatJ10
import Derived.Test.YtahkpkaodeeemaaGreatJ12
namespace Go.Proofs.YtahkpkaodeeemaaGreat
set_option linter.unusedVariables false

section
variable {xss : List (List Int)} {of : Nat → Int} {count : Nat} {T : List Nat}

def waitOf (xss : List (List Int)) (of : Nat → Int) (count : Nat) (T : List Nat) (x : Nat) : Nat := cntB count fun d => needB xss of x d && !T.contains d
theorem waitOf_le (x : Nat) : waitOf xss of count T x ≤ count := cntB_le _ _
theorem waitOf_zero {x : Nat} : waitOf xss of count T x = 0 ↔ ∀ d, d < count → needB xss of x d = true → d ∈ T := by
  constructor
  · intro h d hd hn
    have := cntB_zero h hd
    simpa [hn] using this
  · intro h
    rw [waitOf, cntB_congr (h' := fun _ => false), cntB_false]
    intro d hd
    cases e : needB xss of x d with
    | false => simp
    | true => simp [h d hd e]
theorem waitOf_nil (x : Nat) (hx : x < count) : waitTo xss of count count (fun _ => false) x = (waitOf xss of count [] x : Int) := by
  simp [waitTo, hx, waitOf]
theorem waitOf_snoc {c0 x : Nat} (hc : c0 < count) (h0 : c0 ∉ T) : waitOf xss of count T x = waitOf xss of count (T ++ [c0]) x + if needB xss of x c0 = true then 1 else 0 := by
  unfold waitOf
  by_cases h : needB xss of x c0 = true
  · rw [if_pos h, ← cntB_add count (fun d => needB xss of x d && !(T ++ [c0]).contains d) c0 hc (by simp)]
    apply cntB_congr
    intro d _
    by_cases e : d = c0
    · subst e; simp [h, h0]
    · simp [e]
  · rw [if_neg h, Nat.add_zero]
    apply cntB_congr
    intro d _
    by_cases e : d = c0
    · subst e
      have : needB xss of x d = false := by simpa using h
      simp [this]
    · simp [e]
/-- Who needs something of c. -/
def usersL (xss : List (List Int)) (of : Nat → Int) (count c : Nat) : List Nat := (List.range count).filter fun x => needB xss of x c
theorem usersL_nodup (c : Nat) : (usersL xss of count c).Nodup := List.nodup_range.sublist List.filter_sublist
theorem usersL_iff {c x : Nat} : x ∈ usersL xss of count c ↔ x < count ∧ needB xss of x c = true := by simp [usersL]
theorem usersL_len (c : Nat) : (usersL xss of count c).length ≤ count := by
  have := List.length_filter_le (fun x => needB xss of x c) (List.range count)
  simpa [usersL] using this
theorem usersTo_done {d : Nat} (hd : d < count) : (usersTo xss of count count (fun _ => false))[d]? = some ((usersL xss of count d).map fun (v : Nat) => (v : Int)) := by
  rw [usersTo_some hd]
  simp [usersL]
/-- Who waits for how many, when the first j users of c0 are told that it is told. -/
def waitJ (xss : List (List Int)) (of : Nat → Int) (count : Nat) (T : List Nat) (c0 j : Nat) : Nat → Int := fun x => (waitOf xss of count T x : Int) - if x ∈ (usersL xss of count c0).take j then 1 else 0
theorem waitJ_zero (c0 : Nat) : waitJ xss of count T c0 0 = fun x => (waitOf xss of count T x : Int) := by
  funext x
  simp [waitJ]
theorem waitJ_at {c0 j x : Nat} (h : (usersL xss of count c0)[j]? = some x) : waitJ xss of count T c0 j x = waitOf xss of count T x := by
  have hn := usersL_nodup (xss := xss) (of := of) (count := count) c0
  have : x ∉ (usersL xss of count c0).take j := by
    intro hm
    obtain ⟨i, hi, e⟩ := List.getElem_of_mem hm
    rw [List.length_take] at hi
    rw [List.getElem_take] at e
    obtain ⟨hj, ej⟩ := List.getElem?_eq_some_iff.1 h
    have := (List.getElem_inj hn).1 (e.trans ej.symm)
    omega
  simp [waitJ, this]
theorem waitJ_step {c0 j x : Nat} (h : (usersL xss of count c0)[j]? = some x) : Tarjan.upd (waitJ xss of count T c0 j) x ((waitOf xss of count T x : Int) - 1) = waitJ xss of count T c0 (j + 1) := by
  funext y
  simp only [Tarjan.upd, waitJ, List.take_add_one, h]
  by_cases e : y = x
  · subst e; simp
  · simp [e]
theorem waitJ_all {c0 : Nat} (hc : c0 < count) (h0 : c0 ∉ T) {x : Nat} (hx : x < count) : waitJ xss of count T c0 (usersL xss of count c0).length x = (waitOf xss of count (T ++ [c0]) x : Int) := by
  simp only [waitJ, List.take_length, usersL_iff]
  have h := waitOf_snoc (xss := xss) (of := of) (x := x) hc h0
  by_cases e : needB xss of x c0 = true
  · rw [if_pos e] at h
    rw [if_pos ⟨hx, e⟩]
    omega
  · rw [if_neg e] at h
    rw [if_neg fun h => e h.2]
    omega

def Rdy (xss : List (List Int)) (of : Nat → Int) (count : Nat) (T : List Nat) (c : Nat) : Prop := c ∉ T ∧ waitOf xss of count T c = 0
/-- The best of the first k components. -/
def BestTo (xss : List (List Int)) (of : Nat → Int) (count : Nat) (T : List Nat) (k : Nat) (b : Int) : Prop :=
  (b = -1 ∧ ∀ c, c < k → ¬ Rdy xss of count T c) ∨
  ∃ c0 : Nat, b = c0 ∧ c0 < count ∧ Rdy xss of count T c0 ∧ ∀ c, c < k → Rdy xss of count T c → fst' xss.length of c0 ≤ fst' xss.length of c
theorem BestTo.zero : BestTo xss of count T 0 (-1) := .inl ⟨rfl, fun c hc => by omega⟩
theorem BestTo.skip {k : Nat} {b : Int} (h : BestTo xss of count T k b) (hn : ¬ Rdy xss of count T k) : BestTo xss of count T (k + 1) b := by
  have key : ∀ c, c < k + 1 → Rdy xss of count T c → c < k := by
    intro c hc hr
    apply Classical.byContradiction
    intro hck
    obtain rfl : c = k := by omega
    exact hn hr
  rcases h with ⟨e, h⟩ | ⟨c0, e, h1, h2, h3⟩
  · exact .inl ⟨e, fun c hc hr => h c (key c hc hr) hr⟩
  · exact .inr ⟨c0, e, h1, h2, fun c hc hr => h3 c (key c hc hr) hr⟩
theorem BestTo.first {k : Nat} (h : BestTo xss of count T k (-1)) (hk : k < count) (hr : Rdy xss of count T k) : BestTo xss of count T (k + 1) (k : Int) := by
  rcases h with ⟨e, h⟩ | ⟨c0, e, h1, h2, h3⟩
  · refine .inr ⟨k, rfl, hk, hr, fun c hc hrc => ?_⟩
    by_cases e : c = k
    · subst e; exact Nat.le_refl _
    · exact absurd hrc (h c (by omega))
  · omega
theorem BestTo.keep {k c0 : Nat} (h : BestTo xss of count T k (c0 : Int)) (hle : fst' xss.length of c0 ≤ fst' xss.length of k) : BestTo xss of count T (k + 1) (c0 : Int) := by
  rcases h with ⟨e, h⟩ | ⟨c1, e, h1, h2, h3⟩
  · omega
  · obtain rfl : c0 = c1 := by omega
    refine .inr ⟨c0, rfl, h1, h2, fun c hc hrc => ?_⟩
    by_cases e : c = k
    · subst e; exact hle
    · exact h3 c (by omega) hrc
theorem BestTo.take {k c0 : Nat} (h : BestTo xss of count T k (c0 : Int)) (hk : k < count) (hr : Rdy xss of count T k) (hlt : fst' xss.length of k < fst' xss.length of c0) : BestTo xss of count T (k + 1) (k : Int) := by
  rcases h with ⟨e, h⟩ | ⟨c1, e, h1, h2, h3⟩
  · omega
  · obtain rfl : c0 = c1 := by omega
    refine .inr ⟨k, rfl, hk, hr, fun c hc hrc => ?_⟩
    by_cases e : c = k
    · subst e; exact Nat.le_refl _
    · have := h3 c (by omega) hrc; omega
theorem BestTo.form {k : Nat} {b : Int} (h : BestTo xss of count T k b) : b = -1 ∨ ∃ c0 : Nat, b = c0 ∧ c0 < count := by
  rcases h with ⟨e, h⟩ | ⟨c1, e, h1, h2, h3⟩
  · exact .inl e
  · exact .inr ⟨c1, e, h1⟩

/-- What holds of the components that are told. -/
structure Tells (xss : List (List Int)) (of : Nat → Int) (count : Nat) (T : List Nat) : Prop where
  nodup : T.Nodup
  lt : ∀ c, c ∈ T → c < count
  pre : Pre xss (repOf xss of) (T.map (fst' xss.length of))
theorem Tells.nil : Tells xss of count [] := ⟨List.nodup_nil, fun _ h => (List.not_mem_nil h).elim, .nil⟩
theorem BestTo.done (hx : refused xss = 0) (hg : Good xss of count) (hT : Tells xss of count T) (hl : T.length < count) {b : Int} (h : BestTo xss of count T count b) :
    ∃ c0 : Nat, b = c0 ∧ c0 < count ∧ c0 ∉ T ∧ Tells xss of count (T ++ [c0]) := by
  rcases h with ⟨e, h⟩ | ⟨c1, e, h1, h2, h3⟩
  · have : ∃ c, c < count ∧ c ∉ T := by
      apply Classical.byContradiction
      intro hno
      have h1 : (List.range count).length ≤ T.length := by
        refine List.Nodup.length_le_of_subset List.nodup_range fun x hx => ?_
        apply Classical.byContradiction
        intro hxT
        exact hno ⟨x, List.mem_range.1 hx, hxT⟩
      simp only [List.length_range] at h1
      omega
    obtain ⟨b', hb1, hb2, hb3⟩ := hg.exists_ready hx this
    exact absurd ⟨hb2, waitOf_zero.2 hb3⟩ (h b' hb1)
  · refine ⟨c1, e, h1, h2.1, ?_, ?_, ?_⟩
    · rw [List.nodup_append]
      refine ⟨hT.nodup, by simp, ?_⟩
      intro a ha c hc e
      simp only [List.mem_singleton] at hc
      exact h2.1 (hc ▸ e ▸ ha)
    · intro c hc
      rcases List.mem_append.1 hc with hc | hc
      · exact hT.lt c hc
      · simp only [List.mem_singleton] at hc; subst hc; exact h1
    · exact hg.tell hx hT.lt hT.pre h1 h2.1 (waitOf_zero.1 h2.2) fun c hc hcT hr => h3 c hc ⟨hcT, waitOf_zero.2 hr⟩
theorem Tells.perm (hT : Tells xss of count T) (hl : T.length = count) : T.Perm (List.range count) := by
  have hfull := full_of_nodup hT.nodup hT.lt hl
  exact (List.perm_ext_iff_of_nodup hT.nodup List.nodup_range).2 fun c => ⟨fun h => List.mem_range.2 (hT.lt c h), fun h => hfull c (List.mem_range.1 h)⟩
theorem Tells.told (hg : Good xss of count) (hT : Tells xss of count T) (hl : T.length = count) : Told xss (repOf xss of) (T.map (fst' xss.length of)) :=
  hg.told hT.lt hT.pre (full_of_nodup hT.nodup hT.lt hl)
theorem Tells.rows (hg : Good xss of count) (hT : Tells xss of count T) : T.map (fun c => (cls xss.length of c).map fun (v : Nat) => (v : Int)) = (T.map (fst' xss.length of)).map fun i => (mem xss.length (repOf xss of) i).map fun (v : Nat) => (v : Int) := by
  rw [List.map_map]
  apply List.map_congr_left
  intro c hc
  simp only [Function.comp_apply]
  rw [hg.mem_eq (hT.lt c hc)]
end
end Go.Proofs.YtahkpkaodeeemaaGreat

namespace Go.Proofs.YtahkpkaodeeemaaGreat
open Go.RowKit
set_option linter.unusedVariables false

theorem bools_set (g n : Nat) (T : List Nat) (c0 : Nat) : Asn.sl 4 1 (.slice (some ⟨g, 0, none⟩) n n) n (((List.range n).map fun c => Value.bool (T.contains c)).set c0 (.bool true)) = Asn.sl 4 1 (.slice (some ⟨g, 0, none⟩) n n) n ((List.range n).map fun c => Value.bool ((T ++ [c0]).contains c)) := by
  rw [map_range_set]
  congr 1
  apply List.map_congr_left
  intro v _
  by_cases e : v = c0
  · subst e; simp
  · simp [e]
theorem arr_congr {g n : Nat} {f f' : Nat → Int} (h : ∀ v, v < n → f v = f' v) : arr g n f = arr g n f' := by
  unfold arr
  congr 1
  apply List.map_congr_left
  intro v hv
  rw [h v (List.mem_range.1 hv)]

/-- The state while the components are told; T is told, ov holds it. -/
def SG (w0 w : World) (xss : List (List Int)) (of : Nat → Int) (count : Nat) (T : List Nat) (wf : Nat → Int) (gw gt gu gl : Nat) (ov : Value) (us vs : List Value) : Prop :=
  Sep w0 w (arr gw count wf :: .sl 4 1 (.slice (some ⟨gt, 0, none⟩) count count) count ((List.range count).map fun c => Value.bool (T.contains c)) :: .sl 27 1 (.slice (some ⟨gu, 0, none⟩) count count) count us ::
    .sl 27 1 (.slice (some ⟨gl, 0, none⟩) count count) count vs :: .sl 27 1 ov T.length (T.map fun c => vs.getD c (.slice none 0 0)) ::
    (List.zipWith intsR us (usersTo xss of count count (fun _ => false)) ++ List.zipWith intsR vs (rowsTo count xss.length of)))
theorem SG.row {w0 w : World} {xss : List (List Int)} {of : Nat → Int} {count : Nat} {T : List Nat} {wf : Nat → Int} {gw gt gu gl : Nat} {ov : Value} {us vs : List Value} {c : Nat}
    (h : SG w0 w xss of count T wf gw gt gu gl ov us vs) (hg : Good xss of count) (hul : us.length = count) (hvl : vs.length = count) (hc : c < count) :
    ∃ g m cap, 0 < m ∧ vs[c]? = some (.slice (some ⟨g, 0, none⟩) m cap) ∧ w.cell? ⟨gl, c, none⟩ = some (.slice (some ⟨g, 0, none⟩) m cap) ∧ w.cell? ⟨g, 0, none⟩ = some (.int .i64 (fst' xss.length of c : Nat)) := by
  obtain ⟨v, hv⟩ : ∃ v, vs[c]? = some v := ⟨vs[c]'(by omega), by simp⟩
  have hz := zip_some (f := intsR) hv (rowsTo_some (k := xss.length) (of := of) hc)
  have hidx : (List.zipWith intsR us (usersTo xss of count count (fun _ => false)) ++ List.zipWith intsR vs (rowsTo count xss.length of))[count + c]? = some (intsR v ((cls xss.length of c).map fun (v : Nat) => (v : Int))) := by
    rw [List.getElem?_append_right (by simp [hul, usersTo_length]), ← hz]
    congr 1
    simp [hul, usersTo_length]
  have hne := hg.cls_ne hc
  have hpos : 0 < ((cls xss.length of c).map fun (v : Nat) => (v : Int)).length := by rw [List.length_map]; exact List.length_pos_iff.2 hne
  obtain ⟨g, cap, e, _⟩ := Sep.sl_form (count + c + 5) h hidx hpos
  subst e
  refine ⟨g, _, cap, hpos, hv, ?_, ?_⟩
  · rw [h.cellAt 3 rfl c (by omega), hv]
  · rw [h.cellAt (count + c + 5) hidx 0 (by omega)]
    unfold fst'
    cases e : cls xss.length of c with
    | nil => exact absurd e hne
    | cons a l => simp

set_option maxRecDepth 100000 in
set_option maxHeartbeats 2000000 in
theorem comps_tell {xss : List (List Int)} {of : Nat → Int} {count : Nat} {w0 w : World} {gw gt gu gl : Nat} {us vs : List Value} {ac : Act} {Q : Exit → Act → World → Prop}
    (hx : refused xss = 0) (hg : Good xss of count) (hul : us.length = count) (hvl : vs.length = count)
    (hf : Fs 189 ac [(7, .slice (some ⟨gl, 0, none⟩) count count), (10, .slice (some ⟨gw, 0, none⟩) count count), (11, .slice (some ⟨gu, 0, none⟩) count count), (20, .slice none 0 0), (21, .slice (some ⟨gt, 0, none⟩) count count), (120, .int .i64 count), (121, .int .i64 0)])
    (hS : SG w0 w xss of count [] (fun x => (waitOf xss of count [] x : Int)) gw gt gu gl (.slice none 0 0) us vs)
    (hQ : ∀ ac' w' ov T, Tells xss of count T → T.length = count → Fs 189 ac' [(20, ov)] → SG w0 w' xss of count T (fun x => (waitOf xss of count T x : Int)) gw gt gu gl ov us vs → Q .normal ac' w') :
    (compsBlock 8).wp Tryz.prog (Exit.inBlock 8 Q) ac w := by
  obtain ⟨f, rfl, h7, h10, h11, h20, h21, h120, h121, -⟩ := hf.lit
  obtain ⟨i0, hi, hz0, hz1, hz2⟩ := info_parts info_ints
  obtain ⟨hl, hrow, _⟩ := refused_zero hx
  have hcl := hg.le
  simp only at h7 h10 h11 h20 h21 h120 h121
  clear hf
  simp only [lits, Nat.reduceAdd, h7, h10, h11, h20, h21, h120, h121] at hQ ⊢
  have hQ' := Lib.hid hQ
  have hg' := Lib.hid hg
  have hx' := Lib.hid hx
  have bc : (count : Int) ≤ 1024 := by omega
  clear hQ h7 h10 h11 h20 h21 h120 h121 hg hrow hx
  conv => arg 2; whnf
  go_loopg [20, 121] count (fun g ov ti wr => ∃ T, T.length ≤ count ∧ Hid (g = count - T.length) ∧ ti = .int .i64 (T.length : Nat) ∧ Tells xss of count T ∧ SG w0 wr xss of count T (fun x => (waitOf xss of count T x : Int)) gw gt gu gl ov us vs)
  case atStart => exact ⟨[], Nat.zero_le _, rfl, rfl, .nil, hS⟩
  case round =>
    obtain ⟨T, hTl, hm1, rfl, hTT, hT⟩ := hrel
    by_cases hlt : T.length < count
    case neg =>
      have e : T.length = count := by omega
      have b1 : decide (T.length < count) = false := by simp; omega
      have hT' := Lib.hid hT
      clear hT
      go_wp2_with fail
      exact hQ'.out _ _ _ T hTT e ⟨rfl, rfl, rfl, trivial⟩ hT'.out
    have hTT' := Lib.hid hTT
    have hT' := Lib.hid hT
    clear hT hTT
    have b1 : (T.length : Int) < (count : Int) := by omega
    go_wp2_with fail
    go_loopg [22, 125] count (fun g bv ci wr => ∃ k b, k ≤ count ∧ Hid (g = count - k) ∧ ci = .int .i64 (k : Nat) ∧ bv = .int .i64 b ∧ BestTo xss of count T k b ∧ SG w0 wr xss of count T (fun x => (waitOf xss of count T x : Int)) gw gt gu gl u20 us vs)
    case atStart => exact ⟨0, -1, Nat.zero_le _, rfl, rfl, rfl, .zero, hT'.out⟩
    case round =>
      obtain ⟨k, b, hk, hm2, rfl, rfl, hB, hT⟩ := hrel
      by_cases hlk : k < count
      case neg =>
        obtain rfl : k = count := by omega
        obtain ⟨c0, rfl, hc0, h0, hTT2⟩ := hB.done hx'.out hg'.out hTT'.out hlt
        obtain ⟨g0, m0, cp0, hm0, hv0, _, _⟩ := hT.row hg'.out hul hvl hc0
        have c1 : (0 : Int) ≤ (c0 : Int) := by omega
        have c2 : (c0 : Int) < (k : Int) := by omega
        have a0 : wr.cell? ⟨gt, c0, none⟩ = some (.bool (T.contains c0)) := by
          rw [hT.cellAt 1 rfl c0 (by omega)]
          simp [hc0]
        have a1 := hT.frozenAt 1 rfl c0
        have hS1 := hT.stored 1 rfl c0 (.bool true)
        simp only [List.set_cons_succ, List.set_cons_zero] at hS1
        rw [bools_set] at hS1
        have a2 : (wr.setCell ⟨gt, c0, none⟩ (.bool true)).cell? ⟨gl, c0, none⟩ = some (.slice (some ⟨g0, 0, none⟩) m0 cp0) := by
          rw [hS1.cellAt 3 rfl c0 (by omega), hv0]
        have hS2 := hS1.alloc (.cells #[.slice (some ⟨g0, 0, none⟩) m0 cp0] 27)
        have hS2' := Lib.hid hS2
        have hTT2' := Lib.hid hTT2
        have hv0' := Lib.hid hv0
        have h0' := Lib.hid h0
        clear hT hS1 hS2 hTT2 hB hv0 h0
        go_wp2_with (first
          | (at_builtin; refine wpList_append_sep 4 rfl _ _ 24 rfl 27 i0 (.slice none 0 0) 1 24 Tryz.underlying24 hi hz0 hz1 hz2 rfl (by decide) hS2'.out _ _ _ rfl rfl ⟨wr.heap.size, 0, none⟩ 1 1 [.slice (some ⟨g0, 0, none⟩) m0 cp0] rfl rfl (cells_new _ #[.slice (some ⟨g0, 0, none⟩) m0 cp0] _ _ (by simp)) (by simp [Value.oneCell']) (by decide) (by unfold maxLen; omega) (by omega) ?_)
          | fail)
        intro g cap w2 hS3 hsz
        have hT3 : SG w0 w2 xss of k (T ++ [c0]) (fun x => (waitOf xss of k T x : Int)) gw gt gu gl (.slice (some ⟨g, 0, none⟩) (T.length + 1) cap) us vs := by
          have e1 : (T ++ [c0]).map (fun c => vs.getD c (.slice none 0 0)) = T.map (fun c => vs.getD c (.slice none 0 0)) ++ [.slice (some ⟨g0, 0, none⟩) m0 cp0] := by
            simp [List.getD, hv0'.out]
          unfold SG
          rw [e1, List.length_append]
          simpa using hS3
        obtain ⟨uv, hu⟩ : ∃ v, us[c0]? = some v := ⟨us[c0]'(by omega), by simp⟩
        have hzu := zip_some (f := intsR) hu (usersTo_done (xss := xss) (of := of) hc0)
        have hidx : (List.zipWith intsR us (usersTo xss of k k (fun _ => false)) ++ List.zipWith intsR vs (rowsTo k xss.length of))[c0]? = some (intsR uv ((usersL xss of k c0).map fun (v : Nat) => (v : Int))) := by
          rw [List.getElem?_append_left (by simp [hul, usersTo_length]; exact hc0), hzu]
        have hnum := hT3.ints (c0 + 5) hidx
        obtain ⟨Au, cu, e, _⟩ := hnum.shape
        rw [List.length_map] at e
        subst e
        have a3 : w2.cell? ⟨gu, c0, none⟩ = some (.slice Au (usersL xss of k c0).length cu) := by
          rw [hT3.cellAt 2 rfl c0 (by omega), hu]
        have hul2 := usersL_len (xss := xss) (of := of) (count := k) c0
        have c3 : (((usersL xss of k c0).length : Nat) : Int) ≤ 1024 := by omega
        have hT3' := Lib.hid hT3
        have hidx' := Lib.hid hidx
        clear hT3 hidx hzu hnum hu hS3 hS2'
        go_wp2_with fail
        go_loopg [176] (usersL xss of k c0).length (fun g' ji wr => ∃ j : Nat, j ≤ (usersL xss of k c0).length ∧ Hid (g' = (usersL xss of k c0).length - j) ∧ ji = .int .i64 j ∧ SG w0 wr xss of k (T ++ [c0]) (waitJ xss of k T c0 j) gw gt gu gl (.slice (some ⟨g, 0, none⟩) (T.length + 1) cap) us vs)
        case atStart => exact ⟨0, Nat.zero_le _, rfl, rfl, by rw [waitJ_zero]; exact hT3'.out⟩
        case round =>
          obtain ⟨j, hj, hm3, rfl, hT⟩ := hrel
          by_cases hlj : j < (usersL xss of k c0).length
          case neg =>
            obtain rfl : j = (usersL xss of k c0).length := by omega
            have hT' := Lib.hid hT
            clear hT
            go_wp2_with fail
            go_roundg (k - (T.length + 1))
            case measure => rw [hm1.out]; omega
            case rel =>
              refine ⟨T ++ [c0], by simp; omega, Lib.hid (by simp), by simp, hTT2'.out, ?_⟩
              have h := hT'.out
              unfold SG at h ⊢
              rw [arr_congr fun v hv => waitJ_all (xss := xss) (of := of) hc0 h0'.out hv] at h
              exact h
          obtain ⟨x, hx1⟩ : ∃ x, (usersL xss of k c0)[j]? = some x := ⟨_, List.getElem?_eq_getElem hlj⟩
          have hxk : x < k := (usersL_iff.1 (List.mem_of_getElem? hx1)).1
          obtain ⟨ad, cu', e, a4⟩ := (hT.ints (c0 + 5) hidx'.out).at_ (k := j) (by simpa using hlj)
          rw [List.length_map] at e
          cases e
          have e2 : ((usersL xss of k c0).map fun (v : Nat) => (v : Int))[j]'(by simpa using hlj) = (x : Int) := by
            rw [List.getElem_map]
            obtain ⟨_, e⟩ := List.getElem?_eq_some_iff.1 hx1
            rw [e]
          rw [e2] at a4
          have a5 := arr_at 0 hT rfl x hxk
          rw [waitJ_at hx1] at a5
          have a6 := hT.frozenAt 0 rfl x
          have hS4 := hT.stored 0 rfl x (.int .i64 ((waitOf xss of k T x : Int) - 1))
          simp only [List.set_cons_zero] at hS4
          rw [arr_set, waitJ_step hx1] at hS4
          have hS4' := Lib.hid hS4
          have hwl := waitOf_le (xss := xss) (of := of) (count := k) (T := T) x
          have d1 : ((waitOf xss of k T x : Nat) : Int) ≤ 1024 := by omega
          have d2 : (0 : Int) ≤ (j : Int) := by omega
          have d3 : (j : Int) < (((usersL xss of k c0).length : Nat) : Int) := by omega
          have d4 : (0 : Int) ≤ (x : Int) := by omega
          have d5 : (x : Int) < (k : Int) := by omega
          clear hT hS4 e2
          go_wp2_with fail
          go_roundg ((usersL xss of k c0).length - (j + 1))
          case measure => rw [hm3.out]; omega
          case rel => exact ⟨j + 1, by omega, rfl, by go_num, hS4'.out⟩
      have c1 : (0 : Int) ≤ (k : Int) := by omega
      have c2 : (k : Int) < (count : Int) := by omega
      have a0 : wr.cell? ⟨gt, k, none⟩ = some (.bool (T.contains k)) := by
        rw [hT.cellAt 1 rfl k (by omega)]
        simp [hlk]
      have a1 := arr_at 0 hT rfl k hlk
      have hT2 := Lib.hid hT
      have hB' := Lib.hid hB
      obtain ⟨gk1, mk1, ck1, hmk1, hvk1, a2, a3⟩ := hT.row hg'.out hul hvl hlk
      have hT' := Lib.hid hT2
      clear hT
      have hstep : ∀ q, SG w0 (wr.drewN q) xss of count T (fun x => (waitOf xss of count T x : Int)) gw gt gu gl u20 us vs := fun q => Sep.drewN hT2.out q
      have hstep' := Lib.hid hstep
      clear hstep hT2
      by_cases hkT : k ∈ T
      · have hc : T.contains k = true := by simpa using hkT
        rw [hc] at a0
        clear a1 a2 a3 hB
        go_wp2_with fail
        go_quiet (fail)
        go_wp2_with fail
        go_roundg (count - (k + 1))
        case measure => rw [hm2.out]; omega
        case rel => exact ⟨k + 1, b, by omega, rfl, by go_num, rfl, hB'.out.skip fun h => h.1 hkT, hstep'.out _⟩
      have hc : T.contains k = false := by simpa using hkT
      rw [hc] at a0
      by_cases hw : waitOf xss of count T k = 0
      case neg =>
        have b2 : (((waitOf xss of count T k : Nat) : Int) == 0) = false := by simpa using hw
        clear a2 a3 hB
        go_wp2_with fail
        go_quiet (fail)
        go_wp2_with fail
        go_roundg (count - (k + 1))
        case measure => rw [hm2.out]; omega
        case rel => exact ⟨k + 1, b, by omega, rfl, by go_num, rfl, hB'.out.skip fun h => hw h.2, hstep'.out _⟩
      rw [hw] at a1
      rcases hB.form with rfl | ⟨c0, rfl, hc0⟩
      · clear a2 a3 hB
        go_wp2_with fail
        go_quiet (fail)
        go_wp2_with fail
        go_roundg (count - (k + 1))
        case measure => rw [hm2.out]; omega
        case rel => exact ⟨k + 1, k, by omega, rfl, by go_num, rfl, hB'.out.first hlk ⟨hkT, hw⟩, hstep'.out _⟩
      obtain ⟨g0, m0, cp0, hm0, hv0, a4, a5⟩ := hT'.out.row hg'.out hul hvl hc0
      have b3 : (0 : Int) ≤ (c0 : Int) := by omega
      have b4 : (c0 : Int) < (count : Int) := by omega
      have b5 : decide ((c0 : Int) < 0) = false := by simp
      have b6 : (0 : Int) < (mk1 : Int) := by omega
      have b7 : (0 : Int) < (m0 : Int) := by omega
      by_cases hcmp : fst' xss.length of k < fst' xss.length of c0
      · have b8 : decide (fst' xss.length of k < fst' xss.length of c0) = true := by simpa using hcmp
        clear hB
        go_wp2_with fail
        go_quiet (fail)
        go_wp2_with fail
        go_roundg (count - (k + 1))
        case measure => rw [hm2.out]; omega
        case rel => exact ⟨k + 1, k, by omega, rfl, by go_num, rfl, hB'.out.take hlk ⟨hkT, hw⟩ hcmp, hstep'.out _⟩
      · have b8 : decide (fst' xss.length of k < fst' xss.length of c0) = false := by simpa using hcmp
        clear hB
        go_wp2_with fail
        go_quiet (fail)
        go_wp2_with fail
        go_roundg (count - (k + 1))
        case measure => rw [hm2.out]; omega
        case rel => exact ⟨k + 1, c0, by omega, rfl, by go_num, rfl, hB'.out.keep (by omega), hstep'.out _⟩
end Go.Proofs.YtahkpkaodeeemaaGreat
