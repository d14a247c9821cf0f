/- Components, laid together. -/
import Derived.Test.YtahkpkaodeeemaaGreatJ9
import Derived.Test.YtahkpkaodeeemaaGreatJ10
import Derived.Test.YtahkpkaodeeemaaGreatJ11
namespace Go.Proofs.YtahkpkaodeeemaaGreat
open Go.RowKit
set_option linter.unusedVariables false

theorem info_ints : (Tryz.prog.info? 27).map (fun i => (i.zero, i.size, i.bytes)) = some (some (.slice none 0 0), 1, 24) := by kernel_rfl
theorem info_bool : (Tryz.prog.info? 4).map (fun i => (i.zero, i.size, i.bytes)) = some (some (.bool false), 1, 1) := by kernel_rfl

def inBlock : Code → Code
  | .block _ c => c
  | c => c
/-- What block k of the function holds. -/
noncomputable def compsBlock (k : Nat) : Code := inBlock ((Tryz.f26.body.bind (blockAt k)).getD .skip)

/-- The state while the components' rows are built. -/
def SC (w0 w : World) (n count k : Nat) (of : Nat → Int) (go gl : Nat) : Prop :=
  ∃ vs : List Value, vs.length = count ∧ Sep w0 w (arr go n of :: .sl 27 1 (.slice (some ⟨gl, 0, none⟩) count count) count vs :: List.zipWith intsR vs (rowsTo count k of))

set_option maxRecDepth 100000 in
set_option maxHeartbeats 1000000 in
theorem comps_rows {n count : Nat} {of : Nat → Int} {w0 w : World} {go gl : Nat} {ac : Act} {Q : Exit → Act → World → Prop}
    (hn : n ≤ 1024) (hc : count ≤ n) (hof : ∀ v, v < n → 0 ≤ of v ∧ of v < count)
    (hf : Fs 189 ac [(7, .slice (some ⟨gl, 0, none⟩) count count), (38, .slice (some ⟨go, 0, none⟩) n n), (39, .int .i64 n), (40, .int .i64 0)])
    (hS : SC w0 w n count 0 of go gl)
    (hQ : ∀ ac' w', ac'.tmps.toList.take 8 = ac.tmps.toList.take 8 → ac'.tmps.size = 189 → ac'.defers = [] → SC w0 w' n count n of go gl → Q .normal ac' w') :
    (compsBlock 0).wp Tryz.prog (Exit.inBlock 0 Q) ac w := by
  obtain ⟨f, rfl, h7, h38, h39, h40, -⟩ := hf.lit
  obtain ⟨i0, hi, hz0, hz1, hz2⟩ := info_parts info_int
  simp only at h7 h38 h39 h40
  clear hf
  simp only [lits, Nat.reduceAdd, h7, h38, h39, h40] at hQ ⊢
  have hQ' := Lib.hid hQ
  clear hQ h7 h38 h39 h40
  conv => arg 2; whnf
  go_loopg [8, 9, 40] n (fun m i8 i9 i wr => ∃ k : Nat, k ≤ n ∧ Hid (m = n - k) ∧ i = .int .i64 k ∧ SC w0 wr n count k of go gl)
  case atStart => exact ⟨0, Nat.zero_le _, rfl, rfl, hS⟩
  case round =>
    obtain ⟨k, hk, hm, rfl, hT⟩ := hrel
    by_cases hlt : k < n
    · obtain ⟨vs, hvl, hT⟩ := hT
      obtain ⟨h1, h2⟩ := hof k hlt
      obtain ⟨c, hck⟩ : ∃ c : Nat, of k = c := ⟨(of k).toNat, by omega⟩
      have hcc : c < count := by omega
      have a0 := arr_at 0 hT rfl k hlt
      rw [hck] at a0
      obtain ⟨v, hv⟩ : ∃ v, vs[c]? = some v := ⟨vs[c]'(by omega), by simp⟩
      have a1 : wr.cell? ⟨gl, c, none⟩ = some v := by rw [hT.cellAt 1 rfl c (by omega), hv]
      have hz := zip_some (f := intsR) hv (rowsTo_some (k := k) (of := of) hcc)
      have b1 : (k : Int) < (n : Int) := by omega
      have b2 : (0 : Int) ≤ (k : Int) := by omega
      have b3 : (0 : Int) ≤ (c : Int) := by omega
      have b4 : (c : Int) < (count : Int) := by omega
      have b5 : (n : Int) ≤ 1024 := by omega
      have hlen : (cls k of c).length ≤ 1024 := by
        have := (List.filter_sublist (p := fun v => of v == (c : Int)) (l := List.range k)).length_le
        simp only [List.length_range] at this
        unfold cls
        omega
      have hT1 := hT.alloc (.cells #[.int .i64 k] 3)
      have hT1' := Lib.hid hT1
      have hv' := Lib.hid hv
      have hz' := Lib.hid hz
      have hck' := Lib.hid hck
      clear hT1 hz hck h1 h2 hv
      go_wp2_with (first
        | (at_builtin; refine wpList_append_sep (c + 2) rfl _ _ 27 rfl 3 i0 (.int .i64 0) 1 8 Tryz.underlying27 hi hz0 hz1 hz2 rfl (by decide) hT1'.out _ _ _ hz'.out rfl ⟨wr.heap.size, 0, none⟩ 1 1 [.int .i64 k] rfl rfl (cell_one_new _ _ _) (by simp [Value.oneCell']) (by decide) (by simp only [List.length_map]; unfold maxLen; omega) (by simp only [List.length_map]; omega) ?_)
        | fail)
      intro g cap w1 hS2 hsz
      have a2 : w1.cell? ⟨gl, c, none⟩ = some v := by rw [hS2.cellAt 1 rfl c (by omega), hv'.out]
      have a3 := hS2.frozenAt 1 rfl c
      have hS3 := hS2.stored 1 rfl c (.slice (some ⟨g, 0, none⟩) ((List.map (fun (v : Nat) => (v : Int)) (cls k of c)).length + 1) cap)
      have hS3' := Lib.hid hS3
      clear hS3 hS2 hT hT1' a0 a1
      go_wp2_with fail
      go_roundg (n - (k + 1))
      case measure => rw [hm.out]; omega
      case rel =>
        refine ⟨k + 1, by omega, rfl, by go_num, vs.set c (.slice (some ⟨g, 0, none⟩) ((List.map (fun (v : Nat) => (v : Int)) (cls k of c)).length + 1) cap), by simpa using hvl, ?_⟩
        rw [rowsTo_succ hcc hck'.out, zip_set]
        have h := hS3'.out
        simpa [intsR] using h
    · go_wp2_with fail
      obtain rfl : k = n := by omega
      exact hQ'.out _ _ rfl rfl rfl hT

/-- The state while it is told who waits for whom. -/
def SD (w0 w : World) (xss : List (List Int)) (of : Nat → Int) (count c : Nat) (h : Nat → Bool) (m bm gw gu gl go : Nat) (F : Int → Int) (vs : List Value) : Prop :=
  ∃ us : List Value, us.length = count ∧ Sep w0 w (imapR bm m F :: arr gw count (waitTo xss of count c h) :: arr go xss.length of :: .sl 27 1 (.slice (some ⟨gu, 0, none⟩) count count) count us :: .sl 27 1 (.slice (some ⟨gl, 0, none⟩) count count) count vs ::
    (List.zipWith intsR us (usersTo xss of count c h) ++ List.zipWith intsR vs (rowsTo count xss.length of)))

theorem adjOf_nth {xss : List (List Int)} (hx : refused xss = 0) {v q : Nat} (hv : v < xss.length) (hq : q < (xss[v]).length) : ∃ u : Nat, xss[v][q] = (u : Int) ∧ u < xss.length ∧ (adjOf xss v)[q]? = some u := by
  obtain ⟨_, _, hg⟩ := refused_zero hx
  have := hg v hv q hq
  refine ⟨(xss[v][q]).toNat, by omega, by omega, ?_⟩
  rw [adjOf_at hv, List.getElem?_map, List.getElem?_eq_getElem hq]
  rfl

theorem wf_i64 {x : Int} (h1 : -9223372036854775808 ≤ x) (h2 : x ≤ 9223372036854775807) : (Lit.int .i64 x).wf = true := by
  have e1 : IntKind.i64.min = -9223372036854775808 := by decide
  have e2 : IntKind.i64.max = 9223372036854775807 := by decide
  simp only [Lit.wf, e1, e2]
  simpa using ⟨h1, h2⟩
theorem IntsAt.all {w0 : World} {v : Value} {xs : List Int} {k : Nat} (h : IntsAt w0 v xs) (hk : k < xs.length) :
    ∃ ad c, v = .slice (some ad) xs.length c ∧ ∀ w', Below w0.heap.size w0 w' → w'.cell? (ad.add k) = some (.int .i64 xs[k]) := by
  obtain ⟨ad, c, rfl, _⟩ := h.at_ hk
  refine ⟨ad, c, rfl, fun w' hb => ?_⟩
  obtain ⟨ad', c', e, h'⟩ := (h.below hb).at_ hk
  injection e with e1 e2 e3
  injection e1 with e1
  rw [e1]
  exact h'
theorem RowsAt.all {w0 : World} {v : Value} {xss : List (List Int)} {k : Nat} (h : RowsAt w0 v xss) (hk : k < xss.length) :
    ∃ ad c u, v = .slice (some ad) xss.length c ∧ IntsAt w0 u xss[k] ∧ ∀ w', Below w0.heap.size w0 w' → w'.cell? (ad.add k) = some u := by
  obtain ⟨vs, h1, h2⟩ := h
  obtain ⟨ad, c, u, rfl, hc, hd⟩ := Rd.at_ h1 hk
  refine ⟨ad, c, u, rfl, h2 k u _ hc (List.getElem?_eq_getElem hk), fun w' hb => ?_⟩
  obtain ⟨ad', c', u', e, hc', hd'⟩ := Rd.at_ (Rd.below h1 hb) hk
  rw [hc] at hc'
  injection hc' with hc'
  injection e with e1 e2 e3
  injection e1 with e1
  rw [e1, hc']
  exact hd'
theorem met_step {xss : List (List Int)} {of : Nat → Int} (dn : List Nat) {i q u : Nat} (h : (adjOf xss i)[q]? = some u) :
    dn ++ ((adjOf xss i).take (q + 1)).map (fun u => (of u).toNat) = (dn ++ ((adjOf xss i).take q).map (fun u => (of u).toNat)) ++ [(of u).toNat] := by
  rw [List.take_add_one, h]
  simp
theorem cls_len (n : Nat) (of : Nat → Int) (c : Nat) : (cls n of c).length ≤ n := by
  have := (List.filter_sublist (p := fun v => of v == (c : Int)) (l := List.range n)).length_le
  simpa [cls] using this

/-- The state while the needs of component c are gone through, those of dn being met. -/
def SE (w0 w : World) (xss : List (List Int)) (of : Nat → Int) (count c : Nat) (dn : List Nat) (bm gw gu gl go : Nat) (vs : List Value) : Prop :=
  SD w0 w xss of count c (hit dn c) (cntB count (hit dn c)) bm gw gu gl go (lastOf (hit dn c)) vs
theorem SE.same {w0 w : World} {xss : List (List Int)} {of : Nat → Int} {count c : Nat} {dn : List Nat} {bm gw gu gl go : Nat} {vs : List Value} {d : Nat} (h : SE w0 w xss of count c dn bm gw gu gl go vs) (hd : d = c ∨ hit dn c d = true) :
    SE w0 w xss of count c (dn ++ [d]) bm gw gu gl go vs := by
  unfold SE
  rw [hit_same hd]
  exact h
set_option maxRecDepth 100000 in
set_option maxHeartbeats 2000000 in
theorem comps_waits {xss : List (List Int)} {of : Nat → Int} {count : Nat} {w0 w : World} {nv : Value} {bm gw gu gl go : Nat} {vs : List Value} {ac : Act} {Q : Exit → Act → World → Prop}
    (hx : refused xss = 0) (hg : Good xss of count) (hn : RowsAt w0 nv xss) (hvl : vs.length = count) (m0 : Nat) (F0 : Int → Int)
    (hf : Fs 189 ac [(0, nv), (5, .slice (some ⟨go, 0, none⟩) xss.length xss.length), (10, .slice (some ⟨gw, 0, none⟩) count count), (11, .slice (some ⟨gu, 0, none⟩) count count), (12, .map (some bm)), (61, .slice (some ⟨gl, 0, none⟩) count count), (62, .int .i64 count), (63, .int .i64 0)])
    (hS : SD w0 w xss of count 0 (fun _ => false) m0 bm gw gu gl go F0 vs)
    (hQ : ∀ ac' w' m F, ac'.tmps.toList.take 13 = ac.tmps.toList.take 13 → ac'.tmps.size = 189 → ac'.defers = [] → SD w0 w' xss of count count (fun _ => false) m bm gw gu gl go F vs → Q .normal ac' w') :
    (compsBlock 2).wp Tryz.prog (Exit.inBlock 2 Q) ac w := by
  obtain ⟨f, rfl, h0, h5, h10, h11, h12, h61, h62, h63, -⟩ := hf.lit
  obtain ⟨i0, hi, hz0, hz1, hz2⟩ := info_parts info_int
  obtain ⟨hl, hrow, _⟩ := refused_zero hx
  have hcl := hg.le
  obtain ⟨A, cA, rfl, _⟩ := hn.shape
  simp only at h0 h5 h10 h11 h12 h61 h62 h63
  clear hf
  simp only [lits, Nat.reduceAdd, h0, h5, h10, h11, h12, h61, h62, h63] at hQ ⊢
  have hQ' := Lib.hid hQ
  have hg' := Lib.hid hg
  have hrow' := Lib.hid hrow
  have hx' := Lib.hid hx
  have bl : (xss.length : Int) ≤ 1024 := by omega
  have bc : (count : Int) ≤ 1024 := by omega
  clear hQ h0 h5 h10 h11 h12 h61 h62 h63 hg hrow hx
  conv => arg 2; whnf
  go_loopg [63] count (fun g ci wr => ∃ c m F, c ≤ count ∧ Hid (g = count - c) ∧ ci = .int .i64 (c : Nat) ∧ SD w0 wr xss of count c (fun _ => false) m bm gw gu gl go F vs)
  case atStart => exact ⟨0, m0, F0, Nat.zero_le _, rfl, rfl, hS⟩
  case round =>
    obtain ⟨c, m, F, hc, hm1, rfl, hT⟩ := hrel
    by_cases hlt : c < count
    case neg =>
      go_wp2_with fail
      obtain rfl : c = count := by omega
      exact hQ'.out _ _ _ _ rfl rfl rfl hT
    obtain ⟨us, hul, hT⟩ := hT
    obtain ⟨v, hv⟩ : ∃ v, vs[c]? = some v := ⟨vs[c]'(by omega), by simp⟩
    have a0 : wr.cell? ⟨gl, c, none⟩ = some v := by rw [hT.cellAt 4 rfl c (by omega), hv]
    obtain ⟨w1, hclr, hT1⟩ := hT.imap_clear 0 rfl 0
    have hzl := zip_some (f := intsR) hv (rowsTo_some (k := xss.length) (of := of) hlt)
    have hidx : ∀ (us : List Value) (U : List (List Int)), us.length = count → U.length = count → (List.zipWith intsR us U ++ List.zipWith intsR vs (rowsTo count xss.length of))[count + c]? = some (intsR v ((cls xss.length of c).map fun (v : Nat) => (v : Int))) := by
      intro us U h1 h2
      rw [List.getElem?_append_right (by simp [h1, h2]), ← hzl]
      congr 1
      simp [h1, h2]
    have hnum := hT1.ints (count + c + 5) (hidx us _ hul (usersTo_length _ _))
    have hpos : 0 < (cls xss.length of c).length := List.length_pos_iff.2 (hg'.out.cls_ne hlt)
    obtain ⟨gr, cr, e, _⟩ := hT1.sl_form (count + c + 5) (hidx us _ hul (usersTo_length _ _)) (by simpa using hpos)
    rw [List.length_map] at e
    subst e
    have hcK : (cls xss.length of c).length ≤ 1024 := Nat.le_trans (cls_len _ _ _) hl
    have b2 : (0 : Int) ≤ (c : Int) := by omega
    have b3 : (c : Int) < (count : Int) := by omega
    have b4 : (((cls xss.length of c).length : Nat) : Int) ≤ 1024 := by omega
    have hidx2 : ∀ (us : List Value) (U : List (List Int)), us.length = count → U.length = count → (List.zipWith intsR us U ++ List.zipWith intsR vs (rowsTo count xss.length of))[count + c]? = some (.sl 3 1 (.slice (some ⟨gr, 0, none⟩) (cls xss.length of c).length cr) (cls xss.length of c).length (((cls xss.length of c).map fun (v : Nat) => (v : Int)).map (Value.int .i64))) := fun us U h1 h2 => by
      rw [hidx us U h1 h2, intsR, List.length_map]
    have hidx' := Lib.hid hidx2
    have hT1' := Lib.hid hT1
    clear hidx hidx2 hT1 hzl hnum hT hv
    go_wp2_with fail
    go_loopg [71] (cls xss.length of c).length (fun g pi wr => ∃ p : Nat, p ≤ (cls xss.length of c).length ∧ Hid (g = (cls xss.length of c).length - p) ∧ pi = .int .i64 p ∧ SE w0 wr xss of count c (metTo xss of c p) bm gw gu gl go vs)
    case atStart =>
      refine ⟨0, Nat.zero_le _, rfl, rfl, ?_⟩
      unfold SE
      rw [metTo_zero, hit_nil, cntB_false, lastOf_false]
      exact ⟨us, hul, hT1'.out⟩
    case round =>
      obtain ⟨p, hp, hm2, rfl, hT⟩ := hrel
      by_cases hlp : p < (cls xss.length of c).length
      case neg =>
        obtain rfl : p = (cls xss.length of c).length := by omega
        have hT' := Lib.hid hT
        clear hT
        go_wp2_with fail
        go_roundg (count - (c + 1))
        case measure => rw [hm1.out]; omega
        case rel =>
          have h := hT'.out
          unfold SE at h
          rw [metTo_all, hit_alls] at h
          obtain ⟨us', hul', h⟩ := h
          exact ⟨c + 1, _, _, by omega, rfl, by go_num, us', hul', by rw [← waitTo_next, ← usersTo_next]; exact h⟩
      obtain ⟨i, hi⟩ : ∃ i, (cls xss.length of c)[p]? = some i := ⟨_, List.getElem?_eq_getElem hlp⟩
      obtain ⟨hi1, hi2⟩ := cls_iff.1 (List.mem_of_getElem? hi)
      have hTw := hT
      obtain ⟨us2, hul2, hT⟩ := hT
      have a1 : wr.cell? ⟨gr, p, none⟩ = some (.int .i64 i) := by
        rw [hT.cellAt (count + c + 5) (hidx'.out us2 _ hul2 (usersTo_length _ _)) p (by omega)]
        simp [hi]
      obtain ⟨ad, cA', u, e, hrow1, hrowc⟩ := hn.all hi1
      cases e
      have a2 := hrowc wr hT.below
      obtain ⟨Ar, cr', rfl, _⟩ := hrow1.shape
      have hL := hrow'.out i hi1
      have b5 : (0 : Int) ≤ (i : Int) := by omega
      have b6 : (i : Int) < (xss.length : Int) := by omega
      have b7 : (p : Int) < (((cls xss.length of c).length : Nat) : Int) := by omega
      have b8 : (0 : Int) ≤ (p : Int) := by omega
      have b9 : (((xss[i]).length : Nat) : Int) ≤ 1024 := by omega
      have hTw' := Lib.hid hTw
      have hi' := Lib.hid hi
      have hi2' := Lib.hid hi2
      have hrow1' := Lib.hid hrow1
      clear hT hTw hi hi2 hrowc hrow1
      go_wp2_with fail
      go_loopg [80] (xss[i]).length (fun g qi wr => ∃ q : Nat, q ≤ (xss[i]).length ∧ Hid (g = (xss[i]).length - q) ∧ qi = .int .i64 q ∧ SE w0 wr xss of count c (metTo xss of c p ++ ((adjOf xss i).take q).map fun u => (of u).toNat) bm gw gu gl go vs)
      case atStart =>
        refine ⟨0, Nat.zero_le _, rfl, rfl, ?_⟩
        simpa using hTw'.out
      case round =>
        obtain ⟨q, hq, hm3, rfl, hT⟩ := hrel
        by_cases hlq : q < (xss[i]).length
        case neg =>
          obtain rfl : q = (xss[i]).length := by omega
          have hT' := Lib.hid hT
          clear hT
          go_wp2_with fail
          go_roundg ((cls xss.length of c).length - (p + 1))
          case measure => rw [hm2.out]; omega
          case rel =>
            refine ⟨p + 1, by omega, rfl, by go_num, ?_⟩
            rw [metTo_succ hi'.out]
            have h := hT'.out
            rwa [List.take_of_length_le (by rw [adjOf_at hi1, List.length_map]; exact Nat.le_refl _)] at h
        obtain ⟨k, hk, hkn, hadj⟩ := adjOf_nth hx'.out hi1 hlq
        obtain ⟨d, hdc, hof⟩ := hg'.out.num hkn
        have hTw := hT
        obtain ⟨us3, hul3, hT⟩ := hT
        obtain ⟨ad2, cr2, e, hrowc⟩ := hrow1'.out.all hlq
        cases e
        have a3 := hrowc wr hT.below
        rw [hk] at a3
        have a4 := arr_at 2 hT rfl k hkn
        rw [hof] at a4
        have hms := met_step (of := of) (metTo xss of c p) hadj
        rw [hof, Int.toNat_natCast] at hms
        have c1 : (0 : Int) ≤ (q : Int) := by omega
        have c2 : (q : Int) < (((xss[i]).length : Nat) : Int) := by omega
        have c3 : (0 : Int) ≤ (k : Int) := by omega
        have c4 : (k : Int) < (xss.length : Int) := by omega
        have c5 : (d : Int) < (count : Int) := by omega
        have c6 : (0 : Int) ≤ (d : Int) := by omega
        have hTw' := Lib.hid hTw
        have hms' := Lib.hid hms
        clear hTw hms hrowc hk hof hadj
        by_cases hdd : d = c
        · subst hdd
          have hd1 : (((d : Nat) : Int) != ((d : Nat) : Int)) = false := by simp
          clear hT
          go_wp2_with fail
          go_roundg ((xss[i]).length - (q + 1))
          case measure => rw [hm3.out]; omega
          case rel =>
            refine ⟨q + 1, by omega, rfl, by go_num, ?_⟩
            rw [hms'.out]
            exact hTw'.out.same (.inl rfl)
        have hd1 : (((d : Nat) : Int) != ((c : Nat) : Int)) = true := by simp; omega
        have hwf : (Lit.int .i64 (d : Int)).wf = true := wf_i64 (by omega) (by omega)
        have hlook := hT.imap_look 0 rfl (d : Int) hwf
        rw [lastOf_at] at hlook
        by_cases hh : hit (metTo xss of c p ++ ((adjOf xss i).take q).map fun u => (of u).toNat) c d = true
        · rw [if_pos hh] at hlook
          clear hT
          go_wp2_with fail
          go_roundg ((xss[i]).length - (q + 1))
          case measure => rw [hm3.out]; omega
          case rel =>
            refine ⟨q + 1, by omega, rfl, by go_num, ?_⟩
            rw [hms'.out]
            exact hTw'.out.same (.inr hh)
        rw [if_neg hh] at hlook
        generalize hdn : (metTo xss of c p ++ ((adjOf xss i).take q).map fun u => (of u).toNat) = dn at hT hTw' hms' hh
        have h0 : hit dn c d = false := by simpa using hh
        have hce := cntB_le count (hit dn c)
        obtain ⟨w1, hput, hS1⟩ := hT.imap_put 0 rfl (by unfold maxLen; omega) (d : Int) 1 hwf (by decide)
        rw [lastOf_put, ← cntB_add count (hit dn c) d hdc h0] at hS1
        have a5 := arr_at 1 hS1 rfl c hlt
        rw [waitTo_at] at a5
        have a6 := hS1.frozenAt 1 rfl c
        have hS2 := hS1.stored 1 rfl c (.int .i64 ((cntB count (hit dn c) : Int) + 1))
        simp only [List.set_cons_succ, List.set_cons_zero] at hS2
        rw [arr_set, waitTo_add hdc h0] at hS2
        obtain ⟨v, hv⟩ : ∃ v, us3[d]? = some v := ⟨us3[d]'(by omega), by simp⟩
        have a7 : (w1.setCell ⟨gw, c, none⟩ (.int .i64 ((cntB count (hit dn c) : Int) + 1))).cell? ⟨gu, d, none⟩ = some v := by rw [hS2.cellAt 3 rfl d (by omega), hv]
        have hus := usersTo_some (xss := xss) (of := of) (c := c) (h := hit dn c) hdc
        rw [h0] at hus
        simp only [Bool.false_eq_true, if_false, List.append_nil] at hus
        have hzu := zip_some (f := intsR) hv hus
        have hzu2 : (List.zipWith intsR us3 (usersTo xss of count c (hit dn c)) ++ List.zipWith intsR vs (rowsTo count xss.length of))[d]? = some (intsR v (((List.range c).filter fun x => needB xss of x d).map (fun (v : Nat) => (v : Int)))) := by
          rw [List.getElem?_append_left (by simp [hul3, usersTo_length]; exact hdc), hzu]
        have hRl : ((List.range c).filter fun x => needB xss of x d).length ≤ 1024 := by
          have := List.length_filter_le (fun x => needB xss of x d) (List.range c)
          rw [List.length_range] at this
          omega
        have hS3 := hS2.alloc (.cells #[.int .i64 c] 3)
        have hS3' := Lib.hid hS3
        have hzu' := Lib.hid hzu2
        have hv' := Lib.hid hv
        have hh0' := Lib.hid h0
        have d1 : ((cntB count (hit dn c) : Nat) : Int) ≤ 1024 := by omega
        clear hT hTw' hh h0 hS1 hS2 hS3 hzu hzu2 hv hus hdn
        go_wp2_with (first
          | (at_builtin; refine wpList_append_sep (d + 5) rfl _ _ 27 rfl 3 i0 (.int .i64 0) 1 8 Tryz.underlying27 hi hz0 hz1 hz2 rfl (by decide) hS3'.out v _ _ hzu'.out rfl ⟨w1.heap.size, 0, none⟩ 1 1 [.int .i64 c] rfl rfl (cells_new _ #[.int .i64 c] _ _ (by simp)) (by simp [Value.oneCell']) (by decide) (by simp only [List.length_map]; unfold maxLen; omega) (by simp only [List.length_map]; omega) ?_)
          | fail)
        intro g cap w4 hS4 hsz
        have a8 := hS4.frozenAt 3 rfl d
        have a9 : w4.cell? ⟨gu, d, none⟩ = some v := by rw [hS4.cellAt 3 rfl d (by omega), hv'.out]
        have hS5 := hS4.stored 3 rfl d (.slice (some ⟨g, 0, none⟩) ((List.map (fun (v : Nat) => (v : Int)) (List.filter (fun x => needB xss of x d) (List.range c))).length + 1) cap)
        have hS5' := Lib.hid hS5
        clear hS5 hS4 hS3' a7 a5 a6
        go_wp2_with fail
        go_roundg ((xss[i]).length - (q + 1))
        case measure => rw [hm3.out]; omega
        case rel =>
          refine ⟨q + 1, by omega, rfl, by go_num, ?_⟩
          rw [hms'.out]
          refine ⟨us3.set d (.slice (some ⟨g, 0, none⟩) ((List.map (fun (v : Nat) => (v : Int)) (List.filter (fun x => needB xss of x d) (List.range c))).length + 1) cap), by simpa using hul3, ?_⟩
          rw [hit_new hdd, usersTo_add hdc hh0'.out, zip_set, ← List.set_append_left _ _ (by simp [hul3, usersTo_length]; exact hdc)]
          have h := hS5'.out
          simpa [intsR] using h
end Go.Proofs.YtahkpkaodeeemaaGreat
