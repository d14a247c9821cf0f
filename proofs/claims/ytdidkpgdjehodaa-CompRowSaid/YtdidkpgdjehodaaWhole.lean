/- CompWhole, walked: its three passes. -/
import Derived.Test.YtdidkpgdjehodaaWholePlain
import Derived.Test.YtdidkpgdjehodaaMuch
namespace Go.Proofs.Ytdidkpgdjehodaa
open Go.RowKit
set_option linter.unusedVariables false

noncomputable def wholeBlock (k : Nat) : Code := inBlock ((Try.f3.body.bind (blockAt k)).getD .skip)

def natRows (R : List (List Nat)) : List (List Int) := R.map fun r => r.map fun (v : Nat) => (v : Int)
theorem rowsN_cells {w0 w : World} {v : Value} {R : List (List Nat)} {Rest : List Asn} (h : Sep w0 w (rowsR v (natRows R) :: Rest)) {i : Nat} {r : List Nat} (hr : R[i]? = some r) :
    ∃ g c u, v = .slice (some ⟨g, 0, none⟩) R.length c ∧ w.cell? ⟨g, i, none⟩ = some u ∧ (∃ A cr, u = .slice A r.length cr) ∧
      (0 < r.length → ∃ gr cr, u = .slice (some ⟨gr, 0, none⟩) r.length cr ∧ ∀ (j x : Nat), r[j]? = some x → w.cell? ⟨gr, j, none⟩ = some (.int .i64 (x : Int))) := by
  obtain ⟨hi, e⟩ := List.getElem?_eq_some_iff.1 hr
  have hk : i < (natRows R).length := by simpa [natRows] using hi
  have e2 : (natRows R)[i] = r.map fun (v : Nat) => (v : Int) := by simp [natRows, e]
  obtain ⟨g, c, u, h1, h2, ⟨A, cr, h3⟩, h4⟩ := rows_cells h hk
  refine ⟨g, c, u, by simpa [natRows] using h1, h2, ⟨A, cr, by simpa [e2] using h3⟩, fun hpos => ?_⟩
  obtain ⟨gr, cr', h5, h6⟩ := h4 (by simpa [e2] using hpos)
  refine ⟨gr, cr', by simpa [e2] using h5, fun j x hx => ?_⟩
  obtain ⟨hj, ex⟩ := List.getElem?_eq_some_iff.1 hx
  rw [h6 j (by simpa [e2] using hj)]
  simp [e2, ex]

/-- The told rows, and 'at' when those of F are met. -/
def SW (w0 w : World) (R : List (List Nat)) (lv : Value) (ga n : Nat) (F : List Nat) : Prop := Sep w0 w [rowsR lv (natRows R), arr ga n (atF R F)]

set_option maxRecDepth 100000 in
set_option maxHeartbeats 2000000 in
theorem whole_at {xss : List (List Int)} {R : List (List Nat)} {w0 w : World} {lv : Value} {A : Option Addr} {cA : Nat} {ga : Nat} {ac : Act} {Q : Exit → Act → World → Prop}
    (hn : xss.length ≤ 1024) (hR : R.length ≤ 1024) (hnd : R.flatten.Nodup) (hlen : R.flatten.length = xss.length)
    (hrow : ∀ (i : Nat) (r : List Nat), R[i]? = some r → (∀ x, x ∈ r → x < xss.length) ∧ ∀ (k x y : Nat), r[k]? = some x → r[k + 1]? = some y → x < y)
    (hf : Fs 222 ac [(0, .slice A xss.length cA), (5, lv), (7, .slice (some ⟨ga, 0, none⟩) xss.length xss.length), (8, .int .i64 0), (9, .int .i64 0)])
    (hS : SW w0 w R lv ga xss.length [])
    (hQ : ∀ ac' w', Fs 222 ac' [(0, .slice A xss.length cA), (5, lv), (7, .slice (some ⟨ga, 0, none⟩) xss.length xss.length), (8, .int .i64 xss.length)] → SW w0 w' R lv ga xss.length R.flatten → Q .normal ac' w') :
    (wholeBlock 0).wp Try.prog (Exit.inBlock 0 Q) ac w := by
  obtain ⟨f, rfl, h0, h5, h7, h8, h9, -⟩ := hf.lit
  obtain ⟨B, cB, rfl, _⟩ := (hS.rows 0 rfl).shape
  have hRn : (natRows R).length = R.length := by simp [natRows]
  rw [hRn] at h5 hS hQ
  simp only at h0 h5 h7 h8 h9
  clear hf
  simp only [lits, Nat.reduceAdd, h0, h5, h7, h8, h9] at hQ ⊢
  have hQ' := Lib.hid hQ
  have hnd' := Lib.hid hnd
  have hrow' := Lib.hid hrow
  have hlen' := Lib.hid hlen
  have bn : (xss.length : Int) ≤ 1024 := by omega
  have bR : (R.length : Int) ≤ 1024 := by omega
  clear hQ h0 h5 h7 h8 h9 hnd hrow hlen hRn
  conv => arg 2; whnf
  go_loopg [8, 9] R.length (fun g nn ii wr => ∃ i : Nat, i ≤ R.length ∧ Hid (g = R.length - i) ∧ ii = .int .i64 i ∧ nn = .int .i64 (metF R i 0).length ∧ SW w0 wr R (.slice B R.length cB) ga xss.length (metF R i 0))
  case atStart => exact ⟨0, Nat.zero_le _, rfl, rfl, rfl, hS⟩
  case round =>
    obtain ⟨i, hi, hm, rfl, rfl, hT⟩ := hrel
    by_cases hlt : i < R.length
    case neg =>
      obtain rfl : i = R.length := by omega
      have hT' := Lib.hid hT
      have e : (metF R R.length 0).length = xss.length := by rw [metF_all, hlen'.out]
      rw [metF_all] at hT
      have hT' := Lib.hid hT
      clear hT
      go_wp2_with fail
      exact hQ'.out _ _ ⟨rfl, rfl, rfl, rfl, rfl, by simp [e], trivial⟩ hT'.out
    obtain ⟨r, hr⟩ : ∃ r, R[i]? = some r := ⟨_, List.getElem?_eq_getElem hlt⟩
    have b1 : (0 : Int) ≤ (i : Int) := by omega
    have b2 : (i : Int) < (R.length : Int) := by omega
    have hT' := Lib.hid hT
    clear hT
    go_wp2_with fail
    go_loopg [8, 10] r.length (fun g nn kk wr => ∃ k : Nat, k ≤ r.length ∧ Hid (g = r.length - k) ∧ kk = .int .i64 k ∧ nn = .int .i64 (metF R i k).length ∧ SW w0 wr R (.slice B R.length cB) ga xss.length (metF R i k))
    case atStart => exact ⟨0, Nat.zero_le _, rfl, rfl, rfl, hT'.out⟩
    case round =>
      obtain ⟨k, hk, hm2, rfl, rfl, hT⟩ := hrel
      obtain ⟨g, c, u, e, a0, ⟨A1, cr1, rfl⟩, hcell⟩ := rowsN_cells hT hr
      cases e
      by_cases hlk : k < r.length
      case neg =>
        obtain rfl : k = r.length := by omega
        have hT' := Lib.hid hT
        clear hT hcell
        go_wp2_with fail
        go_roundg (R.length - (i + 1))
        case measure => rw [hm.out]; omega
        case rel =>
          have h := hT'.out
          rw [metF_next hr] at h ⊢
          exact ⟨i + 1, by omega, rfl, by go_num, rfl, h⟩
      obtain ⟨x, hx⟩ : ∃ x, r[k]? = some x := ⟨_, List.getElem?_eq_getElem hlk⟩
      have hxr := List.mem_of_getElem? hx
      have hxn := (hrow'.out i r hr).1 x hxr
      obtain ⟨gr, cr, e, hcells⟩ := hcell (by omega)
      cases e
      have a1 := hcells k x hx
      have hxF := metF_new hnd'.out hr hx
      have a2 := arr_at 1 hT rfl x hxn
      rw [atF, if_neg hxF] at a2
      have a3 := hT.frozenAt 1 rfl x
      have hS1 := hT.stored 1 rfl x (.int .i64 ((i : Int) + 1))
      simp only [List.set_cons_succ, List.set_cons_zero] at hS1
      rw [arr_set, atF_step hnd'.out _ hr hxr, ← metF_step hr hx] at hS1
      have hFl : (metF R i k).length ≤ xss.length := by
        obtain ⟨S, e⟩ := metF_pre (k := k) hr
        have := congrArg List.length e
        rw [hlen'.out, List.length_append] at this
        omega
      have hrl : r.length ≤ 1024 := by
        obtain ⟨S, e⟩ := metF_pre (k := r.length) hr
        have := congrArg List.length e
        rw [hlen'.out, List.length_append, metF_next hr] at this
        have h2 : (metF R (i + 1) 0).length ≥ r.length := by
          rw [← metF_next hr]
          simp [metF, List.getD, hr]
        omega
      have hstep : ∀ q, SW w0 ((wr.drewN q).setCell ⟨ga, x, none⟩ (.int .i64 ((i : Int) + 1))) R (.slice (some ⟨g, 0, none⟩) R.length cB) ga xss.length (metF R i (k + 1)) := fun q => by
        have h := (Sep.drewN hT q).stored 1 rfl x (.int .i64 ((i : Int) + 1))
        simp only [List.set_cons_succ, List.set_cons_zero] at h
        rw [arr_set, atF_step hnd'.out _ hr hxr, ← metF_step hr hx] at h
        exact h
      have hstep' := Lib.hid hstep
      have c1 : (0 : Int) ≤ (k : Int) := by omega
      have c2 : (k : Int) < (r.length : Int) := by omega
      have c3 : (0 : Int) ≤ (x : Int) := by omega
      have c4 : (x : Int) < (xss.length : Int) := by omega
      have c5 : decide ((x : Int) < 0) = false := by simp
      have c6 : decide (xss.length ≤ x) = false := by simp; omega
      have c7 : ((metF R i k).length : Int) ≤ 1024 := by omega
      have c8 : (r.length : Int) ≤ 1024 := by omega
      have hml : (metF R i (k + 1)).length = (metF R i k).length + 1 := by rw [metF_step hr hx]; simp
      have hml' := Lib.hid hml
      clear hT hS1 hstep hxF hml hcell
      cases k with
      | zero =>
        clear hcells
        go_wp2_with fail
        go_quiet (fail)
        go_wp2_with fail
        go_roundg (r.length - (0 + 1))
        case measure => rw [hm2.out]; omega
        case rel => exact ⟨1, by omega, rfl, rfl, by rw [hml'.out]; go_num, hstep'.out _⟩
      | succ k =>
        obtain ⟨y, hy⟩ : ∃ y, r[k]? = some y := ⟨r[k]'(by omega), List.getElem?_eq_getElem _⟩
        have hyx := (hrow'.out i r hr).2 k y x hy hx
        have a4 := hcells k y hy
        have d1 : decide (x ≤ y) = false := by simp; omega
        have d2 : (0 : Int) ≤ (k : Int) := by omega
        have d3 : (k : Int) < (r.length : Int) := by omega
        clear hcells
        go_wp2_with fail
        go_quiet (fail)
        go_wp2_with fail
        go_roundg (r.length - (k + 1 + 1))
        case measure => rw [hm2.out]; omega
        case rel => exact ⟨k + 1 + 1, by omega, rfl, by go_num, by rw [hml'.out]; go_num, hstep'.out _⟩

set_option maxRecDepth 100000 in
set_option maxHeartbeats 2000000 in
theorem whole_order {xss : List (List Int)} {w0 w : World} {nv lv : Value} {Rest : List Asn} {p : Nat → Nat} {ga : Nat} {ac : Act} {Q : Exit → Act → World → Prop}
    (hx : refused xss = 0) (hn : RowsAt w0 nv xss) (hp : ∀ v u, v < xss.length → u ∈ adjOf xss v → p u ≤ p v)
    (hf : Fs 222 ac [(0, nv), (5, lv), (7, .slice (some ⟨ga, 0, none⟩) xss.length xss.length), (11, .int .i64 0)])
    (hS : Sep w0 w (arr ga xss.length (fun v => (p v : Int)) :: Rest))
    (hQ : ∀ ac' w', Fs 222 ac' [(0, nv), (5, lv)] → Sep w0 w' (arr ga xss.length (fun v => (p v : Int)) :: Rest) → Q .normal ac' w') :
    (wholeBlock 4).wp Try.prog (Exit.inBlock 4 Q) ac w := by
  obtain ⟨f, rfl, h0, h5, h7, h11, -⟩ := hf.lit
  obtain ⟨hl, hrow, _⟩ := refused_zero hx
  obtain ⟨A, cA, rfl, _⟩ := hn.shape
  simp only at h0 h5 h7 h11
  clear hf
  simp only [lits, Nat.reduceAdd, h0, h5, h7, h11] at hQ ⊢
  have hQ' := Lib.hid hQ
  have hx' := Lib.hid hx
  have hrow' := Lib.hid hrow
  have hp' := Lib.hid hp
  have bn : (xss.length : Int) ≤ 1024 := by omega
  clear hQ h0 h5 h7 h11 hx hrow hp
  conv => arg 2; whnf
  go_loopg [11] xss.length (fun g ii wr => ∃ i : Nat, i ≤ xss.length ∧ Hid (g = xss.length - i) ∧ ii = .int .i64 i ∧ Sep w0 wr (arr ga xss.length (fun v => (p v : Int)) :: Rest))
  case atStart => exact ⟨0, Nat.zero_le _, rfl, rfl, hS⟩
  case round =>
    obtain ⟨i, hi, hm, rfl, hT⟩ := hrel
    by_cases hlt : i < xss.length
    case neg =>
      obtain rfl : i = xss.length := by omega
      have hT' := Lib.hid hT
      clear hT
      go_wp2_with fail
      exact hQ'.out _ _ ⟨rfl, rfl, rfl, rfl, trivial⟩ hT'.out
    obtain ⟨ad, cA', u, e, hrow1, hrowc⟩ := hn.all hlt
    cases e
    obtain ⟨Ar, cr, rfl, _⟩ := hrow1.shape
    have hL := hrow'.out i hlt
    have b1 : (0 : Int) ≤ (i : Int) := by omega
    have b2 : (i : Int) < (xss.length : Int) := by omega
    have b3 : (((xss[i]).length : Nat) : Int) ≤ 1024 := by omega
    have hT' := Lib.hid hT
    have hrow1' := Lib.hid hrow1
    have hrowc' := Lib.hid hrowc
    clear hT hrow1 hrowc
    go_wp2_with fail
    go_loopg [12] (xss[i]).length (fun g kk wr => ∃ k : Nat, k ≤ (xss[i]).length ∧ Hid (g = (xss[i]).length - k) ∧ kk = .int .i64 k ∧ Sep w0 wr (arr ga xss.length (fun v => (p v : Int)) :: Rest))
    case atStart => exact ⟨0, Nat.zero_le _, rfl, rfl, hT'.out⟩
    case round =>
      obtain ⟨k, hk, hm2, rfl, hT⟩ := hrel
      have a0 := hrowc'.out wr hT.below
      by_cases hlk : k < (xss[i]).length
      case neg =>
        obtain rfl : k = (xss[i]).length := by omega
        have hT' := Lib.hid hT
        clear hT
        go_wp2_with fail
        go_roundg (xss.length - (i + 1))
        case measure => rw [hm.out]; omega
        case rel => exact ⟨i + 1, by omega, rfl, by go_num, hT'.out⟩
      obtain ⟨u, hu1, hu2, hadj⟩ := adjOf_nth hx'.out hlt hlk
      obtain ⟨ad2, cr2, e, hcell⟩ := hrow1'.out.all hlk
      cases e
      have a1 := hcell wr hT.below
      rw [hu1] at a1
      have a2 := arr_at 0 hT rfl i hlt
      have a3 := arr_at 0 hT rfl u hu2
      have hle := hp'.out i u hlt (List.mem_of_getElem? hadj)
      have c0 : decide (p i < p u) = false := by simp; omega
      have c1 : (0 : Int) ≤ (k : Int) := by omega
      have c2 : (k : Int) < (((xss[i]).length : Nat) : Int) := by omega
      have c3 : (0 : Int) ≤ (u : Int) := by omega
      have c4 : (u : Int) < (xss.length : Int) := by omega
      have hstep : ∀ q, Sep w0 (wr.drewN q) (arr ga xss.length (fun v => (p v : Int)) :: Rest) := fun q => hT.drewN q
      have hstep' := Lib.hid hstep
      clear hT hstep hcell hu1 hadj
      go_wp2_with fail
      go_quiet (fail)
      go_wp2_with fail
      go_roundg ((xss[i]).length - (k + 1))
      case measure => rw [hm2.out]; omega
      case rel => exact ⟨k + 1, by omega, rfl, by go_num, hstep'.out _⟩

set_option maxRecDepth 100000 in
set_option maxHeartbeats 2000000 in
theorem whole_mutual {xss : List (List Int)} {R : List (List Nat)} {w0 w : World} {lv av : Value} {ac : Act} {Q : Exit → Act → World → Prop}
    (hn : xss.length ≤ 1024) (hR : R.length ≤ 1024) (hrl : ∀ (i : Nat) (r : List Nat), R[i]? = some r → r.length ≤ 1024)
    (hrow : ∀ (i : Nat) (r : List Nat), R[i]? = some r → (∀ x, x ∈ r → x < xss.length) ∧ ∀ (k j x y : Nat), r[k]? = some x → r[j]? = some y → j < k → rpB xss x y = true ∧ rpB xss y x = true)
    (hf : Fs 222 ac [(5, lv), (14, av), (15, .int .i64 0)])
    (hS : Sep w0 w [rowsR lv (natRows R), allR av xss xss.length])
    (hQ : ∀ ac' w', Fs 222 ac' [] → Sep w0 w' [rowsR lv (natRows R), allR av xss xss.length] → Q .normal ac' w') :
    (wholeBlock 8).wp Try.prog (Exit.inBlock 8 Q) ac w := by
  obtain ⟨f, rfl, h5, h14, h15, -⟩ := hf.lit
  obtain ⟨B, cB, rfl, _⟩ := (hS.rows 0 rfl).shape
  obtain ⟨C, cC, rfl, _⟩ := (hS.boolRows 1 rfl).shape
  have hRn : (natRows R).length = R.length := by simp [natRows]
  have hAn : ((List.range xss.length).map (rowB xss)).length = xss.length := by simp
  rw [hRn] at h5 hS hQ
  rw [hAn] at h14 hS hQ
  simp only at h5 h14 h15
  clear hf
  simp only [lits, Nat.reduceAdd, h5, h14, h15] at hQ ⊢
  have hQ' := Lib.hid hQ
  have hrow' := Lib.hid hrow
  have hrl' := Lib.hid hrl
  have bn : (xss.length : Int) ≤ 1024 := by omega
  have bR : (R.length : Int) ≤ 1024 := by omega
  clear hQ h5 h14 h15 hrow hrl hRn hAn
  conv => arg 2; whnf
  go_loopg [15] R.length (fun g ii wr => ∃ i : Nat, i ≤ R.length ∧ Hid (g = R.length - i) ∧ ii = .int .i64 i ∧ Sep w0 wr [rowsR (.slice B R.length cB) (natRows R), allR (.slice C xss.length cC) xss xss.length])
  case atStart => exact ⟨0, Nat.zero_le _, rfl, rfl, hS⟩
  case round =>
    obtain ⟨i, hi, hm, rfl, hT⟩ := hrel
    by_cases hlt : i < R.length
    case neg =>
      obtain rfl : i = R.length := by omega
      have hT' := Lib.hid hT
      clear hT
      go_wp2_with fail
      exact hQ'.out _ _ ⟨rfl, rfl, trivial⟩ hT'.out
    obtain ⟨r, hr⟩ : ∃ r, R[i]? = some r := ⟨_, List.getElem?_eq_getElem hlt⟩
    have b1 : (0 : Int) ≤ (i : Int) := by omega
    have b2 : (i : Int) < (R.length : Int) := by omega
    have hrl2 := hrl'.out i r hr
    have b3 : (r.length : Int) ≤ 1024 := by omega
    have hr' := Lib.hid hr
    have hT' := Lib.hid hT
    clear hT hr
    go_wp2_with fail
    go_loopg [16] r.length (fun g kk wr => ∃ k : Nat, k ≤ r.length ∧ Hid (g = r.length - k) ∧ kk = .int .i64 k ∧ Sep w0 wr [rowsR (.slice B R.length cB) (natRows R), allR (.slice C xss.length cC) xss xss.length])
    case atStart => exact ⟨0, Nat.zero_le _, rfl, rfl, hT'.out⟩
    case round =>
      obtain ⟨k, hk, hm2, rfl, hT⟩ := hrel
      obtain ⟨g, c, u, e, a0, ⟨A1, cr1, rfl⟩, hcell⟩ := rowsN_cells hT hr'.out
      cases e
      by_cases hlk : k < r.length
      case neg =>
        obtain rfl : k = r.length := by omega
        have hT' := Lib.hid hT
        clear hT hcell
        go_wp2_with fail
        go_roundg (R.length - (i + 1))
        case measure => rw [hm.out]; omega
        case rel => exact ⟨i + 1, by omega, rfl, by go_num, hT'.out⟩
      have c1 : (0 : Int) ≤ (k : Int) := by omega
      have c2 : (k : Int) < (r.length : Int) := by omega
      have hT' := Lib.hid hT
      clear hT hcell
      go_wp2_with fail
      go_loopg [17] k (fun m jj wr => ∃ j : Nat, j ≤ k ∧ Hid (m = k - j) ∧ jj = .int .i64 j ∧ Sep w0 wr [rowsR (.slice (some ⟨g, 0, none⟩) R.length cB) (natRows R), allR (.slice C xss.length cC) xss xss.length])
      case atStart => exact ⟨0, Nat.zero_le _, rfl, rfl, hT'.out⟩
      case round =>
        obtain ⟨j, hj, hm3, rfl, hT⟩ := hrel
        by_cases hlj : j < k
        case neg =>
          obtain rfl : j = k := by omega
          have hT' := Lib.hid hT
          clear hT
          go_wp2_with fail
          go_roundg (r.length - (j + 1))
          case measure => rw [hm2.out]; omega
          case rel => exact ⟨j + 1, by omega, rfl, by go_num, hT'.out⟩
        obtain ⟨g', c', u', e, a1, _, hcell⟩ := rowsN_cells hT hr'.out
        cases e
        obtain ⟨gr, cr, e, hcells⟩ := hcell (by omega)
        subst e
        obtain ⟨x, hx⟩ : ∃ x, r[k]? = some x := ⟨_, List.getElem?_eq_getElem hlk⟩
        obtain ⟨y, hy⟩ : ∃ y, r[j]? = some y := ⟨r[j]'(by omega), List.getElem?_eq_getElem _⟩
        have a2 := hcells k x hx
        have a3 := hcells j y hy
        obtain ⟨hlt1, hmut⟩ := hrow'.out i r hr'.out
        have hxn := hlt1 x (List.mem_of_getElem? hx)
        have hyn := hlt1 y (List.mem_of_getElem? hy)
        obtain ⟨m1, m2⟩ := hmut k j x y hx hy hlj
        obtain ⟨ad, ca, adr, cra, e, a4, hrowx⟩ := all_at (hT.boolRows 1 rfl) hxn
        cases e
        obtain ⟨ad', ca', adr2, cr2, e, a5, hrowy⟩ := all_at (hT.boolRows 1 rfl) hyn
        cases e
        have a6 := hrowx y hyn
        have a7 := hrowy x hxn
        rw [m1] at a6
        rw [m2] at a7
        have d1 : (0 : Int) ≤ (j : Int) := by omega
        have d2 : (j : Int) < (r.length : Int) := by omega
        have d3 : (0 : Int) ≤ (x : Int) := by omega
        have d4 : (x : Int) < (xss.length : Int) := by omega
        have d5 : (0 : Int) ≤ (y : Int) := by omega
        have d6 : (y : Int) < (xss.length : Int) := by omega
        have d7 : (j : Int) < (k : Int) := by omega
        have hstep : ∀ q, Sep w0 (wr.drewN q) [rowsR (.slice (some ⟨g, 0, none⟩) R.length cB) (natRows R), allR (.slice (some ad) xss.length cC) xss xss.length] := fun q => hT.drewN q
        have hstep' := Lib.hid hstep
        clear hT hstep hcell hcells hrowx hrowy hmut hlt1
        go_wp2_with fail
        go_quiet (fail)
        go_wp2_with fail
        go_roundg (k - (j + 1))
        case measure => rw [hm3.out]; omega
        case rel => exact ⟨j + 1, by omega, rfl, by go_num, hstep'.out _⟩
end Go.Proofs.Ytdidkpgdjehodaa
