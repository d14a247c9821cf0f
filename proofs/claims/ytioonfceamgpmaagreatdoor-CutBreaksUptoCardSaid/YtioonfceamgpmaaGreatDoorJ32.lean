/- RefBreak4, RefBreak5, laid together. -/
import Derived.Test.YtioonfceamgpmaaGreatDoorJ21
import Derived.Test.YtioonfceamgpmaaGreatDoorJ26
import Derived.Test.YtioonfceamgpmaaGreatDoorJ28
import Derived.Test.YtioonfceamgpmaaGreatDoorJ31
namespace Go.Proofs.YtioonfceamgpmaaGreatDoor
open Go.RowKit
set_option linter.unusedVariables false

theorem take_snoc {a : Act} {ks : List Value} {n : Nat} {v : Value} (h1 : a.tmps.toList.take n = ks) (h2 : a.tmps[n]? = some v) : a.tmps.toList.take (n + 1) = ks ++ [v] := by
  rw [List.take_add_one, h1, Array.getElem?_toList, h2]
  rfl
theorem fm_of {N n : Nat} {a : Act} {L : List Value} {v : Value} (hd : a.defers = []) (hs : a.tmps.size = N) (h1 : a.tmps.toList.take n = L.take n) (h2 : a.tmps[n]? = some v) (hn : (L.take n).length = n) : Fm N a (L.take n ++ [v]) := by
  refine ⟨hd, hs, ?_⟩
  rw [List.length_append, hn]
  exact take_snoc h1 h2
theorem fm_of0 {N n : Nat} {a : Act} {L : List Value} (hd : a.defers = []) (hs : a.tmps.size = N) (h1 : a.tmps.toList.take n = L.take n) (hn : (L.take n).length = n) : Fm N a (L.take n) := ⟨hd, hs, by rw [hn]; exact h1⟩
theorem fm_two {N p m d q : Nat} {a : Act} {ks ms : List Value} (h : Fm N a ks) (h2 : (a.tmps.toList.drop d).take q = ms) (hd : d = ks.length + p) (hq : q = ms.length) (hN : N = ks.length + p + ms.length + m) :
    ∃ f g : Nat → Value, a = ⟨(ks ++ (lits f 0 p ++ (ms ++ lits g 0 m))).toArray, []⟩ := by
  obtain ⟨h0, h1, h3⟩ := h
  obtain ⟨⟨l⟩, d⟩ := a
  subst h0
  subst hd hq
  simp only [List.size_toArray] at h1 h2 h3
  have e1 : l = ks ++ l.drop ks.length := by
    conv => lhs; rw [← List.take_append_drop ks.length l, h3]
  have e2 : l.drop ks.length = (l.drop ks.length).take p ++ l.drop (ks.length + p) := by
    conv => lhs; rw [← List.take_append_drop p (l.drop ks.length), List.drop_drop]
  have e3 : l.drop (ks.length + p) = ms ++ l.drop (ks.length + p + ms.length) := by
    conv => lhs; rw [← List.take_append_drop ms.length (l.drop (ks.length + p)), h2, List.drop_drop]
  have l1 : ((l.drop ks.length).take p).length = p := by rw [List.length_take, List.length_drop]; omega
  have l2 : (l.drop (ks.length + p + ms.length)).length = m := by rw [List.length_drop]; omega
  refine ⟨fun i => (((l.drop ks.length).take p)).getD i undef, fun i => (l.drop (ks.length + p + ms.length)).getD i undef, ?_⟩
  have f1 := lits_of ((l.drop ks.length).take p) 0 [] rfl
  have f2 := lits_of (l.drop (ks.length + p + ms.length)) 0 [] rfl
  rw [l1] at f1
  rw [l2] at f2
  simp only [List.nil_append] at f1 f2
  rw [← f1, ← f2, ← e3, ← e2, ← e1]
theorem cutQ_firstL {acts : List Ins} {ns : List Int} (h : ∀ y ∈ ns, 0 ≤ y ∧ y < (acts.length : Int)) (k : Nat) : findL (cutQ acts) ns k = findL (fun i => match acts[i.toNat]? with | some x => cutsX x | none => false) ns k := by
  induction ns generalizing k with
  | nil => rfl
  | cons y l ih =>
    unfold findL
    have hy := h y (by simp)
    have e : cutQ acts y = match acts[y.toNat]? with | some x => cutsX x | none => false := by
      unfold cutQ
      rw [List.getD_eq_getElem?_getD, List.getElem?_eq_getElem (by omega)]
      rfl
    rw [e, ih (fun z hz => h z (by simp [hz]))]

theorem round_pos {xss : List (List Int)} {ns : List Int} {rest : List (List Int)} (hx : refused xss = 0) (hr : roundRows xss = ns :: rest) : 0 < xss.length := by
  have h : ns ∈ roundRows xss := by rw [hr]; simp
  rw [roundRows_ok hx, round_rows] at h
  obtain ⟨i, hi, _⟩ := List.mem_map.1 h
  have := (roundL_iff.1 hi).1
  omega

theorem vs_app {vs : List Value} {x u : Value} {r : Nat} (h : vs[r]? = some u) : (vs ++ [x])[r]? = some u := by
  rw [List.getElem?_append_left (List.getElem?_eq_some_iff.1 h).1]
  exact h
theorem ins_app {acts : List Ins} {l : List Value} {x : Ins} {r : Nat} (h : acts[r]? = some x) : (insCells acts ++ l)[r * 5 + 2]? = some (.string x.to) := by
  have := (List.getElem?_eq_some_iff.1 h).1
  rw [List.getElem?_append_left (by rw [insCells_len]; omega), insCells_at h 2 (by omega)]
  rfl

theorem rb_shape {w0 W : World} {A S : Asn} {vs : List Value} {xss : List (List Int)} {v5 : Value} {y : List Int} {r : Nat} (hl : vs.length = xss.length) (hr : r < xss.length) (h : Sep w0 W (intsR v5 y :: A :: S :: (List.zipWith intsR vs xss ++ []))) :
    Sep w0 W (A :: S :: (List.zipWith intsR ((vs ++ [v5]).set r (.slice none 0 0)) ((xss ++ [y]).set r []) ++ [])) := by
  rw [zip_set, List.zipWith_append hl, List.append_nil]
  rw [List.append_nil] at h
  have h1 : Sep w0 W (A :: S :: (List.zipWith intsR vs xss ++ [intsR v5 y])) := h.perm (by
    have h0 : (intsR v5 y :: A :: S :: List.zipWith intsR vs xss).Perm ((A :: S :: List.zipWith intsR vs xss) ++ [intsR v5 y]) := (List.perm_append_singleton _ _).symm
    exact h0)
  have hlen : (List.zipWith intsR vs xss).length = xss.length := by rw [List.length_zipWith, hl, Nat.min_self]
  obtain ⟨Y, hY⟩ : ∃ Y, (List.zipWith intsR vs xss ++ [intsR v5 y])[r]? = some Y := ⟨_, List.getElem?_eq_getElem (by rw [List.length_append, hlen]; omega)⟩
  have h2 : Sep w0 W (intsR (.slice none 0 0) [] :: A :: S :: (List.zipWith intsR vs xss ++ [intsR v5 y])) := intsR_nil h1
  exact Sep.inplace (r + 2) h2 (Y := Y) (by simpa using hY)
theorem rb_acts {acts : List Ins} {x : Ins} {r k : Nat} {v : Value} (hx : acts[r]? = some x) : Asn.sl 29 5 v (acts.length + 1) ((insCells acts ++ ([Value.int .i64 3, Value.string (tempS k), Value.string x.to, Value.int .i64 0, Value.int .i64 0] : List Value)).set (r * 5 + 2) (.string (tempS k))) = insR v (cutActs acts x k r) := by
  have e : insCells acts ++ ([Value.int .i64 3, Value.string (tempS k), Value.string x.to, Value.int .i64 0, Value.int .i64 0] : List Value) = insCells (acts ++ [Ins.mk 3 (tempS k) x.to 0 0]) := by rw [insCells_snoc]; rfl
  have hr := (List.getElem?_eq_some_iff.1 hx).1
  rw [e, insCells_set (x := x) (by rw [List.getElem?_append_left hr]; exact hx)]
  unfold insR
  rw [cutActs_len]
  rfl

/-- The lists of the loop in the memory. -/
def RSt (w0 w : World) (acts : List Ins) (xss : List (List Int)) (va vn : Value) : Prop :=
  ∃ vs, vs.length = acts.length ∧ Sep w0 w (rbAs va vn acts.length acts vs xss [])

set_option maxRecDepth 100000 in
set_option maxHeartbeats 4000000 in
theorem rb_main {w0 w : World} {acts : List Ins} {xss : List (List Int)} {va vn : Value} {T : Broken} {ac : Act} {Q : Exit → Act → World → Prop}
    (hf : Fs 208 ac [(9, va), (10, vn), (14, .int .i64 0)])
    (hS : RSt w0 w acts xss va vn) (hI : BInv acts xss 0) (m0 : Nat) (hp : potB acts xss < m0) (hT : breakP m0 acts xss 0 = T)
    (hQ : ∀ ac' w' va vn u0 u1 u2 u3, Fm 208 ac' [u0, u1, u2, u3, va, vn, .int .i64 T.cuts, .int .i64 T.err] → Sep w0 w' [insR va T.acts, rowsR vn T.needs] → Q .ret ac' w') :
    (rbBlock 4).wp Tryz.prog (Exit.inBlock 4 Q) ac w := by
  obtain ⟨f, rfl, h9, h10, h14, -⟩ := hf.lit
  simp only at h9 h10 h14
  clear hf
  simp only [lits, Nat.reduceAdd, h9, h10, h14] at hQ ⊢
  have hQ' := Lib.hid hQ
  clear hQ h9 h10 h14
  conv => arg 2; whnf
  go_loopw [9, 10, 14] (fun va vn kv wr => ∃ (k m : Nat) (acts : List Ins) (xss : List (List Int)), kv = .int .i64 k ∧ RSt w0 wr acts xss va vn ∧ BInv acts xss k ∧ potB acts xss < m ∧ Hid (breakP m acts xss k = T)) (fun _ _ kv _ => 60 - (intOf kv).toNat)
  case atStart => exact ⟨0, m0, acts, xss, rfl, hS, hI, hp, hT⟩
  case round =>
    clear hS hI hp hT acts xss
    obtain ⟨k, m, acts, xss, rfl, ⟨vs, hvl, hS⟩, hI, hp, hT⟩ := hrel
    obtain ⟨m, rfl⟩ : ∃ m', m = m' + 1 := ⟨m - 1, by omega⟩
    have hx : refused xss = 0 := okay_refused hI.ok (by have := hI.len; have := hI.small; have := hI.pot; omega)
    have hT' := hT.out
    clear hT
    unfold breakP at hT'
    have hrows : RowsAt wr u10 xss := by
      have h1 := hS.rd 1 rfl
      rw [← hI.len] at h1
      refine ⟨vs, h1, fun j u xs hu hxs => ?_⟩
      refine hS.ints (j + 2) ?_
      show (List.zipWith intsR vs xss ++ [])[j]? = some (intsR u xs)
      rw [List.append_nil]
      exact zip_some hu hxs
    have hro := refround_rows hx hrows
    have hro' := Lib.hid hro
    have hS' := Lib.hid hS
    have hI' := Lib.hid hI
    rcases hr : roundRows xss with _ | ⟨ns, rest⟩
    · rw [hr] at hT'
      simp only at hT'
      subst hT'
      rw [hr] at hro
      have hro' := Lib.hid hro
      have hlen : acts.length = xss.length := hI.len.symm
      have hlen' := Lib.hid hlen
      have hvl' := Lib.hid hvl
      clear hro hrows hS hI hx hr hvl hlen
      go_wp2_with (first
        | (go_at_call 25; refine hro'.out.mono ?_; rintro e w1 ⟨v, rfl, hR⟩; obtain ⟨A1, c1, rfl, _⟩ := (hR.rows 0 rfl).shape; have hR' := Lib.hid hR; clear hR)
        | fail)
      refine hQ'.out _ _ u9 u10 _ _ _ _ ⟨rfl, rfl, rfl⟩ ?_
      have h1 := hS'.out.pure hR'.out.below
      rw [rbAs, hlen'.out] at h1
      have h2 : Sep w0 w1 (rowsR u10 xss :: [insR u9 acts]) := Sep.list_shut (R := [insR u9 acts]) (by rw [hvl'.out, hlen'.out]) (h1.perm (by
        rw [List.append_nil]
        exact (List.Perm.swap _ _ _).trans ((List.perm_append_singleton (insR u9 acts) (List.zipWith intsR vs xss)).symm.cons _)))
      exact h2.perm (List.Perm.swap _ _ _)
    · rw [hr] at hT' hro
      simp only at hT'
      have hns : ∀ y ∈ ns, 0 ≤ y ∧ y < (acts.length : Int) := by
        intro y hy
        obtain ⟨r, rfl, h1, _⟩ := round_mem hx (ns := ns) (by rw [hr]; simp) hy
        have := hI.len
        omega
      have hq0 := cutQ_firstL hns 0
      have hpk := pickL_find (cutQ acts) ns 0
      rw [hq0] at hpk
      change (firstL acts ns < 0 ∧ _) ∨ (∃ j, firstL acts ns = _ ∧ _) at hpk
      have hlen : acts.length = xss.length := hI.len.symm
      have hpos : 0 < acts.length := by rw [hlen]; exact round_pos hx hr
      obtain ⟨gA, cA, rfl, _, _, hcA, hcA2⟩ := hS.sl_form 0 rfl hpos
      obtain ⟨gN, cN, rfl, _, _, hcN, hcN2⟩ := hS.sl_form 1 rfl hpos
      have hcell : ∀ W, Sep w0 W (rbAs (.slice (some ⟨gA, 0, none⟩) acts.length cA) (.slice (some ⟨gN, 0, none⟩) acts.length cN) acts.length acts vs xss []) → ∀ i x, acts[i]? = some x → ∀ f, f < 5 → W.cell? ⟨gA, i * 5 + f, none⟩ = x.cells[f]? := by
        intro W hW i x hx f hf
        have := (List.getElem?_eq_some_iff.1 hx).1
        exact (hW.cellAt 0 rfl (i * 5 + f) (by omega)).trans (insCells_at hx f hf)
      have hcell' := Lib.hid hcell
      have hro' := Lib.hid hro
      have hns' := Lib.hid hns
      have hpk' := Lib.hid hpk
      have hlen' := Lib.hid hlen
      have hvl' := Lib.hid hvl
      have hT2 := Lib.hid hT'
      have hx' := Lib.hid hx
      have hr' := Lib.hid hr
      have q1 : (0 : Int) < (rest.length : Int) + 1 := by omega
      clear hro hrows hS hI hcell hns hpk hlen hvl hT' hx hr hq0
      go_wp2_with (first
        | (go_at_call 25; refine hro'.out.mono ?_; rintro e w1 ⟨v, rfl, hR⟩; obtain ⟨A1, c1, rfl, _⟩ := (hR.rows 0 rfl).shape; have hR' := Lib.hid hR; clear hR)
        | fail)
      have hS1 := hS'.out.pure hR'.out.below
      refine rb_find (gA := gA) (cA := cA) (fun W hW => hcell'.out W (hS1.pure hW)) hcA (hR'.out.rows 0 rfl) hns'.out (by have := hI'.out.small; have := hI'.out.pot; omega) hI'.out.path ⟨rfl, rfl, rfl, rfl, rfl, rfl, trivial⟩ ?_
      intro ac2 w2 ht hr2 hmid hsz hdf hb2
      have hS2 := Lib.hid (hS1.pure hb2)
      clear hS1
      have hF := fm_of hdf hsz ht hr2 rfl
      obtain ⟨f2, g2, rfl⟩ := fm_two (p := 9) (m := 142) hF hmid rfl rfl rfl
      clear hF ht hr2 hmid hsz hdf
      simp only [lits, Nat.reduceAdd, List.take_succ_cons, List.take_zero, List.drop_succ_cons, List.drop_zero, List.cons_append, List.nil_append]
      rcases hpk'.out with ⟨hneg, hpick⟩ | ⟨j, hj, hjl, hpick⟩
      · have hT3 := hT2.out
        rw [if_pos hneg] at hT3
        subst hT3
        simp only [hpick]
        clear hpk' hneg hpick hT2
        go_wp2_with fail
        refine hQ'.out _ _ _ _ _ _ _ _ ⟨rfl, rfl, rfl⟩ ?_
        exact (hS2.out.bare.list_nil _ _).sl_nil _ _
      · obtain ⟨j', r, hj', hjr, hpl, hra, hcu⟩ := place_good hI'.out (ns := ns) (by rw [hr'.out]; simp) (by rw [hj]; omega)
        have hT3 := hT2.out
        rw [if_neg (by rw [hj]; omega), hpl] at hT3
        obtain rfl : j = j' := by
          rw [hj] at hj'
          omega
        have hpr : pickL (cutQ acts) ns = (r : Int) := by
          rw [hpick, List.getD_eq_getElem?_getD, hjr]
          rfl
        simp only [hpr]
        obtain ⟨hk, hI2⟩ := hI'.out.next hra hcu
        have hT3' := Lib.hid hT3
        have hcu' := Lib.hid hcu
        have hI2' := Lib.hid hI2
        have hsm : acts.length ≤ 100 := by have := hI'.out.small; have := hI'.out.pot; omega
        clear hpk' hpick hT2 hj hj' hjr hpl hcu hT3 hpr hI2 hjl
        have e1 : ¬ (r : Int) < 0 := by omega
        have e2 : (0 : Int) ≤ (r : Int) := by omega
        have e3 : (r : Int) < (acts.length : Int) := by omega
        have e4 : (acts.length : Int) ≤ 100 := by omega
        obtain ⟨x0, hx0⟩ : ∃ x, acts[r]? = some x := ⟨_, List.getElem?_eq_getElem hra⟩
        obtain ⟨l0, hl0⟩ : ∃ x, xss[r]? = some x := ⟨_, List.getElem?_eq_getElem (by rw [← hlen'.out]; exact hra)⟩
        obtain ⟨u0, hu0⟩ : ∃ u, vs[r]? = some u := ⟨_, List.getElem?_eq_getElem (by rw [hvl'.out]; exact hra)⟩
        have c2 := hcell'.out _ hS2.out r x0 hx0 2 (by omega)
        simp only [Ins.cells, List.getElem?_cons_zero, List.getElem?_cons_succ] at c2
        obtain ⟨i0, hif, hz0, hz1, hz2⟩ := info_parts info_int
        obtain ⟨j0, hjf, hj0, hj1, hj2⟩ := info_parts info_ins
        obtain ⟨k0, hkf, hk0, hk1, hk2⟩ := info_parts info_ints
        have hidx : ∀ A B : Asn, (A :: B :: (List.zipWith intsR vs xss ++ []))[r + 2]? = some (intsR u0 l0) := by
          intro A B
          show (List.zipWith intsR vs xss ++ [])[r]? = _
          rw [List.append_nil]
          exact zip_some hu0 hl0
        obtain ⟨Ar, cr, rfl, hmr⟩ := (hS2.out.ints (r + 2) (hidx _ _)).shape
        have hl0k : l0.length ≤ 100 := by
          have := hI'.out.ok.len (List.mem_of_getElem? hl0)
          rw [← hlen'.out] at this
          omega
        have hidx' := Lib.hid hidx
        have hu0' := Lib.hid hu0
        have hx0' := Lib.hid hx0
        have hl0' := Lib.hid hl0
        clear hidx hu0 hx0 hl0
        go_wp2_with (first
          | (go_at_call 27; refine (reftemp_any hk _).mono ?_; rintro e w9 ⟨rfl, hw9⟩; have hw8 := hw9.symm; clear hw9; subst hw8)
          | (at_builtin; refine wpList_append_sep 0 rfl _ _ 22 rfl 29 j0 _ 5 56 Tryz.underlying22 hjf hj0 hj1 hj2 rfl (by decide) (hS2.out.alloc (.cells #[.int .i64 3, .string (tempS k), .string x0.to, .int .i64 0, .int .i64 0] 29)) (.slice (some ⟨gA, 0, none⟩) acts.length cA) acts.length (insCells acts) rfl rfl ⟨w2.heap.size, 0, none⟩ 1 1 [.int .i64 3, .string (tempS k), .string x0.to, .int .i64 0, .int .i64 0] rfl rfl (cells_new _ _ _ _ rfl) (by simp [Value.oneCell']) (by decide) (by unfold maxLen; omega) (by omega) ?_; intro gA2 cA2 w3 hS3 hz3; simp only [rbAs, List.set_cons_zero] at hS3; have cn3 := (hS3.cellAt 1 rfl r (by omega)).trans hu0'.out; replace hS3 := Lib.hid hS3; clear hz3)
          | (at_builtin; refine wpList_append_any_sep 0 rfl _ _ 33 rfl 3 i0 (.int .i64 0) 1 8 Tryz.underlying33 hif hz0 hz1 hz2 rfl (by decide) (hS3.out.sl_nil 3 1) (.slice none 0 0) 0 [] rfl rfl (.slice Ar l0.length cr) l0.length (l0.map (.int .i64)) rfl (hS3.out.ints (r + 2) (hidx'.out _ _)) (ints_one l0) (by unfold maxLen; omega) (by omega) ?_; intro v4 w4 hS4 hz4; simp only [List.set_cons_zero] at hS4; have hS4b : Sep w0 w4 (intsR v4 l0 :: _) := (by have e : intsR v4 l0 = .sl 3 1 v4 (0 + l0.length) ([] ++ l0.map (.int .i64)) := (by simp [intsR]); rw [e]; exact hS4); replace hS4b := Lib.hid hS4b; clear hz4 hS4)
          | (go_at_call 24; refine (add_any hS4b.out (by omega) r).mono ?_; rintro e w5 ⟨v5, rfl, hS5⟩; obtain ⟨A5, c5, rfl, _⟩ := (hS5.ints 0 rfl).shape; replace hS5 := Lib.hid hS5)
          | (at_builtin; refine wpList_append_sep 2 rfl _ _ 23 rfl 33 k0 (.slice none 0 0) 1 24 Tryz.underlying23 hkf hk0 hk1 hk2 rfl (by decide) (hS5.out.alloc (.cells #[.slice A5 (addL r l0).length c5] 33)) (.slice (some ⟨gN, 0, none⟩) acts.length cN) acts.length vs rfl rfl ⟨w5.heap.size, 0, none⟩ 1 1 [.slice A5 (addL r l0).length c5] rfl rfl (cells_new _ _ _ _ rfl) (by simp [Value.oneCell']) (by decide) (by unfold maxLen; omega) (by omega) ?_; intro gN2 cN2 w6 hS6 hz6; simp only [List.set_cons_zero, List.set_cons_succ] at hS6; have fz1 := hS6.frozenAt 1 rfl (r * 5 + 2); have cz1 := (hS6.cellAt 1 rfl (r * 5 + 2) (by omega)).trans (ins_app hx0'.out); have hS7 := hS6.stored 1 rfl (r * 5 + 2) (.string (tempS k)); simp only [List.set_cons_zero, List.set_cons_succ] at hS7; have fz2 := hS7.frozenAt 2 rfl r; have cz2 := (hS7.cellAt 2 rfl r (by omega)).trans (vs_app hu0'.out); replace hS7 := Lib.hid hS7; clear hz6 hS6)
          | fail)
        have hl1 : vs.length = xss.length := by rw [hvl'.out, hlen'.out]
        have hr1 : r < xss.length := by rw [← hlen'.out]; exact hra
        have hS8 := hS7.out.stored 2 rfl r (.slice none 0 0)
        simp only [List.set_cons_zero, List.set_cons_succ] at hS8
        rw [rb_acts hx0'.out] at hS8
        have hS9 := rb_shape hl1 hr1 hS8
        have hup : l0.Pairwise (· < ·) := (hI'.out.ok l0 (List.mem_of_getElem? hl0'.out)).1
        rw [← addL_norm hup] at hS9
        have hex : acts.getD r insZ = x0 := by rw [List.getD_eq_getElem?_getD, hx0'.out]; rfl
        have hel : xss.getD r [] = l0 := by rw [List.getD_eq_getElem?_getD, hl0'.out]; rfl
        refine rb_mend (r := r) (n := acts.length) (to := x0.to) (acts := cutActs acts x0 k r) (xss := cutRows xss r l0) (R := []) cutActs_len (by rw [cutRows_len2, hlen'.out]) (by rw [List.length_set, List.length_append, hvl'.out]; rfl) (by omega) ?_ ⟨rfl, rfl, rfl, rfl, rfl, rfl, rfl, rfl, trivial⟩ hS9 ?_
        · intro i hi l hl
          unfold cutRows at hl
          by_cases hir : r = i
          · subst hir
            rw [List.getElem?_set_self (by rw [List.length_append]; omega)] at hl
            obtain rfl : [] = l := by simpa using hl
            exact ⟨by simp, by simp⟩
          · rw [List.getElem?_set_ne hir, List.getElem?_append_left (by rw [← hlen'.out]; exact hi)] at hl
            have h1 := hI'.out.ok l (List.mem_of_getElem? hl)
            have h2 := hI'.out.ok.len (List.mem_of_getElem? hl)
            rw [← hlen'.out] at h1 h2
            exact ⟨by omega, fun y hy => (h1.2 y hy).2⟩
        intro ac3 w7 vs3 ht hmid hsz hdf hv3 hS10
        have hF := fm_of0 hdf hsz ht rfl
        obtain ⟨f3, g3, rfl⟩ := fm_two (p := 3) (m := 142) hF hmid rfl rfl rfl
        clear hF ht hmid hsz hdf
        simp only [lits, Nat.reduceAdd, List.take_succ_cons, List.take_zero, List.drop_succ_cons, List.drop_zero, List.cons_append, List.nil_append]
        have hS10' := Lib.hid hS10
        clear hS10 hS9 hS8 fz1 cz1 fz2 cz2
        go_roundw
        case rel =>
          have hfin : ∃ (k' m : Nat) (acts' : List Ins) (xss : List (List Int)), Value.int .i64 ((k : Int) + 1) = .int .i64 k' ∧ RSt w0 w7 acts' xss (.slice (some ⟨gA2, 0, none⟩) (acts.length + 1) cA2) (.slice (some ⟨gN2, 0, none⟩) (acts.length + 1) cN2) ∧ BInv acts' xss k' ∧ potB acts' xss < m ∧ Hid (breakP m acts' xss k' = T) := by
            refine ⟨k + 1, m, cutActs acts x0 k r, cutNext acts xss k r, by go_num, ⟨vs3, by rw [hv3, cutActs_len], ?_⟩, ?_, ?_, ?_⟩
            · rw [cutActs_len]
              unfold cutNext
              rw [hex, hel, ← hlen'.out]
              exact hS10'.out
            · rw [← hex]; exact hI2'.out
            · have := pot_next hI'.out.len.symm.symm hra hk hcu'.out
              rw [hex] at this
              omega
            · rw [← hex]; exact hT3'.out
          repeat apply Exists.intro
          exact ⟨hfin, rfl⟩
        case measure =>
          have := hI'.out.pot
          simp [intOf]; omega
end Go.Proofs.YtioonfceamgpmaaGreatDoor

namespace Go.Proofs.YtioonfceamgpmaaGreatDoor
open Go.RowKit
set_option linter.unusedVariables false

set_option maxRecDepth 100000 in
set_option maxHeartbeats 2000000 in
theorem refbreak_any {acts : List Ins} {xss : List (List Int)} {w : World} {va vn : Value} (ha : InsAt w va acts) (hn : RowsAt w vn xss) (hl : xss.length ≤ 50) (hal : acts.length ≤ 1048576) (hp : ∀ x ∈ acts, x.path.size ≤ 4611686018427387904) :
    Calls Tryz.prog 12 #[va, vn] w (BreakPost w (breakT acts xss)) := by
  have hre := refused_any w vn xss hn
  obtain ⟨An, cn, rfl, _⟩ := hn.shape
  obtain ⟨Aa, ca, rfl, _⟩ := ha.shape
  obtain ⟨j0, hjf, hj0, hj1, hj2⟩ := info_parts info_ins
  have hre' := Lib.hid hre
  have hn' := Lib.hid hn
  have ha' := Lib.hid ha
  have hp' := Lib.hid hp
  clear hre hn ha hp
  obtain ⟨T, hT⟩ : ∃ T, T = breakT acts xss := ⟨_, rfl⟩
  rw [← hT]
  have hT' := Lib.hid hT
  clear hT
  have b8 : (xss.length : Int) ≤ 50 := by omega
  have b9 : (acts.length : Int) ≤ 1048576 := by omega
  go_enter Tryz.func12, Tryz.ntmps12
  by_cases hx : refused xss = 0
  case neg =>
    have b1 : (refused xss != 0) = true := by simpa using hx
    have hTe := hT'.out
    unfold breakT at hTe
    rw [if_pos hx] at hTe
    subst hTe
    generalize refused xss = rx at hre' b1
    clear hT' hx
    go_wp2_with (first | (go_at_call 23; refine hre'.out.mono ?_; rintro e w1 ⟨rfl, rfl⟩) | fail)
    refine bodyPost_ret (v := .tuple #[.slice none 0 0, .slice none 0 0, .int .i64 0, .int .i64 rx]) (by simp [results, go_sem]) rfl ⟨_, _, rfl, ?_⟩
    exact ((Sep.nil w).list_nil _ _).sl_nil _ _
  have hre := hre'.out
  rw [hx] at hre
  have hre2 := Lib.hid hre
  clear hre hre'
  by_cases hlen : xss.length = acts.length
  case neg =>
    have b1 : ((acts.length : Int) != (xss.length : Int)) = true := by simp; omega
    have hTe := hT'.out
    unfold breakT at hTe
    rw [if_neg (by simpa using hx), if_pos hlen] at hTe
    subst hTe
    clear hT' hx hlen
    go_wp2_with (first | (go_at_call 23; refine hre2.out.mono ?_; rintro e w1 ⟨rfl, rfl⟩) | fail)
    refine bodyPost_ret (v := .tuple #[.slice none 0 0, .slice none 0 0, .int .i64 0, .int .i64 1]) (by simp [results, go_sem]) rfl ⟨_, _, rfl, ?_⟩
    exact ((Sep.nil w).list_nil _ _).sl_nil _ _
  have b1 : ((acts.length : Int) != (xss.length : Int)) = false := by simp; omega
  have hlen' := Lib.hid hlen
  have hx' := Lib.hid hx
  have hTe := hT'.out
  unfold breakT at hTe
  rw [if_neg (by simpa using hx), if_neg (by simpa using hlen)] at hTe
  have hTe' := Lib.hid hTe
  clear hx hlen hTe hT'
  go_wp2_with (first
    | (go_at_call 23; refine hre2.out.mono ?_; rintro e w1 ⟨rfl, rfl⟩)
    | (at_builtin; refine wpList_append_any_sep 0 rfl _ _ 22 rfl 29 j0 _ 5 56 Tryz.underlying22 hjf hj0 hj1 hj2 rfl (by decide) ((Sep.nil w).sl_nil 29 5) (.slice none 0 0) 0 [] rfl rfl (.slice Aa acts.length ca) acts.length (insCells acts) rfl ha'.out (fun u hu => insCells_one hu) (by unfold maxLen; omega) (by omega) ?_; intro v1 w1 hS1 hz1; replace hS1 := Lib.hid hS1; clear hz1)
    | fail)
  have hgood := refused_zero hx'.out
  refine rb_rows (R := [insR v1 acts]) hn'.out (by omega) (fun j hj => by have := hgood.2.1 j hj; omega) ⟨rfl, rfl, rfl, rfl, rfl, trivial⟩ ?_ ?_
  · have e : insR v1 acts = .sl 29 5 v1 (0 + acts.length) ([] ++ insCells acts) := by simp [insR]
    rw [e]
    exact hS1.out
  intro ac2 w2 v2 ht h10 hsz hdf hS2
  have hF := fm_of hdf hsz ht h10 rfl
  obtain ⟨f2, rfl⟩ := Fm.lit (m := 197) hF rfl
  clear hF ht h10 hsz hdf
  simp only [lits, Nat.reduceAdd, List.take_succ_cons, List.take_zero, List.cons_append, List.nil_append]
  have hlen := hlen'.out
  have hI : BInv acts (xss.map normL) 0 := by
    refine ⟨by rw [List.length_map]; exact hlen, norm_okay ?_, by omega, ?_, hp'.out⟩
    · intro l hl y hy
      obtain ⟨a1, h1, rfl⟩ := List.mem_iff_getElem.1 hl
      obtain ⟨a2, h2, rfl⟩ := List.mem_iff_getElem.1 hy
      exact hgood.2.2 a1 h1 a2 h2
    · have := potB_le acts (xss.map normL)
      omega
  have hR : RSt w w2 acts (xss.map normL) v1 v2 := by
    obtain ⟨vs, hvl, hO⟩ := Sep.list_open hS2
    rw [List.length_map, hlen] at hvl hO
    refine ⟨vs, hvl, hO.perm ?_⟩
    unfold rbAs
    rw [List.append_nil]
    exact ((List.perm_append_singleton (insR v1 acts) (List.zipWith intsR vs (xss.map normL))).cons _).trans (List.Perm.swap _ _ _)
  have hI' := Lib.hid hI
  have hR' := Lib.hid hR
  clear hS2 hI hR hgood
  go_wp2_with fail
  refine rb_main ⟨rfl, rfl, rfl, rfl, rfl, trivial⟩ hR'.out hI'.out (acts.length + 1) (by have := potB_le acts (xss.map normL); omega) hTe'.out.symm ?_
  intro ac3 w3 va vn u0 u1 u2 u3 hF hS3
  obtain ⟨f, rfl⟩ := hF.lit (m := 200) rfl
  simp only [lits, Nat.reduceAdd, List.cons_append, List.nil_append]
  refine bodyPost_ret (v := .tuple #[va, vn, .int .i64 T.cuts, .int .i64 T.err]) (by simp [results, go_sem]) rfl ⟨va, vn, rfl, hS3⟩
end Go.Proofs.YtioonfceamgpmaaGreatDoor
