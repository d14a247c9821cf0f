/- ModelOpen, laid together. -/
import Derived.Test.YtahkpkaodeeemaaGreatJ19
namespace Go.Proofs.YtahkpkaodeeemaaGreat
open Go.RowKit
set_option linter.unusedVariables false

def nsOf (es : List Ent) (i : Nat) : List NEnt := (es.zipIdx.take i).map fun x => ⟨x.1.path, x.2⟩
def lkOf (i : Nat) : List (Lit × Value) := if i = 0 then [] else [(.string [], .int .i64 i)]
/-- The files of a world that is opened, the first i nodes being put. -/
structure FsOk (es : List Ent) (vs : List Value) (m i : Nat) (Fs : List FEnt) : Prop where
  len : Fs.length = m
  at_ : ∀ (k : Nat) f, Fs[k]? = some f → ∃ e u, es[k]? = some e ∧ vs[k]? = some u ∧ f.id = k ∧ f.mode = e.mode ∧ f.dv = u ∧ f.names = if k < i then 1 else 0

theorem nsOf_len {es : List Ent} {i : Nat} (h : i ≤ es.length) : (nsOf es i).length = i := by
  unfold nsOf
  rw [List.length_map, List.length_take, List.length_zipIdx]
  omega
theorem nsOf_path {es : List Ent} {i : Nat} {n : NEnt} (h : n ∈ nsOf es i) : ∃ k e, k < i ∧ es[k]? = some e ∧ n = ⟨e.path, k⟩ := by
  unfold nsOf at h
  obtain ⟨x, hx, rfl⟩ := List.mem_map.1 h
  obtain ⟨k, hk⟩ := List.mem_iff_getElem?.1 hx
  rw [List.getElem?_take] at hk
  split at hk
  · rename_i hlt
    rw [List.getElem?_zipIdx, Option.map_eq_some_iff] at hk
    obtain ⟨e, he, rfl⟩ := hk
    exact ⟨k, e, hlt, he, by simp⟩
  · cases hk
theorem path_ne {es : List Ent} (ho : FlatOk es) {j k : Nat} {a b : Ent} (ha : es[j]? = some a) (hb : es[k]? = some b) (h : j < k) : a.path ≠ b.path := by
  obtain ⟨h1, rfl⟩ := List.getElem?_eq_some_iff.1 ha
  obtain ⟨h2, rfl⟩ := List.getElem?_eq_some_iff.1 hb
  have h3 := List.pairwise_iff_getElem.1 ho.up j k h1 h2 h
  intro e
  rw [e, bl_irrefl] at h3
  cases h3
theorem nsOf_succ {es : List Ent} (ho : FlatOk es) {i : Nat} {e : Ent} (he : es[i]? = some e) : putN (nsOf es i) e.path i = nsOf es (i + 1) := by
  unfold putN
  rw [List.filter_eq_self.2]
  · unfold nsOf
    rw [List.take_add_one, List.getElem?_zipIdx, he]
    simp
  · intro n hn
    obtain ⟨k, e2, hk, he2, rfl⟩ := nsOf_path hn
    simpa using path_ne ho he2 he hk
theorem lkOf_succ (i : Nat) : putM (lkOf i) (.string []) (.int .i64 ((i : Int) + 1)) = lkOf (i + 1) := by
  unfold lkOf
  rw [if_neg (Nat.succ_ne_zero i)]
  by_cases h : i = 0
  · subst h
    rfl
  · rw [if_neg h]
    rfl
theorem lkOf_get (i : Nat) : (getM (lkOf i) (.string [])).getD (.int .i64 0) = .int .i64 i := by
  unfold lkOf
  by_cases h : i = 0
  · subst h
    rfl
  · rw [if_neg h]
    rfl

theorem filesL_put {Fs : List FEnt} {f : FEnt} (h : ∀ g ∈ Fs, g.id ≠ f.id) : putM (filesL Fs) (.int .i64 f.id) (.pointer (some ⟨f.ptr, 0, none⟩)) = filesL (Fs ++ [f]) := by
  unfold putM filesL
  rw [List.map_append]
  congr 1
  unfold delM
  rw [List.filter_eq_self.2]
  intro p hp
  obtain ⟨g, hg, rfl⟩ := List.mem_map.1 hp
  have := h g hg
  simp [Lit.sameKey]
  omega
theorem wAs_file {w0 w : World} {W bn bf bk next : Nat} {Ns : List NEnt} {Fs : List FEnt} {Lk : List (Lit × Value)} {R : List Asn} {f : FEnt} {X : Asn} (h : ∀ g ∈ Fs, g.id ≠ f.id)
    (hS : Sep w0 w (fileBox f :: X :: .box W 108 (worldCells bn bf bk next) :: gmR 9 bn (nodesL Ns) :: gmR 3 bf (putM (filesL Fs) (.int .i64 f.id) (.pointer (some ⟨f.ptr, 0, none⟩))) :: gmR 9 bk Lk :: (Fs.map fileBox ++ R))) : Sep w0 w (wAs W bn bf bk next Ns (Fs ++ [f]) Lk R) := by
  rw [filesL_put h] at hS
  have h1 := Sep.drop 1 (hS.perm (List.Perm.swap _ _ _))
  unfold wAs
  rw [List.map_append, List.append_assoc]
  exact h1.perm (List.perm_middle (l₁ := .box W 108 (worldCells bn bf bk next) :: gmR 9 bn (nodesL Ns) :: gmR 3 bf (filesL (Fs ++ [f])) :: gmR 9 bk Lk :: Fs.map fileBox) (l₂ := R) (a := fileBox f)).symm
theorem wAs_last {W bn bf bk next m : Nat} {Ns : List NEnt} {Fs : List FEnt} {Lk : List (Lit × Value)} {X : Asn} (h : Fs.length = m) : (wAs W bn bf bk next Ns Fs Lk [X])[m + 4]? = some X := by
  show (Fs.map fileBox ++ [X])[m]? = _
  rw [List.getElem?_append_right (by simp; omega), List.length_map, h, Nat.sub_self]
  rfl
theorem keyed_int' : Maps.Keyed Tryz.prog 3 := Maps.int_keyed Tryz.underlying3

set_option maxRecDepth 100000 in
set_option maxHeartbeats 2000000 in
theorem open_flat {w : World} {nv fv : Value} {es : List Ent} {vs : List Value} (h : FlatAt w nv fv es vs) (ho : FlatOk es) :
    Calls Tryz.prog 39 #[.agg #[nv, fv]] w fun e w' => ∃ W bn bf bk Fs, e = .returned (.tuple #[.pointer (some ⟨W, 0, none⟩), .int .i64 0]) ∧ FsOk es vs es.length es.length Fs ∧ Sep w w' (wAs W bn bf bk es.length (nsOf es es.length) Fs (lkOf es.length) []) := by
  have hS0 := (Sep.nil w).box_new 34 #[nv, fv]
  have hbo := Lib.hid (loose_flat (h.below hS0.below) ho)
  obtain ⟨A1, c1, rfl, hm1⟩ := h.nodes.shape
  obtain ⟨A2, c2, rfl, hm2⟩ := h.files.shape
  have hS0' := Lib.hid hS0
  have h' := Lib.hid h
  have ho' := Lib.hid ho
  have hf := ho.few
  have b0 : (es.length : Int) ≤ 100 := by omega
  have hmm := @run_makeMap Tryz.prog
  clear h ho hS0
  go_enter Tryz.func39, Tryz.ntmps39
  go_wp2_with (first
    | (go_at_call 10; refine hbo.out.mono ?_; rintro e w1 ⟨rfl, hb1⟩; (have hS1 := hS0'.out.pure hb1); (have hS2 := ((hS1.gm_new 9).gm_new 3).gm_new 9); simp only [World.size_alloc] at hS2; (have d1 : (((w1.alloc (.map #[] 0)).alloc (.map #[] 0)).alloc (.map #[] 0)).cell? ⟨w.heap.size, 1, none⟩ = some (.slice A2 es.length c2) := by rw [hS2.box_cell 3 rfl 1]; rfl); (have hS3 := hS2.box_new 108 #[.map (some w1.heap.size), .map (some (w1.heap.size + 1)), .map (some (w1.heap.size + 1 + 1)), .int .i64 (es.length : Int)]); simp only [World.size_alloc] at hS3; (have d2 := hS3.box_cell 4 rfl 1); simp only [List.getElem?_toArray, List.getElem?_cons_zero, List.getElem?_cons_succ] at d2; (have hS3' := Lib.hid hS3); clear hS1 hS2 hS3 hb1)
    | fail)
  have hW : Sep w ((((w1.alloc (.map #[] 0)).alloc (.map #[] 0)).alloc (.map #[] 0)).alloc (.cells #[.map (some w1.heap.size), .map (some (w1.heap.size + 1)), .map (some (w1.heap.size + 1 + 1)), .int .i64 (es.length : Int)] 108)) (wAs (w1.heap.size + 1 + 1 + 1) w1.heap.size (w1.heap.size + 1) (w1.heap.size + 1 + 1) es.length [] [] [] [.box w.heap.size 34 #[.slice A1 es.length c1, .slice A2 es.length c2]]) := Sep.sel [0, 3, 2, 1, 4] hS3'.out (by decide) (by simp)
  generalize ((((w1.alloc (.map #[] 0)).alloc (.map #[] 0)).alloc (.map #[] 0)).alloc (.cells #[.map (some w1.heap.size), .map (some (w1.heap.size + 1)), .map (some (w1.heap.size + 1 + 1)), .int .i64 (es.length : Int)] 108)) = w4 at hW d2 ⊢
  generalize hbf : w1.heap.size + 1 = bf at hW ⊢
  generalize hbk : bf + 1 = bk at hW ⊢
  generalize hbw : bk + 1 = W at hW ⊢
  generalize hbn : w1.heap.size = bn at hW ⊢
  have hW' := Lib.hid hW
  clear hW hS3' d1 hbf hbk hbw hbn hbo hmm d2
  go_loopw [26] (fun iv wr => ∃ (i : Nat) (Fs : List FEnt), i ≤ es.length ∧ iv = .int .i64 i ∧ FsOk es vs i 0 Fs ∧ Sep w wr (wAs W bn bf bk es.length [] Fs [] [.box w.heap.size 34 #[.slice A1 es.length c1, .slice A2 es.length c2]])) (fun iv _ => es.length - (intOf iv).toNat)
  case atStart => exact ⟨0, [], Nat.zero_le _, rfl, ⟨rfl, fun k f hk => by simp at hk⟩, hW'.out⟩
  case round =>
    obtain ⟨i, Fs, hi, rfl, hFs, hS⟩ := hrel
    have q1 : (0 : Int) ≤ (i : Int) := by omega
    by_cases hlt : i < es.length
    · have q2 : (i : Int) < (es.length : Int) := by omega
      obtain ⟨g, o, c, e, hc, hcm, hg, hcell⟩ := h'.out.files.place (by omega) (by decide)
      simp only [Value.slice.injEq] at e
      obtain ⟨rfl, _, rfl⟩ := e
      obtain ⟨e, he⟩ : ∃ e, es[i]? = some e := ⟨_, List.getElem?_eq_getElem hlt⟩
      obtain ⟨u, hu⟩ : ∃ u, vs[i]? = some u := ⟨_, List.getElem?_eq_getElem (by rw [h'.out.len]; exact hlt)⟩
      have x0 := (hcell _ hS.below (i * 2) (by omega)).trans (fileCells_at he hu 0 (by omega))
      have x1 := (hcell _ hS.below (i * 2 + 1) (by omega)).trans (fileCells_at he hu 1 (by omega))
      simp only [fileC, List.getElem?_cons_zero, List.getElem?_cons_succ, ← Nat.add_assoc] at x0 x1
      obtain ⟨A, c9, rfl, _⟩ := (h'.out.data i u e hu he).shape
      have hX1 := hS.box_new 42 #[.int .i64 e.mode, .slice A e.size c9]
      have hX := hX1.drew
      have m1 : ∀ (d : Nat) (As : List Asn) (w' : World), Sep w w' As → As[d + 1]? = some (.box W 108 (worldCells bn bf bk es.length)) → As[d]? = some (.box wr.heap.size 42 #[.int .i64 e.mode, .slice A e.size c9]) → w'.cell? ⟨W, 1, none⟩ = some (.map (some bf)) ∧ w'.cell? ⟨wr.heap.size, 0, none⟩ = some (.int .i64 e.mode) ∧ w'.cell? ⟨wr.heap.size, 1, none⟩ = some (.slice A e.size c9) := by
        intro d As w' h h1 h0
        exact ⟨by rw [h.box_cell _ h1 1]; rfl, by rw [h.box_cell _ h0 0]; rfl, by rw [h.box_cell _ h0 1]; rfl⟩
      have hE := m1 0 _ _ hX rfl rfl
      have hXb := (hX1.box_new 113 #[.int .i64 e.mode, .int .i64 0, .slice A e.size c9]).drew
      have hEb := m1 1 _ _ hXb rfl rfl
      obtain ⟨w5, hup, hX5⟩ := hXb.gm_put 4 rfl keyed_int' Tryz.underlying106 (by simp [filesL, hFs.len]; unfold maxLen; omega) (v := .pointer (some ⟨wr.heap.size + 1, 0, none⟩)) (keyOf_id i (by omega))
      simp only [World.size_alloc] at hup hX5 hEb
      have hX5' := Lib.hid hX5
      have hFs' := Lib.hid hFs
      have he' := Lib.hid he
      have hu' := Lib.hid hu
      clear hXb hX5 hX hX1 hS hFs he hu hcell m1
      go_wp2_with fail
      refine wp_region_E (S := fun w' => w'.cell? ⟨W, 1, none⟩ = some (.map (some bf)) ∧ w'.cell? ⟨wr.heap.size, 0, none⟩ = some (.int .i64 e.mode) ∧ w'.cell? ⟨wr.heap.size, 1, none⟩ = some (.slice A e.size c9)) 11 (by kernel_rfl) ?_
      simp only [List.size_toArray, List.length_cons, List.length_nil, Nat.reduceAdd]
      refine wpE_take (i := 0) (v := ?_) rfl (by kernel_rfl) (by kernel_rfl) (by kernel_rfl) (by kernel_rfl) (fun _ _ _ h => h) (Or.inl ⟨by rfl, ?_⟩) hE ?_
      rotate_left
      · intro w hw; obtain ⟨e1, e2, e3⟩ := hw; go_simp
        try with_reducible rfl
      simp only [Act.put]
      try simp only [List.setIfInBounds_toArray]
      refine wpE_take (i := 1) (v := ?_) rfl (by kernel_rfl) (by kernel_rfl) (by kernel_rfl) (by kernel_rfl) (fun _ _ _ h => h) (Or.inl ⟨by rfl, ?_⟩) hE ?_
      rotate_left
      · intro w hw; obtain ⟨e1, e2, e3⟩ := hw; go_simp
        try with_reducible rfl
      simp only [Act.put]
      try simp only [List.setIfInBounds_toArray]
      refine wpE_take (i := 2) (v := ?_) rfl (by kernel_rfl) (by kernel_rfl) (by kernel_rfl) (by kernel_rfl) (fun _ _ _ h => h) (Or.inl ⟨by rfl, ?_⟩) hE ?_
      rotate_left
      · intro w hw; obtain ⟨e1, e2, e3⟩ := hw; go_simp
        try with_reducible rfl
      simp only [Act.put]
      try simp only [List.setIfInBounds_toArray]
      refine wpE_take (i := 3) (v := ?_) rfl (by kernel_rfl) (by kernel_rfl) (by kernel_rfl) (by kernel_rfl) (fun _ _ _ h => h) (Or.inl ⟨by rfl, ?_⟩) hE ?_
      rotate_left
      · intro w hw; obtain ⟨e1, e2, e3⟩ := hw; go_simp
        try with_reducible rfl
      simp only [Act.put]
      try simp only [List.setIfInBounds_toArray]
      refine wpE_take (i := 4) (v := ?_) rfl (by kernel_rfl) (by kernel_rfl) (by kernel_rfl) (by kernel_rfl) (fun _ _ _ h => h) (Or.inl ⟨by rfl, ?_⟩) hE ?_
      rotate_left
      · intro w hw; obtain ⟨e1, e2, e3⟩ := hw; go_simp
        try with_reducible rfl
      simp only [Act.put]
      try simp only [List.setIfInBounds_toArray]
      refine wpE_take (i := 5) (v := ?_) rfl (by kernel_rfl) (by kernel_rfl) (by kernel_rfl) (by kernel_rfl) (fun _ _ _ h => h) (Or.inl ⟨by rfl, ?_⟩) hE ?_
      rotate_left
      · intro w hw; obtain ⟨e1, e2, e3⟩ := hw; go_simp
        try with_reducible rfl
      simp only [Act.put]
      try simp only [List.setIfInBounds_toArray]
      refine wpE_take (i := 6) (v := ?_) rfl (by kernel_rfl) (by kernel_rfl) (by kernel_rfl) (by kernel_rfl) (fun _ _ _ h => h) (Or.inl ⟨by rfl, ?_⟩) hE ?_
      rotate_left
      · intro w hw; obtain ⟨e1, e2, e3⟩ := hw; go_simp
        try with_reducible rfl
      simp only [Act.put]
      try simp only [List.setIfInBounds_toArray]
      refine wpE_take (i := 7) (v := ?_) rfl (by kernel_rfl) (by kernel_rfl) (by kernel_rfl) (by kernel_rfl) (fun _ _ _ h => h) (Or.inl ⟨by rfl, ?_⟩) hE ?_
      rotate_left
      · intro w hw; obtain ⟨e1, e2, e3⟩ := hw; go_simp
        try with_reducible rfl
      simp only [Act.put]
      try simp only [List.setIfInBounds_toArray]
      refine wpE_take (i := 8) (v := ?_) rfl (by kernel_rfl) (by kernel_rfl) (by kernel_rfl) (by kernel_rfl) (fun _ _ _ h => h) (Or.inl ⟨by rfl, ?_⟩) hE ?_
      rotate_left
      · intro w hw; obtain ⟨e1, e2, e3⟩ := hw; go_simp
        try with_reducible rfl
      simp only [Act.put]
      try simp only [List.setIfInBounds_toArray]
      refine wpE_take (i := 9) (v := ?_) rfl (by kernel_rfl) (by kernel_rfl) (by kernel_rfl) (by kernel_rfl) (fun _ _ _ h => h) (Or.inl ⟨by rfl, ?_⟩) hE ?_
      rotate_left
      · intro w hw; obtain ⟨e1, e2, e3⟩ := hw; go_simp
        try with_reducible rfl
      simp only [Act.put]
      try simp only [List.setIfInBounds_toArray]
      refine wpE_one (i := 10) (by kernel_rfl) rfl (fun K hK => ?_)
      go_simp
      refine hK _ _ (fun _ => hEb) ?_
      clear hK K
      try simp only [Act.put]
      try simp only [List.setIfInBounds_toArray]
      refine wpE_one (i := 11) (by kernel_rfl) rfl (fun K hK => ?_)
      go_simp
      refine hK _ _ (fun h => absurd rfl h) ?_
      clear hK K
      try simp only [Act.put]
      try simp only [List.setIfInBounds_toArray]
      refine wpE_done (by kernel_rfl) ?_ _
      go_wp2_with fail
      go_roundw
      case rel =>
        have hlen := hFs'.out.len
        have hfin : ∃ (i' : Nat) (Fs' : List FEnt), i' ≤ es.length ∧ Value.int .i64 ((i : Int) + 1) = .int .i64 i' ∧ FsOk es vs i' 0 Fs' ∧ Sep w w5 (wAs W bn bf bk es.length [] Fs' [] [.box w.heap.size 34 #[.slice A1 es.length c1, .slice (some ⟨g, o, none⟩) es.length c2]]) := by
          refine ⟨i + 1, Fs ++ [⟨i, wr.heap.size + 1, e.mode, 0, .slice A e.size c9⟩], by omega, by go_num, ⟨by rw [List.length_append, hlen]; rfl, fun k f hk => ?_⟩, wAs_file (f := ⟨i, wr.heap.size + 1, e.mode, 0, .slice A e.size c9⟩) ?_ hX5'.out⟩
          · by_cases hki : k < i
            · rw [List.getElem?_append_left (by omega)] at hk
              exact hFs'.out.at_ k f hk
            · have : k = i := by
                have := (List.getElem?_eq_some_iff.1 hk).1
                rw [List.length_append, hlen] at this
                simp at this
                omega
              subst this
              rw [List.getElem?_append_right (by omega), hlen, Nat.sub_self] at hk
              simp at hk
              subst hk
              exact ⟨e, _, he'.out, hu'.out, rfl, rfl, rfl, rfl⟩
          · intro f hf
            obtain ⟨k, hk⟩ := List.mem_iff_getElem?.1 hf
            obtain ⟨_, _, _, _, h5, _⟩ := hFs'.out.at_ k f hk
            have := (List.getElem?_eq_some_iff.1 hk).1
            show f.id ≠ i
            omega
        first
          | exact hfin
          | (repeat apply Exists.intro; exact ⟨hfin, rfl⟩)
      case measure => simp [intOf]; omega
    · obtain rfl : i = es.length := by omega
      have t0 := hS.box_cell (es.length + 4) (wAs_last hFs.len) 0
      simp only [List.getElem?_toArray, List.getElem?_cons_zero] at t0
      have hS' := Lib.hid hS
      have hFs' := Lib.hid hFs
      clear hS hFs
      go_wp2_with fail
      go_loopw [46] (fun iv wr => ∃ (i : Nat) (Fs : List FEnt), i ≤ es.length ∧ iv = .int .i64 i ∧ FsOk es vs es.length i Fs ∧ Sep w wr (wAs W bn bf bk es.length (nsOf es i) Fs (lkOf i) [.box w.heap.size 34 #[.slice A1 es.length c1, .slice A2 es.length c2]])) (fun iv _ => es.length - (intOf iv).toNat)
      case atStart => exact ⟨0, Fs, Nat.zero_le _, rfl, hFs'.out, hS'.out⟩
      case round =>
        clear hFs' hS' t0
        obtain ⟨i, Fs, hi, rfl, hFs, hS⟩ := hrel
        have q1 : (0 : Int) ≤ (i : Int) := by omega
        by_cases hlt : i < es.length
        · have q2 : (i : Int) < (es.length : Int) := by omega
          obtain ⟨g, o, c, e, hc, hcm, hg, hcell⟩ := h'.out.nodes.place (by omega) (by decide)
          simp only [Value.slice.injEq] at e
          obtain ⟨rfl, _, rfl⟩ := e
          obtain ⟨e, he⟩ : ∃ e, es[i]? = some e := ⟨_, List.getElem?_eq_getElem hlt⟩
          have x0 := (hcell wr hS.below (i * 3) (by omega)).trans (nodeCells_at he 0 (by omega))
          have x1 := (hcell wr hS.below (i * 3 + 1) (by omega)).trans (nodeCells_at he 1 (by omega))
          have x2 := (hcell wr hS.below (i * 3 + 2) (by omega)).trans (nodeCells_at he 2 (by omega))
          simp only [nodeC, strV, List.getElem?_cons_zero, List.getElem?_cons_succ, ← Nat.add_assoc] at x0 x1 x2
          obtain ⟨f, hf⟩ : ∃ f, Fs[i]? = some f := ⟨_, List.getElem?_eq_getElem (by rw [hFs.len]; exact hlt)⟩
          obtain ⟨e2, u2, he2, hu2, f1, f2, f3, f4⟩ := hFs.at_ i f hf
          rw [if_neg (Nat.lt_irrefl i)] at f4
          have hA := hS.alloc (.cells #[strV e.path, .int .i64 i, .int .i64 0] 40)
          have hput := wput_any hA (ho'.out.name e (List.mem_of_getElem? he)) hf (by omega) (by omega) (lkOf_get i) (by omega) (by rw [nsOf_len hi]; omega) (by unfold lkOf; split <;> simp)
          rw [f1, nsOf_succ ho'.out he, lkOf_succ] at hput
          have hput' := Lib.hid hput
          have hFs' := Lib.hid hFs
          have hf' := Lib.hid hf
          have hu2' := Lib.hid hu2
          have he2' := Lib.hid he2
          have hff := Lib.hid (And.intro f1 (And.intro f2 (And.intro f3 f4)))
          unfold strV at *
          clear hput hFs hf hu2 he2 hA hS hcell f1 f2 f3 f4
          go_wp2_with (first
            | (go_at_call 55; refine hput'.out.mono ?_; rintro e3 w3 ⟨rfl, hS3⟩; replace hS3 := Lib.hid hS3)
            | fail)
          go_roundw
          case rel =>
            have hfin : ∃ (i' : Nat) (Fs' : List FEnt), i' ≤ es.length ∧ Value.int .i64 ((i : Int) + 1) = .int .i64 i' ∧ FsOk es vs es.length i' Fs' ∧ Sep w w3 (wAs W bn bf bk es.length (nsOf es i') Fs' (lkOf i') [.box w.heap.size 34 #[.slice (some ⟨g, o, none⟩) es.length c1, .slice A2 es.length c2]]) := by
              refine ⟨i + 1, _, by omega, by go_num, ⟨by rw [List.length_set]; exact hFs'.out.len, fun k f' hk => ?_⟩, hS3.out⟩
              obtain ⟨f1, f2, f3, f4⟩ := hff.out
              by_cases hki : i = k
              · subst hki
                rw [List.getElem?_set_self (by rw [hFs'.out.len]; exact hlt)] at hk
                simp at hk
                subst hk
                refine ⟨e2, u2, he2'.out, hu2'.out, ?_, f2, f3, ?_⟩
                · first | exact f1 | rfl
                · rw [if_pos (Nat.lt_succ_self i)]
                  simp [f4]
              · rw [List.getElem?_set_ne hki] at hk
                obtain ⟨e5, u5, h1, h2, h3, h4, h5, h6⟩ := hFs'.out.at_ k f' hk
                refine ⟨e5, u5, h1, h2, h3, h4, h5, ?_⟩
                rw [h6]
                by_cases h7 : k < i
                · rw [if_pos h7, if_pos (by omega)]
                · rw [if_neg h7, if_neg (by omega)]
            first
              | exact hfin
              | (repeat apply Exists.intro; exact ⟨hfin, rfl⟩)
          case measure => simp [intOf]; omega
        · obtain rfl : i = es.length := by omega
          have hS' := Lib.hid hS
          have hFs' := Lib.hid hFs
          clear hS hFs
          go_wp2_with fail
          go_ret2
          exact ⟨W, bn, bf, bk, Fs, rfl, hFs'.out, Sep.fst (X := wAs W bn bf bk es.length (nsOf es es.length) Fs (lkOf es.length) []) (Y := [.box w.heap.size 34 #[.slice A1 es.length c1, .slice A2 es.length c2]]) (by unfold wAs; rw [List.append_nil]; exact hS'.out)⟩
end Go.Proofs.YtahkpkaodeeemaaGreat
