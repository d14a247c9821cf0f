/- ModelTell, laid together. -/
import Derived.Test.YtahkpkaodeeemaaGreatJ27
namespace Go.Proofs.YtahkpkaodeeemaaGreat
open Go.RowKit
set_option linter.unusedVariables false

def idAt (Ns : List NEnt) (p : List UInt8) : Nat := match Ns.find? (fun n => n.path == p) with | some n => n.id | none => 0
def fAt (Fs : List FEnt) (id : Nat) : FEnt := (Fs.find? (fun f => decide (f.id = id))).getD ⟨0, 0, 0, 0, .slice none 0 0⟩
def entAt (Ns : List NEnt) (Fs : List FEnt) (p : List UInt8) : Ent := ⟨p, (fAt Fs (idAt Ns p)).mode, dvLen (fAt Fs (idAt Ns p)).dv⟩
structure TellOk (w : World) (Ns : List NEnt) (Fs : List FEnt) : Prop where
  few : Ns.length ≤ 1000
  short : ∀ n ∈ Ns, n.path.length ≤ 100
  each : ∀ n ∈ Ns, ∃ f ∈ Fs, f.id = n.id
  inj : ∀ a ∈ Ns, ∀ b ∈ Ns, a.id = b.id → a.path = b.path
  ids : ∀ f ∈ Fs, f.id ≤ 10000
  data : ∀ f ∈ Fs, ∃ A n c, f.dv = .slice A n c ∧ n ≤ 8192 ∧ DataAt w f.dv n
theorem idAt_of {Ns : List NEnt} {p : List UInt8} (h : p ∈ Ns.map NEnt.path) : ∃ n ∈ Ns, n.path = p ∧ n.id = idAt Ns p ∧ nodeAt Ns p = .agg #[.int .i64 (idAt Ns p), .int .i64 0] := by
  obtain ⟨m, hm, rfl⟩ := List.mem_map.1 h
  have hf : (Ns.find? (fun n => n.path == m.path)).isSome = true := by
    rw [List.find?_isSome]
    exact ⟨m, hm, by simp⟩
  obtain ⟨n, hn⟩ := Option.isSome_iff_exists.1 hf
  have h1 := List.find?_some hn
  have h2 := List.mem_of_find?_eq_some hn
  refine ⟨n, h2, by simpa using h1, by unfold idAt; rw [hn], ?_⟩
  unfold nodeAt getM nodesL idAt
  rw [List.find?_map]
  have e : ((fun (p : Lit × Value) => p.1.sameKey (.string m.path)) ∘ fun (n : NEnt) => ((.string n.path : Lit), (Value.agg #[.int .i64 n.id, .int .i64 0]))) = fun n => n.path == m.path := by
    funext n
    rfl
  rw [e, hn]
  rfl
theorem fAt_of {Fs : List FEnt} {id : Nat} (h : ∃ f ∈ Fs, f.id = id) : fAt Fs id ∈ Fs ∧ (fAt Fs id).id = id := by
  obtain ⟨f, hf, he⟩ := h
  have hs : (Fs.find? (fun f => decide (f.id = id))).isSome = true := by
    rw [List.find?_isSome]
    exact ⟨f, hf, by simpa using he⟩
  obtain ⟨g, hg⟩ := Option.isSome_iff_exists.1 hs
  unfold fAt
  rw [hg]
  exact ⟨List.mem_of_find?_eq_some hg, by simpa using List.find?_some hg⟩
theorem delN_perm {Ms : List NEnt} (hn : (Ms.map NEnt.path).Nodup) {nd : NEnt} (h : nd ∈ Ms) : (Ms.map NEnt.path).Perm (nd.path :: (delN Ms nd.path).map NEnt.path) := by
  induction Ms with
  | nil => cases h
  | cons m Ms ih =>
    rw [List.map_cons, List.nodup_cons] at hn
    rcases List.mem_cons.1 h with rfl | hm
    · have e : delN (nd :: Ms) nd.path = Ms := by
        unfold delN
        rw [List.filter_cons]
        simp only [beq_self_eq_true, Bool.not_true, Bool.false_eq_true, if_false]
        refine List.filter_eq_self.2 fun x hx => ?_
        have : x.path ≠ nd.path := fun e => hn.1 (e ▸ List.mem_map_of_mem hx)
        simpa using this
      rw [e]
      exact List.Perm.refl _
    · have hne : (m.path == nd.path) = false := by
        have : m.path ≠ nd.path := fun e => hn.1 (e ▸ List.mem_map_of_mem hm)
        simpa using this
      have e : delN (m :: Ms) nd.path = m :: delN Ms nd.path := by
        unfold delN
        rw [List.filter_cons, hne]
        rfl
      rw [e, List.map_cons, List.map_cons]
      exact ((ih hn.2 hm).cons _).trans (List.Perm.swap _ _ _)
theorem paths_nodup {Ns : List NEnt} (h : KeysM (nodesL Ns)) : (Ns.map NEnt.path).Nodup := by
  have := h.ne
  unfold nodesL at this
  rw [List.pairwise_map] at this
  rw [List.nodup_iff_pairwise_ne, List.pairwise_map]
  refine this.imp fun {a b} hab e => hab ?_
  show Lit.string _ = Lit.string _
  rw [e]
/-- The numbers given. -/
def freshL (Ns : List NEnt) (l : List (List UInt8)) (i : Nat) : List (Lit × Value) := (l.zipIdx.take i).map fun x => (.int .i64 (idAt Ns x.1), .int .i64 x.2)
theorem fresh_none {Ns : List NEnt} {l : List (List UInt8)} {i : Nat} {p : List UInt8} (hp : l[i]? = some p) (hne : ∀ (j : Nat) q, j < i → l[j]? = some q → idAt Ns q ≠ idAt Ns p) : ∀ x ∈ freshL Ns l i, x.1 ≠ .int .i64 (idAt Ns p) := by
  intro x hx
  unfold freshL at hx
  obtain ⟨y, hy, rfl⟩ := List.mem_map.1 hx
  obtain ⟨j, hj⟩ := List.mem_iff_getElem?.1 hy
  rw [List.getElem?_take] at hj
  split at hj
  · rename_i hlt
    rw [List.getElem?_zipIdx, Option.map_eq_some_iff] at hj
    obtain ⟨q, hq, rfl⟩ := hj
    have := hne j q hlt hq
    intro e
    simp at e
    omega
  · cases hj
theorem fresh_put {Ns : List NEnt} {l : List (List UInt8)} {i : Nat} {p : List UInt8} (hp : l[i]? = some p) (hne : ∀ x ∈ freshL Ns l i, x.1 ≠ .int .i64 (idAt Ns p)) : putM (freshL Ns l i) (.int .i64 (idAt Ns p)) (.int .i64 i) = freshL Ns l (i + 1) := by
  unfold putM
  have e : delM (freshL Ns l i) (.int .i64 (idAt Ns p)) = freshL Ns l i := by
    unfold delM
    refine List.filter_eq_self.2 fun x hx => ?_
    cases hs : x.1.sameKey (.int .i64 (idAt Ns p)) with
    | false => rfl
    | true => exact absurd (WideAt.sameKey_eq hs) (hne x hx)
  rw [e]
  unfold freshL
  rw [List.take_add_one, List.getElem?_zipIdx, hp]
  simp

theorem info_strT : (Tryz.prog.info? 9).map (fun i => (i.zero, i.size, i.bytes)) = some (some (.string ⟨#[]⟩), 1, 16) := by kernel_rfl
theorem info_nodeT : (Tryz.prog.info? 40).map (fun i => (i.zero, i.size, i.bytes)) = some (some (.agg #[.string ⟨#[]⟩, .int .i64 0, .int .i64 0]), 3, 32) := by kernel_rfl
theorem info_fileT : (Tryz.prog.info? 42).map (fun i => (i.zero, i.size, i.bytes)) = some (some (.agg #[.int .i64 0, .slice none 0 0]), 2, 32) := by kernel_rfl
theorem less_unique : ∀ {xs ys : List (List UInt8)}, (xs.Pairwise fun x y => Op.bytesLess x y = true) → (ys.Pairwise fun x y => Op.bytesLess x y = true) → (∀ x, x ∈ xs ↔ x ∈ ys) → xs = ys := by
  intro xs
  induction xs with
  | nil =>
    intro ys _ _ h
    cases ys with
    | nil => rfl
    | cons y ys => exact absurd ((h y).2 (by simp)) (by simp)
  | cons x xs ih =>
    intro ys hx hy h
    cases ys with
    | nil => exact absurd ((h x).1 (by simp)) (by simp)
    | cons y ys =>
      obtain ⟨a1, a2⟩ := List.pairwise_cons.1 hx
      obtain ⟨b1, b2⟩ := List.pairwise_cons.1 hy
      have e : x = y := by
        rcases List.mem_cons.1 ((h x).1 (by simp)) with e | h1
        · exact e
        · rcases List.mem_cons.1 ((h y).2 (by simp)) with e | h2
          · exact e.symm
          · have h3 := bl_asymm (a1 _ h2)
            rw [b1 _ h1] at h3
            cases h3
      subst e
      congr 1
      refine ih a2 b2 fun z => ⟨fun hz => ?_, fun hz => ?_⟩
      · rcases List.mem_cons.1 ((h z).1 (List.mem_cons_of_mem _ hz)) with e | h1
        · subst e
          have h3 := a1 _ hz
          rw [bl_irrefl] at h3
          cases h3
        · exact h1
      · rcases List.mem_cons.1 ((h z).2 (List.mem_cons_of_mem _ hz)) with e | h1
        · subst e
          have h3 := b1 _ hz
          rw [bl_irrefl] at h3
          cases h3
        · exact h1
theorem sortS_of_perm {ps qs : List (List UInt8)} (h : ps.Perm qs) (hn : qs.Nodup) : sortS ps = sortS qs :=
  less_unique (sortS_less (h.nodup_iff.2 hn)) (sortS_less hn) fun x => by rw [(sortS_perm ps).mem_iff, (sortS_perm qs).mem_iff, h.mem_iff]
theorem run_load_tree {w : World} {b : Nat} {x y : Value} (h0 : w.cell? ⟨b, 0, none⟩ = some x) (h1 : w.cell? ⟨b, 1, none⟩ = some y) : (loadVar 34 ⟨b, 0, none⟩).run Tryz.prog w = .ok (.agg #[x, y]) w := by
  simp [loadVar, go_sem, h0, h1]
theorem tree_results1 {fn : Func} {p : Tmp} (h : fn.results = #[.cell p 34]) {tmps : Array Value} {w : World} {b : Nat} {x y : Value} (hp : tmps.getD p undef = .pointer (some ⟨b, 0, none⟩)) (h0 : w.cell? ⟨b, 0, none⟩ = some x) (h1 : w.cell? ⟨b, 1, none⟩ = some y) :
    (results fn tmps).run Tryz.prog w = .ok (.agg #[x, y]) w := by
  have hp2 : tmps[p]?.getD undef = .pointer (some ⟨b, 0, none⟩) := by simpa using hp
  simp only [results, h]
  simp [hp2, asAddr, run_load_tree h0 h1]
theorem flat_of {w0 w : World} {es : List Ent} {vs : List Value} {nv fv : Value} (hl : vs.length = es.length) (h : Sep w0 w (.sl 42 2 fv es.length (fileCells es vs) :: .sl 40 3 nv es.length (nodeCells es) :: List.zipWith (fun u (e : Ent) => Asn.keep fun w => DataAt w u e.size) vs es)) : FlatAt w nv fv es vs :=
  ⟨hl, h.rd 1 rfl, h.rd 0 rfl, fun k u e hu he => h.kept (P := fun w => DataAt w u e.size) (k + 2) (by
    show (List.zipWith _ vs es)[k]? = _
    rw [List.getElem?_zipWith, hu, he])⟩
theorem tree_results2 {fn : Func} {p u : Tmp} (h : fn.results = #[.cell p 34, .tmp u]) {tmps : Array Value} {w : World} {b : Nat} {x y : Value} (hp : tmps.getD p undef = .pointer (some ⟨b, 0, none⟩)) (h0 : w.cell? ⟨b, 0, none⟩ = some x) (h1 : w.cell? ⟨b, 1, none⟩ = some y) :
    (results fn tmps).run Tryz.prog w = .ok (.tuple #[.agg #[x, y], tmps.getD u undef]) w := by
  have hp2 : tmps[p]?.getD undef = .pointer (some ⟨b, 0, none⟩) := by simpa using hp
  simp only [results, h]
  simp [Result.andThen, hp2, asAddr, run_load_tree h0 h1]
theorem fileCells_snoc {es : List Ent} {vs : List Value} (h : vs.length = es.length) (e : Ent) (u : Value) : fileCells (es ++ [e]) (vs ++ [u]) = fileCells es vs ++ [.int .i64 e.mode, u] := by
  unfold fileCells
  rw [List.zip_append h.symm, List.flatMap_append]
  rfl
theorem nodeCells_snoc (es : List Ent) (e : Ent) : nodeCells (es ++ [e]) = nodeCells es ++ [strV e.path, .int .i64 es.length, .int .i64 0] := by
  unfold nodeCells
  rw [List.zipIdx_append, List.flatMap_append]
  simp [nodeC]
theorem take_succ_map {α β : Type} (E : α → β) {l : List α} {i : Nat} {p : α} (h : l[i]? = some p) : (l.take (i + 1)).map E = (l.take i).map E ++ [E p] := by
  rw [List.take_add_one, h, List.map_append]
  rfl
def keepD (u : Value) (e : Ent) : Asn := .keep fun w => DataAt w u e.size
def L2 (Ns : List NEnt) (Fs : List FEnt) (l : List (List UInt8)) (W bn bf bk next : Nat) (Lk : List (Lit × Value)) (R : List Asn) (b5 b6 r : Nat) (lv : Value) (i : Nat) (nv fv : Value) (vs : List Value) : List Asn :=
  .sl 42 2 fv i (fileCells ((l.take i).map (entAt Ns Fs)) vs) :: .sl 40 3 nv i (nodeCells ((l.take i).map (entAt Ns Fs))) :: gmR 3 b6 (freshL Ns l i) :: .box b5 34 #[nv, fv] :: strsR lv l :: .box r 34 #[.slice none 0 0, .slice none 0 0] ::
    wAs W bn bf bk next Ns Fs Lk (R ++ List.zipWith keepD vs ((l.take i).map (entAt Ns Fs)))
set_option maxRecDepth 100000 in
set_option maxHeartbeats 4000000 in
theorem tell_any {w0 w : World} {W bn bf bk next : Nat} {Ns : List NEnt} {Fs : List FEnt} {Lk : List (Lit × Value)} {R : List Asn} (hS : Sep w0 w (wAs W bn bf bk next Ns Fs Lk R)) (ht : TellOk w0 Ns Fs) :
    Calls Tryz.prog 41 #[.pointer (some ⟨W, 0, none⟩)] w fun e w' => ∃ nv fv vs, e = .returned (.agg #[nv, fv]) ∧ Sep w0 w' [.keep fun W => FlatAt W nv fv ((sortS (Ns.map NEnt.path)).map (entAt Ns Fs)) vs] := by
  have hkm := (hS.gm_keys 1 rfl)
  have hnd := paths_nodup hkm
  have u0 := hS.box_cell 0 rfl 0
  have hS0 := ((hS.box_new 34 #[.slice none 0 0, .slice none 0 0]).sl_nil 9 1)
  have v0 := hS0.box_cell 2 rfl 0
  simp only [worldCells, List.getElem?_toArray, List.getElem?_cons_zero] at u0 v0
  obtain ⟨w1, hrg, hS1, hsz⟩ := hS0.gm_range 3 rfl keyed_str Tryz.underlying105
  have hS1' := Lib.hid hS1
  have ht' := Lib.hid ht
  have hmm := @run_makeMap Tryz.prog
  obtain ⟨i0, hinf, hz0, hz1, hz2⟩ := info_parts info_strT
  obtain ⟨j0, hjnf, hj0, hj1, hj2⟩ := info_parts info_fileT
  obtain ⟨k0, hknf, hk0, hk1, hk2⟩ := info_parts info_nodeT
  have hnd' := Lib.hid hnd
  clear hS hS0 hS1 ht hnd hkm
  go_enter Tryz.func41, Tryz.ntmps41
  go_wp2_with fail
  go_loopg [3] (nodesL Ns).length (fun g i3 wr => ∃ (Ms : List NEnt) (ps : List (List UInt8)), Hid (g = Ms.length) ∧ Ms.Sublist Ns ∧ Hid ((ps ++ Ms.map NEnt.path).Perm (Ns.map NEnt.path)) ∧ Sep w0 wr (strsR i3 ps :: .box w.heap.size 34 #[.slice none 0 0, .slice none 0 0] :: (wAs W bn bf bk next Ns Fs Lk R).set 1 (grangeR 9 bn (w.heap.size + 1) (nodesL Ns).length (nodesL Ns) (nodesL Ms))))
  case atStart =>
    have h1 := hS1'.out
    simp only [World.size_alloc] at h1
    exact ⟨Ns, [], Lib.hid (by simp [nodesL]), List.Sublist.refl _, Lib.hid (List.Perm.refl _), h1⟩
  case round =>
    obtain ⟨Ms, ps, hg, hsub, hpm, hS⟩ := hrel
    have hps : ps.length ≤ 1000 := by
      have h1 := hpm.out.length_eq
      rw [List.length_append, List.length_map, List.length_map] at h1
      have := ht'.out.few
      omega
    rcases hS.grange_next 3 rfl keyed_str 0 with ⟨hnil, hnx⟩ | ⟨key, v, kl, w3, hkey, hmem, hnx, hS3, hsz3, hen⟩
    · have : Ms = [] := by simpa [nodesL] using hnil
      subst this
      have hpm2 : ps.Perm (Ns.map NEnt.path) := by simpa using hpm.out
      have hsl := sortS_of_perm hpm2 hnd'.out
      have hSe := hS.gm_end 3 rfl
      have hso := Lib.hid (sortstrs_any 0 hSe rfl (by omega))
      rw [hsl] at hso
      obtain ⟨l, hl⟩ : ∃ l, sortS (Ns.map NEnt.path) = l := ⟨_, rfl⟩
      rw [hl] at hso
      have hl' := Lib.hid hl
      have hll : l.length ≤ 1000 := by
        rw [← hl, (sortS_perm _).length_eq, List.length_map]
        exact ht'.out.few
      clear hS hSe hS1' hpm hl hsl
      go_wp2_with (first
        | (go_at_call 59; refine hso.out.mono ?_; rintro e w4 ⟨rfl, hS4⟩; (have hS5 := (((hS4.box_new 34 #[.slice none 0 0, .slice none 0 0]).gm_new 3).sl_nil 40 3).sl_nil 42 2); obtain ⟨Al, cl, hi3, _⟩ := (hS4.rd 0 rfl).shape; subst hi3; simp only [World.size_alloc] at hS5; replace hS5 := Lib.hid hS5; clear hS4; dsimp only)
        | fail)
      generalize hb5 : w4.heap.size = b5 at hS5 ⊢
      generalize hb6 : b5 + 1 = b6 at hS5 ⊢
      have hstart : Sep w0 ((w4.alloc (.cells #[.slice none 0 0, .slice none 0 0] 34)).alloc (.map #[] 0)) (L2 Ns Fs l W bn bf bk next Lk R b5 b6 w.heap.size (.slice Al l.length cl) 0 (.slice none 0 0) (.slice none 0 0) []) := by
        have h := hS5.out
        rw [show wAs W bn bf bk next Ns Fs Lk R = wAs W bn bf bk next Ns Fs Lk (R ++ []) by rw [List.append_nil]] at h
        exact h
      have hstart' := Lib.hid hstart
      clear hstart hS5 hb5 hb6
      go_loopw [31] (fun iv wr => ∃ (i : Nat) (nv fv : Value) (vs : List Value), i ≤ l.length ∧ iv = .int .i64 i ∧ vs.length = i ∧ Sep w0 wr (L2 Ns Fs l W bn bf bk next Lk R b5 b6 w.heap.size (.slice Al l.length cl) i nv fv vs)) (fun iv _ => l.length - (intOf iv).toNat)
      case atStart => exact ⟨0, _, _, [], Nat.zero_le _, rfl, rfl, hstart'.out⟩
      case round =>
        clear hstart'
        obtain ⟨i, nv, fv, vs, hi, rfl, hvs, hS⟩ := hrel
        have q1 : (0 : Int) ≤ (i : Int) := by omega
        by_cases hlt : i < l.length
        · have q2 : (i : Int) < (l.length : Int) := by omega
          obtain ⟨p, hp⟩ : ∃ p, l[i]? = some p := ⟨_, List.getElem?_eq_getElem hlt⟩
          have hmem : p ∈ Ns.map NEnt.path := by
            rw [← (sortS_perm _).mem_iff, hl'.out]
            exact List.mem_of_getElem? hp
          obtain ⟨n, hnm, hnp, hnid, hnat⟩ := idAt_of hmem
          obtain ⟨hfm, hfid⟩ := fAt_of (id := idAt Ns p) (by rw [← hnid]; exact ht'.out.each n hnm)
          obtain ⟨j, hj⟩ := List.mem_iff_getElem?.1 hfm
          obtain ⟨f, hf⟩ : ∃ f, fAt Fs (idAt Ns p) = f := ⟨_, rfl⟩
          have hent : entAt Ns Fs p = ⟨p, f.mode, dvLen f.dv⟩ := by unfold entAt; rw [hf]
          rw [hf] at hfm hfid hj
          obtain ⟨id, hid⟩ : ∃ id, idAt Ns p = id := ⟨_, rfl⟩
          have hne : ∀ x ∈ freshL Ns l i, x.1 ≠ .int .i64 (idAt Ns p) := by
            refine fresh_none hp fun k q hk hq e => ?_
            have hmem2 : q ∈ Ns.map NEnt.path := by
              rw [← (sortS_perm _).mem_iff, hl'.out]
              exact List.mem_of_getElem? hq
            obtain ⟨n2, hn2m, hn2p, hn2id, _⟩ := idAt_of hmem2
            have h1 := ht'.out.inj n2 hn2m n hnm (by rw [hn2id, hnid, e])
            rw [hn2p, hnp] at h1
            have h2 := sortS_less hnd'.out
            rw [hl'.out] at h2
            obtain ⟨hk2, rfl⟩ := List.getElem?_eq_some_iff.1 hq
            have h3 := List.pairwise_iff_getElem.1 h2 k i hk2 hlt hk
            have e4 : l[i] = p := (List.getElem?_eq_some_iff.1 hp).2
            rw [e4, h1, bl_irrefl] at h3
            cases h3
          have hput := fresh_put hp hne
          rw [hid] at hnat hfid hne hput
          obtain ⟨A, m, c, hdv, hm, hdata⟩ := ht'.out.data f hfm
          have hidb := ht'.out.ids f hfm
          rw [hdv] at hdata
          have hfc : fileBox f = .box f.ptr 113 #[.int .i64 f.mode, .int .i64 f.names, .slice A m c] := by unfold fileBox; rw [hdv]
          have hfi : (L2 Ns Fs l W bn bf bk next Lk R b5 b6 w.heap.size (.slice Al l.length cl) i nv fv vs)[j + 10]? = some (fileBox f) := by
            show (Fs.map fileBox ++ _)[j]? = _
            have hj2 := (List.getElem?_eq_some_iff.1 hj).1
            rw [List.getElem?_append_left (by simpa using hj2), List.getElem?_map, hj]
            rfl
          obtain ⟨gl, cl', el, _, _, _⟩ := hS.sl_form 4 rfl (by omega)
          simp only [Value.slice.injEq] at el
          obtain ⟨rfl, _, rfl⟩ := el
          have x0 := hS.cellAt 4 rfl i (by omega)
          rw [List.getElem?_map, hp] at x0
          obtain ⟨Af, cf, rfl, _⟩ := (hS.rd 0 rfl).shape
          obtain ⟨An, cn, rfl, _⟩ := (hS.rd 1 rfl).shape
          have y0 := hS.box_cell 6 rfl 0
          have hlk := hS.gm_look 7 rfl keyed_str Tryz.underlying105 (zero_node _) (keyOf_strV p (by have := ht'.out.short n hnm; rw [hnp] at this; unfold maxLen; omega))
          rw [show (getM (nodesL Ns) (.string p)).getD (.agg #[.int .i64 0, .int .i64 0]) = nodeAt Ns p from rfl, hnat] at hlk
          have hX1 := hS.box_new 110 #[.int .i64 id, .int .i64 0]
          have hlk2 := hX1.gm_ok 3 rfl keyed_int' Tryz.underlying95 (zero_int' _) (keyOf_id id (by omega))
          rw [getM_none (keyed_int'.key (keyOf_id id (by omega))) hne, Option.getD_none, Option.isSome_none] at hlk2
          have b1 := hX1.box_cell 4 rfl 1
          have n1 := hX1.box_cell 0 rfl 0
          have hfl : (freshL Ns l i).length ≤ 1000 := by unfold freshL; rw [List.length_map, List.length_take, List.length_zipIdx]; omega
          obtain ⟨w2, hup, hX2⟩ := hX1.gm_put 3 rfl keyed_int' Tryz.underlying95 (by unfold maxLen; omega) (v := .int .i64 i) (keyOf_id id (by omega))
          rw [hput] at hX2
          have y1 := hX2.box_cell 7 rfl 1
          have n2 := hX2.box_cell 0 rfl 0
          simp only [worldCells, List.getElem?_toArray, List.getElem?_cons_zero, List.getElem?_cons_succ] at y0 b1 n1 y1 n2
          have hlq : ∀ q, (Instr.lookup 106 (.map (some bf)) (.int .i64 id) false).run Tryz.prog (w2.drewN q) = .ok (.pointer (some ⟨f.ptr, 0, none⟩)) (w2.drewN q) := fun q => by
            have hYd := hX2.drewN q
            have hlf := hYd.gm_look 9 rfl keyed_int' Tryz.underlying106 (zero_pfile _) (keyOf_id id (by omega))
            rwa [getM_mem (hYd.gm_keys 9 rfl) (v := .pointer (some ⟨f.ptr, 0, none⟩)) (List.mem_map.2 ⟨f, hfm, by rw [hfid]⟩), Option.getD_some] at hlf
          have hX2' := Lib.hid hX2
          have hput' := Lib.hid hput
          have hp' := Lib.hid hp
          have hent' := Lib.hid hent
          have hfi' := Lib.hid hfi
          have hfc' := Lib.hid hfc
          have hdata' := Lib.hid hdata
          have hvs' := Lib.hid hvs
          have hdv' := Lib.hid hdv
          have q4 : (0 : Int) ≤ (id : Int) := by omega
          unfold strV at x0 hlk
          simp only [Option.map_some] at x0
          clear hX2 hX1 hS hput hp hent hfi hfc hdata hne hnat hmem hnm hnp hnid hfm hfid hj hf hid hvs hdv
          go_wp2_with fail
          go_quiet (fail)
          go_wp2_with fail
          have hX3 := (hX2'.out.drewN nq).drew
          obtain ⟨w3, hw3⟩ : ∃ w3, (w2.drewN nq).drew = w3 := ⟨_, rfl⟩
          rw [hw3] at hX3
          have m1 : ∀ (d : Nat) (As : List Asn) (w' : World), Sep w0 w' As → As.drop d = (L2 Ns Fs l W bn bf bk next Lk R b5 b6 w.heap.size (.slice (some ⟨gl, 0, none⟩) l.length cl) i (.slice An i cn) (.slice Af i cf) vs).drop 3 → w'.cell? ⟨b5, 1, none⟩ = some (.slice Af i cf) ∧ w'.cell? ⟨f.ptr, 0, none⟩ = some (.int .i64 f.mode) ∧ w'.cell? ⟨f.ptr, 2, none⟩ = some (.slice A m c) ∧ w'.frozen? ⟨b5, 1, none⟩ = false := by
            intro d As w' h h1
            have h2 : As[d + 0]? = some (.box b5 34 #[.slice An i cn, .slice Af i cf]) := by
              rw [← List.getElem?_drop, h1]
              rfl
            have h3 : As[d + (j + 7)]? = some (.box f.ptr 113 #[.int .i64 f.mode, .int .i64 f.names, .slice A m c]) := by
              rw [← List.getElem?_drop, h1, List.getElem?_drop, show 3 + (j + 7) = j + 10 by omega, ← hfc'.out]
              exact hfi'.out
            exact ⟨by rw [h.box_cell _ h2 1]; rfl, by rw [h.box_cell _ h3 0]; rfl, by rw [h.box_cell _ h3 2]; rfl, h.box_frozen _ h2 1⟩
          obtain ⟨hEa, hEb, hEc, hEd⟩ := m1 4 _ _ hX3 rfl
          have hE : w3.cell? ⟨b5, 1, none⟩ = some (.slice Af i cf) ∧ w3.cell? ⟨f.ptr, 0, none⟩ = some (.int .i64 f.mode) ∧ w3.cell? ⟨f.ptr, 2, none⟩ = some (.slice A m c) := ⟨hEa, hEb, hEc⟩
          have m1' := Lib.hid m1
          have hX3' := Lib.hid hX3
          have hcl := Lib.hid (clone_bytes_any (hdata'.out.below hX3.below) (by omega))
          clear hX3 m1 hX2' hlq hup hlk hlk2 x0 y0 b1 n1 y1 n2 hmm hso u0 v0 hrg hnx hsz hput'
          refine wp_region_E (S := fun w' => w'.cell? ⟨b5, 1, none⟩ = some (.slice Af i cf) ∧ w'.cell? ⟨f.ptr, 0, none⟩ = some (.int .i64 f.mode) ∧ w'.cell? ⟨f.ptr, 2, none⟩ = some (.slice A m c)) 15 (by kernel_rfl) ?_
          simp only [List.size_toArray, List.length_cons, List.length_nil, Nat.reduceAdd]
          rw [hw3]
          clear hw3
          refine wpE_take (i := 0) (v := ?_) rfl (by kernel_rfl) (by kernel_rfl) (by kernel_rfl) (by kernel_rfl) (fun _ _ _ h => h) (Or.inl ⟨by rfl, ?_⟩) hE ?_
          rotate_left
          · intro w hw; obtain ⟨e1, e2, e3⟩ := hw; go_simp
            try with_reducible rfl
          simp only [Act.put]
          try simp only [List.setIfInBounds_toArray]
          refine wpE_take (i := 1) (v := ?_) rfl (by kernel_rfl) (by kernel_rfl) (by kernel_rfl) (by kernel_rfl) (fun _ _ _ h => h) (Or.inl ⟨by rfl, ?_⟩) hE ?_
          rotate_left
          · intro w hw; obtain ⟨e1, e2, e3⟩ := hw; go_simp
            try with_reducible rfl
          simp only [Act.put]
          try simp only [List.setIfInBounds_toArray]
          refine wpE_take (i := 2) (v := ?_) rfl (by kernel_rfl) (by kernel_rfl) (by kernel_rfl) (by kernel_rfl) (fun _ _ _ h => h) (Or.inl ⟨by rfl, ?_⟩) hE ?_
          rotate_left
          · intro w hw; obtain ⟨e1, e2, e3⟩ := hw; go_simp
            try with_reducible rfl
          simp only [Act.put]
          try simp only [List.setIfInBounds_toArray]
          refine wpE_take (i := 3) (v := ?_) rfl (by kernel_rfl) (by kernel_rfl) (by kernel_rfl) (by kernel_rfl) (fun _ _ _ h => h) (Or.inl ⟨by rfl, ?_⟩) hE ?_
          rotate_left
          · intro w hw; obtain ⟨e1, e2, e3⟩ := hw; go_simp
            try with_reducible rfl
          simp only [Act.put]
          try simp only [List.setIfInBounds_toArray]
          refine wpE_take (i := 4) (v := ?_) rfl (by kernel_rfl) (by kernel_rfl) (by kernel_rfl) (by kernel_rfl) (fun _ _ _ h => h) (Or.inl ⟨by rfl, ?_⟩) hE ?_
          rotate_left
          · intro w hw; obtain ⟨e1, e2, e3⟩ := hw; go_simp
            try with_reducible rfl
          simp only [Act.put]
          try simp only [List.setIfInBounds_toArray]
          refine wpE_take (i := 5) (v := ?_) rfl (by kernel_rfl) (by kernel_rfl) (by kernel_rfl) (by kernel_rfl) (fun _ _ _ h => h) (Or.inl ⟨by rfl, ?_⟩) hE ?_
          rotate_left
          · intro w hw; obtain ⟨e1, e2, e3⟩ := hw; go_simp
            try with_reducible rfl
          simp only [Act.put]
          try simp only [List.setIfInBounds_toArray]
          refine wpE_take (i := 6) (v := ?_) rfl (by kernel_rfl) (by kernel_rfl) (by kernel_rfl) (by kernel_rfl) (fun _ _ _ h => h) (Or.inl ⟨by rfl, ?_⟩) hE ?_
          rotate_left
          · intro w hw; obtain ⟨e1, e2, e3⟩ := hw; go_simp
            try with_reducible rfl
          simp only [Act.put]
          try simp only [List.setIfInBounds_toArray]
          refine wpE_take (i := 7) (v := ?_) rfl (by kernel_rfl) (by kernel_rfl) (by kernel_rfl) (by kernel_rfl) (fun _ _ _ h => h) (Or.inl ⟨by rfl, ?_⟩) hE ?_
          rotate_left
          · intro w hw; obtain ⟨e1, e2, e3⟩ := hw; go_simp
            try with_reducible rfl
          simp only [Act.put]
          try simp only [List.setIfInBounds_toArray]
          refine wpE_take (i := 8) (v := ?_) rfl (by kernel_rfl) (by kernel_rfl) (by kernel_rfl) (by kernel_rfl) (fun _ _ _ h => h) (Or.inl ⟨by rfl, ?_⟩) hE ?_
          rotate_left
          · intro w hw; obtain ⟨e1, e2, e3⟩ := hw; go_simp
            try with_reducible rfl
          simp only [Act.put]
          try simp only [List.setIfInBounds_toArray]
          refine wpE_take (i := 9) (v := ?_) rfl (by kernel_rfl) (by kernel_rfl) (by kernel_rfl) (by kernel_rfl) (fun _ _ _ h => h) (Or.inl ⟨by rfl, ?_⟩) hE ?_
          rotate_left
          · intro w hw; obtain ⟨e1, e2, e3⟩ := hw; go_simp
            try with_reducible rfl
          simp only [Act.put]
          try simp only [List.setIfInBounds_toArray]
          refine wpE_one (i := 10) (by kernel_rfl) rfl (fun K hK => ?_)
          go_simp
          go_at_call 60
          refine hcl.out.mono ?_
          rintro e w5 ⟨A2, c2, rfl, hS5⟩
          have hX5 := hX3'.out.join hS5
          obtain ⟨k5a, k5b, k5c, _⟩ := m1'.out 5 _ _ hX5 rfl
          dsimp only
          refine hK _ _ (fun _ => ⟨k5a, k5b, k5c⟩) ?_
          clear hK K
          try simp only [Act.put]
          try simp only [List.setIfInBounds_toArray]
          refine wpE_one (i := 11) (by kernel_rfl) rfl (fun K hK => ?_)
          go_simp
          refine hK _ _ (fun _ => ⟨k5a, k5b, k5c⟩) ?_
          clear hK K
          try simp only [Act.put]
          try simp only [List.setIfInBounds_toArray]
          have hX6 := hX5.alloc (.cells #[.int .i64 f.mode, .slice A2 m c2] 42)
          obtain ⟨k6a, k6b, k6c, _⟩ := m1'.out 5 _ _ hX6 rfl
          have hX6' := Lib.hid hX6
          clear hX6 hX5 hS5
          refine wpE_one (i := 12) (by kernel_rfl) rfl (fun K hK => ?_)
          go_simp
          refine hK _ _ (fun _ => ⟨k6a, k6b, k6c⟩) ?_
          clear hK K
          try simp only [Act.put]
          try simp only [List.setIfInBounds_toArray]
          refine wpE_one (i := 13) (by kernel_rfl) rfl (fun K hK => ?_)
          refine step_append_sep 2 (by rfl) _ _ 32 (by rfl) 42 j0 _ 2 32 Tryz.underlying32 hjnf hj0 hj1 hj2 rfl (by decide) hX6'.out (.slice Af i cf) i (fileCells ((l.take i).map (entAt Ns Fs)) vs) (by rfl) (by rfl) ⟨w5.heap.size, 0, none⟩ 1 1 [.int .i64 f.mode, .slice A2 m c2] (by rfl) (by rfl) (cells_new _ _ _ _ (by simp)) (by simp [Value.oneCell']) (by decide) (by unfold maxLen; omega) (by omega) ?_
          intro g7 c7 w7 hX7 hz7
          obtain ⟨k7a, k7b, k7c, k7z⟩ := m1'.out 5 _ _ hX7 rfl
          have hX7' := Lib.hid hX7
          clear hX7 hz7 hX6' hX3' hcl k6a k6b k6c k5a k5b k5c
          refine hK _ _ (fun _ => ⟨k7a, k7b, k7c⟩) ?_
          clear hK K
          try simp only [Act.put]
          try simp only [List.setIfInBounds_toArray]
          refine wpE_one (i := 14) (by kernel_rfl) rfl (fun K hK => ?_)
          go_simp
          refine hK _ _ (fun _ => ⟨k7a, k7b, k7c⟩) ?_
          clear hK K
          try simp only [Act.put]
          try simp only [List.setIfInBounds_toArray]
          refine wpE_one (i := 15) (by kernel_rfl) rfl (fun K hK => ?_)
          go_simp
          refine hK _ _ (fun h => absurd rfl h) ?_
          clear hK K
          try simp only [Act.put]
          try simp only [List.setIfInBounds_toArray]
          refine wpE_done (by kernel_rfl) ?_ _
          have hX8 := hX7'.out.box_stored 5 rfl 1 (.slice (some ⟨g7, 0, none⟩) (i + 1) c7)
          have n8 := hX8.box_cell 1 rfl 0
          have n8z := hX8.box_frozen 1 rfl 0
          simp only [List.getElem?_toArray, List.getElem?_cons_zero] at n8
          have hX8' := Lib.hid hX8
          clear hX8 hX7' k7a k7b k7c k7z hE hEa hEb hEc hEd m1'
          obtain ⟨w8, hw8⟩ : ∃ w8, w7.setCell ⟨b5, 1, none⟩ (.slice (some ⟨g7, 0, none⟩) (i + 1) c7) = w8 := ⟨_, rfl⟩
          rw [hw8]
          rw [hw8] at n8 n8z hX8'
          have hX9 := hX8'.out.box_stored 1 rfl 0 (.int .i64 i)
          have p0 := hX9.box_cell 5 rfl 0
          have p1 := hX9.box_cell 1 rfl 0
          have p2 := hX9.box_cell 1 rfl 1
          simp only [List.getElem?_toArray, List.setIfInBounds_toArray, List.set_cons_zero, List.set_cons_succ, List.getElem?_cons_zero, List.getElem?_cons_succ] at p0 p1 p2
          have hX9' := Lib.hid hX9
          have hX10 := Lib.hid (hX9.alloc (.cells #[.string ⟨p.toArray⟩, .int .i64 i, .int .i64 0] 40))
          clear hX9 hX8' hw8
          go_wp2_with (first
            | (at_builtin; refine wpList_append_sep 3 rfl _ _ 31 rfl 40 k0 _ 3 32 Tryz.underlying31 hknf hk0 hk1 hk2 rfl (by decide) hX10.out (.slice An i cn) i (nodeCells ((l.take i).map (entAt Ns Fs))) rfl rfl ⟨w8.heap.size, 0, none⟩ 1 1 [.string ⟨p.toArray⟩, .int .i64 i, .int .i64 0] rfl rfl (cells_new _ _ _ _ (by simp)) (by simp [Value.oneCell']) (by decide) (by unfold maxLen; omega) (by omega) ?_)
            | fail)
          intro g11 c11 w11 hX11 hz11
          have r0 := hX11.box_cell 5 rfl 0
          have rz := hX11.box_frozen 5 rfl 0
          simp only [List.getElem?_toArray, List.getElem?_cons_zero] at r0
          have hX12 := hX11.box_stored 5 rfl 0 (.slice (some ⟨g11, 0, none⟩) (i + 1) c11)
          have hX12' := Lib.hid hX12
          clear hX12 hX11 hX10 hX9' p0 p1 p2 n8 n8z
          go_wp2_with fail
          go_roundw
          case rel =>
            have hfin : ∃ (i' : Nat) (nv' fv' : Value) (vs' : List Value), i' ≤ l.length ∧ Value.int .i64 ((i : Int) + 1) = .int .i64 i' ∧ vs'.length = i' ∧ Sep w0 (w11.setCell ⟨b5, 0, none⟩ (.slice (some ⟨g11, 0, none⟩) (i + 1) c11)) (L2 Ns Fs l W bn bf bk next Lk R b5 b6 w.heap.size (.slice (some ⟨gl, 0, none⟩) l.length cl) i' nv' fv' vs') := by
              refine ⟨i + 1, .slice (some ⟨g11, 0, none⟩) (i + 1) c11, .slice (some ⟨g7, 0, none⟩) (i + 1) c7, vs ++ [.slice A2 m c2], by omega, by go_num, by rw [List.length_append, hvs'.out]; rfl, ?_⟩
              have hlen : vs.length = ((l.take i).map (entAt Ns Fs)).length := by rw [hvs'.out, List.length_map, List.length_take]; omega
              have hsz : (entAt Ns Fs p).size = m := by rw [hent'.out, hdv'.out]; rfl
              unfold L2
              rw [take_succ_map _ hp'.out, fileCells_snoc hlen, nodeCells_snoc, List.zipWith_append hlen, hent'.out, ← hlen, hvs'.out, ← List.append_assoc, wAs_app, hdv'.out]
              have h1 := hX12'.out
              simp only [← List.map_take] at h1
              have h2 := h1.perm (List.perm_append_singleton _ (_ :: _)).symm
              have h3 := Sep.drop 1 h2
              exact h3
            first
              | exact hfin
              | (repeat apply Exists.intro; exact ⟨hfin, rfl⟩)
          case measure => simp [intOf]; omega
        · obtain rfl : i = l.length := by omega
          have s0 := hS.box_cell 3 rfl 0
          have s1 := hS.box_cell 3 rfl 1
          have t0 := hS.box_cell 5 rfl 0
          have t1 := hS.box_cell 5 rfl 1
          have z0 := hS.box_frozen 5 rfl 0
          have z1 := hS.box_frozen 5 rfl 1
          simp only [List.getElem?_toArray, List.getElem?_cons_zero, List.getElem?_cons_succ] at s0 s1 t0 t1
          obtain ⟨Af, cf, rfl, _⟩ := (hS.rd 0 rfl).shape
          obtain ⟨An, cn, rfl, _⟩ := (hS.rd 1 rfl).shape
          have hS' := Lib.hid hS
          clear hS
          go_wp2_with fail
          have hS2 := (hS'.out.box_stored 5 rfl 0 (.slice An l.length cn)).box_stored 5 rfl 1 (.slice Af l.length cf)
          have e0 := hS2.box_cell 5 rfl 0
          have e1 := hS2.box_cell 5 rfl 1
          refine bodyPost_ret (tree_results1 rfl rfl e0 e1) rfl ?_
          refine ⟨_, _, vs, rfl, ?_⟩
          rw [hl'.out]
          have hlen : vs.length = (l.map (entAt Ns Fs)).length := by rw [hvs, List.length_map]
          refine Sep.keep (X := .sl 42 2 (.slice Af l.length cf) (l.map (entAt Ns Fs)).length (fileCells (l.map (entAt Ns Fs)) vs) :: .sl 40 3 (.slice An l.length cn) (l.map (entAt Ns Fs)).length (nodeCells (l.map (entAt Ns Fs))) :: List.zipWith (fun u (e : Ent) => Asn.keep fun w => DataAt w u e.size) vs (l.map (entAt Ns Fs))) (Y := []) ?_ fun w0' w' h => flat_of hlen h
          rw [List.append_nil]
          have h9 := hS2
          unfold L2 at h9
          rw [List.take_length, wAs_app] at h9
          refine h9.sublist ?_
          rw [List.length_map]
          exact (((((List.sublist_append_right _ _).cons _).cons _).cons _).cons _).cons_cons _ |>.cons_cons _
    · unfold nodesL at hmem
      obtain ⟨nd, hndm, hnde⟩ := List.mem_map.1 hmem
      cases hnde
      have hshort := ht'.out.short nd (hsub.subset hndm)
      have hky : key = strV nd.path := keyed_str.inj hkey (keyOf_strV nd.path (by unfold maxLen; omega))
      subst hky
      rw [nodesL_del] at hS3
      have hS4 := hS3.alloc (.cells #[strV nd.path] 9)
      have hperm2 : Hid ((ps ++ [nd.path] ++ (delN Ms nd.path).map NEnt.path).Perm (Ns.map NEnt.path)) := by
        have h1 := delN_perm (List.Nodup.sublist (hsub.map NEnt.path) hnd'.out) hndm
        have h2 : (ps ++ [nd.path] ++ (delN Ms nd.path).map NEnt.path).Perm (ps ++ Ms.map NEnt.path) := by
          rw [List.append_assoc]
          exact List.Perm.append_left _ h1.symm
        exact Lib.hid (h2.trans hpm.out)
      have hlt : Hid ((delN Ms nd.path).length < Ms.length) := by
        have h1 := (delN_perm (List.Nodup.sublist (hsub.map NEnt.path) hnd'.out) hndm).length_eq
        simp only [List.length_map, List.length_cons] at h1
        exact Lib.hid (by omega)
      have hS4' := Lib.hid hS4
      unfold strV at hS4' hen hnx
      clear hS hS3 hS4 hpm hsz3
      go_wp2_with (first
        | (at_builtin; refine wpList_append_sep 0 rfl _ _ 122 rfl 9 i0 (.string ⟨#[]⟩) 1 16 Tryz.underlying122 hinf hz0 hz1 hz2 rfl (by decide) hS4'.out _ _ _ rfl rfl ⟨w3.heap.size, 0, none⟩ 1 1 [.string ⟨nd.path.toArray⟩] rfl rfl (cell_one_new _ _ _) (by simp [Value.oneCell']) (by decide) (by unfold maxLen; omega) (by omega) ?_)
        | fail)
      intro g c w5 hS5 hz
      have hS6 : Sep w0 w5 (strsR (.slice (some ⟨g, 0, none⟩) (ps.length + 1) c) (ps ++ [nd.path]) :: .box w.heap.size 34 #[.slice none 0 0, .slice none 0 0] :: (wAs W bn bf bk next Ns Fs Lk R).set 1 (grangeR 9 bn (w.heap.size + 1) (nodesL Ns).length (nodesL Ns) (nodesL (delN Ms nd.path)))) := by
        unfold strsR
        rw [List.map_append, List.length_append]
        exact hS5
      have hS6' := Lib.hid hS6
      clear hS4' hS5 hS6 hz
      go_wp2_with fail
      go_roundg ((delN Ms nd.path).length)
      case rel => exact ⟨delN Ms nd.path, _, rfl, List.filter_sublist.trans hsub, hperm2, hS6'.out⟩
      case measure =>
        have h1 := hlt.out
        have h2 : _ = Ms.length := hg.out
        omega
end Go.Proofs.YtahkpkaodeeemaaGreat
