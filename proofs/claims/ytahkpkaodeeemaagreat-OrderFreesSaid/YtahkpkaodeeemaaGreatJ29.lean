/- ModelStep, ModelStep2, ModelDo2, laid together. -/
import Derived.Test.YtahkpkaodeeemaaGreatJ28
namespace Go.Proofs.YtahkpkaodeeemaaGreat
open Go.RowKit
set_option linter.unusedVariables false

/-- What a world tells. -/
def TellSet (Ns : List NEnt) (Fs : List FEnt) (e : Ent) : Prop := ∃ n ∈ Ns, ∃ f ∈ Fs, f.id = n.id ∧ e = ⟨n.path, f.mode, dvLen f.dv⟩
def sumB : List Ent → Int
  | [] => 0
  | e :: es => fileB e.size + sumB es
/-- A world and what is told of it. -/
structure GoodW (w : World) (Ns : List NEnt) (Fs : List FEnt) (Lk : List (Lit × Value)) (S : Ent → Prop) (B I : Int) : Prop where
  ok : TellOk w Ns Fs
  paths : (Ns.map NEnt.path).Nodup
  ids : Fs.Pairwise fun a b => a.id ≠ b.id
  dv : DvOk Fs
  len : (Fs.length : Int) = I
  wt : wB Fs = B
  kids : ∃ k : Nat, k ≤ 16 ∧ (getM Lk (.string [])).getD (.int .i64 0) = .int .i64 k
  set : ∀ e, TellSet Ns Fs e ↔ S e
  few : Ns.length ≤ 100
theorem ids_unique {Fs : List FEnt} (h : Fs.Pairwise fun a b => a.id ≠ b.id) {f g : FEnt} (hf : f ∈ Fs) (hg : g ∈ Fs) (e : f.id = g.id) : f = g := by
  obtain ⟨i, hi⟩ := List.mem_iff_getElem?.1 hf
  obtain ⟨j, hj⟩ := List.mem_iff_getElem?.1 hg
  obtain ⟨h1, rfl⟩ := List.getElem?_eq_some_iff.1 hi
  obtain ⟨h2, rfl⟩ := List.getElem?_eq_some_iff.1 hj
  rcases Nat.lt_trichotomy i j with hlt | rfl | hlt
  · exact absurd e (List.pairwise_iff_getElem.1 h i j h1 h2 hlt)
  · rfl
  · exact absurd e.symm (List.pairwise_iff_getElem.1 h j i h2 h1 hlt)
theorem paths_unique {Ns : List NEnt} (h : (Ns.map NEnt.path).Nodup) {m n : NEnt} (hm : m ∈ Ns) (hn : n ∈ Ns) (e : m.path = n.path) : m = n := by
  obtain ⟨i, hi⟩ := List.mem_iff_getElem?.1 hm
  obtain ⟨j, hj⟩ := List.mem_iff_getElem?.1 hn
  obtain ⟨h1, rfl⟩ := List.getElem?_eq_some_iff.1 hi
  obtain ⟨h2, rfl⟩ := List.getElem?_eq_some_iff.1 hj
  rw [List.nodup_iff_pairwise_ne, List.pairwise_map] at h
  rcases Nat.lt_trichotomy i j with hlt | rfl | hlt
  · exact absurd e (List.pairwise_iff_getElem.1 h i j h1 h2 hlt)
  · rfl
  · exact absurd e.symm (List.pairwise_iff_getElem.1 h j i h2 h1 hlt)
theorem ent_of {w : World} {Ns : List NEnt} {Fs : List FEnt} (ht : TellOk w Ns Fs) (hp : (Ns.map NEnt.path).Nodup) (hi : Fs.Pairwise fun a b => a.id ≠ b.id) {n : NEnt} (hn : n ∈ Ns) {f : FEnt} (hf : f ∈ Fs) (e : f.id = n.id) : entAt Ns Fs n.path = ⟨n.path, f.mode, dvLen f.dv⟩ := by
  obtain ⟨m, hm, hmp, hmi, _⟩ := idAt_of (List.mem_map_of_mem (f := NEnt.path) hn)
  have h1 := paths_unique hp hm hn hmp
  subst h1
  obtain ⟨h2, h3⟩ := fAt_of (Fs := Fs) (id := idAt Ns m.path) ⟨f, hf, by rw [e, hmi]⟩
  have h4 := ids_unique hi h2 hf (by rw [h3, e, hmi])
  unfold entAt
  rw [h4]
theorem tell_mem {w : World} {Ns : List NEnt} {Fs : List FEnt} (ht : TellOk w Ns Fs) (hp : (Ns.map NEnt.path).Nodup) (hi : Fs.Pairwise fun a b => a.id ≠ b.id) (e : Ent) : e ∈ (sortS (Ns.map NEnt.path)).map (entAt Ns Fs) ↔ TellSet Ns Fs e := by
  rw [List.mem_map]
  constructor
  · rintro ⟨p, hm, rfl⟩
    rw [(sortS_perm _).mem_iff] at hm
    obtain ⟨n, hn, rfl⟩ := List.mem_map.1 hm
    obtain ⟨f, hf, hfi⟩ := ht.each n hn
    exact ⟨n, hn, f, hf, hfi, ent_of ht hp hi hn hf hfi⟩
  · rintro ⟨n, hn, f, hf, hfi, rfl⟩
    exact ⟨n.path, (sortS_perm _).mem_iff.2 (List.mem_map_of_mem hn), ent_of ht hp hi hn hf hfi⟩
theorem tell_flat {w : World} {Ns : List NEnt} {Fs : List FEnt} {Lk : List (Lit × Value)} {S : Ent → Prop} {B I : Int} (h : GoodW w Ns Fs Lk S B I) (hS : ∀ e, S e → RootName e.path ∧ (0 ≤ e.mode ∧ e.mode ≤ 511) ∧ e.size ≤ 8192) :
    FlatOk ((sortS (Ns.map NEnt.path)).map (entAt Ns Fs)) ∧ ∀ e, e ∈ (sortS (Ns.map NEnt.path)).map (entAt Ns Fs) ↔ S e := by
  have hm : ∀ e, e ∈ (sortS (Ns.map NEnt.path)).map (entAt Ns Fs) ↔ S e := fun e => (tell_mem h.ok h.paths h.ids e).trans (h.set e)
  refine ⟨⟨by rw [List.length_map, (sortS_perm _).length_eq, List.length_map]; exact h.few, fun e he => (hS e ((hm e).1 he)).1, fun e he => (hS e ((hm e).1 he)).2.1, fun e he => (hS e ((hm e).1 he)).2.2, ?_⟩, hm⟩
  rw [List.pairwise_map]
  exact sortS_less h.paths

/-! The world as it is opened. -/
theorem nsOf_full {es : List Ent} : (nsOf es es.length).map NEnt.path = es.map Ent.path := by
  unfold nsOf
  rw [List.take_of_length_le (by rw [List.length_zipIdx]; exact Nat.le_refl _), List.map_map]
  have : (NEnt.path ∘ fun (x : Ent × Nat) => (⟨x.1.path, x.2⟩ : NEnt)) = Ent.path ∘ Prod.fst := rfl
  rw [this, ← List.map_map, List.zipIdx_map_fst]
theorem nsOf_mem {es : List Ent} {k : Nat} {e : Ent} (h : es[k]? = some e) : (⟨e.path, k⟩ : NEnt) ∈ nsOf es es.length := by
  unfold nsOf
  rw [List.take_of_length_le (by rw [List.length_zipIdx]; exact Nat.le_refl _)]
  refine List.mem_map.2 ⟨(e, k), ?_, rfl⟩
  rw [List.mem_iff_getElem?]
  exact ⟨k, by rw [List.getElem?_zipIdx, h]; simp⟩
theorem paths_up {es : List Ent} (ho : FlatOk es) : (es.map Ent.path).Nodup := by
  rw [List.nodup_iff_pairwise_ne, List.pairwise_map]
  refine ho.up.imp fun {a b} h e => ?_
  rw [e, bl_irrefl] at h
  cases h
theorem sumB_wB {es : List Ent} {Fs : List FEnt} (h : Fs.length = es.length) (hs : ∀ (k : Nat) f e, Fs[k]? = some f → es[k]? = some e → dvLen f.dv = e.size) : wB Fs = sumB es := by
  induction es generalizing Fs with
  | nil =>
    have : Fs = [] := List.eq_nil_of_length_eq_zero h
    subst this
    rfl
  | cons e es ih =>
    cases Fs with
    | nil => simp at h
    | cons f Fs =>
      have h1 := hs 0 f e rfl rfl
      have h2 := ih (by simpa using h) fun k f e hf he => hs (k + 1) f e hf he
      unfold wB sumB
      rw [h1, h2]
theorem good_open {w : World} {nv fv : Value} {es : List Ent} {vs : List Value} (h : FlatAt w nv fv es vs) (ho : FlatOk es) (h16 : es.length ≤ 16) {Fs : List FEnt} (hf : FsOk es vs es.length es.length Fs) : GoodW w (nsOf es es.length) Fs (lkOf es.length) (fun e => e ∈ es) (sumB es) es.length := by
  have hd : ∀ (k : Nat) f, Fs[k]? = some f → ∃ e A c, es[k]? = some e ∧ f.id = k ∧ f.mode = e.mode ∧ f.dv = .slice A e.size c ∧ e.size ≤ 8192 ∧ DataAt w f.dv e.size := fun k f hk => by
    obtain ⟨e, u, he, hu, h1, h2, h3, _⟩ := hf.at_ k f hk
    obtain ⟨A, c, rfl, _⟩ := (h.data k u e hu he).shape
    exact ⟨e, A, c, he, h1, h2, h3, ho.size e (List.mem_of_getElem? he), by rw [h3]; exact h.data k _ e hu he⟩
  have hids : Fs.Pairwise fun a b => a.id ≠ b.id := by
    rw [List.pairwise_iff_getElem]
    intro i j hi hj hij e
    obtain ⟨_, _, _, _, h1, _⟩ := hd i _ (List.getElem?_eq_getElem hi)
    obtain ⟨_, _, _, _, h2, _⟩ := hd j _ (List.getElem?_eq_getElem hj)
    omega
  have hat : ∀ n ∈ nsOf es es.length, ∃ e f, es[n.id]? = some e ∧ Fs[n.id]? = some f ∧ n.path = e.path := fun n hn => by
    obtain ⟨k, e, hk, he, rfl⟩ := nsOf_path hn
    exact ⟨e, _, he, List.getElem?_eq_getElem (by rw [hf.len]; exact hk), rfl⟩
  refine ⟨⟨by rw [nsOf_len (Nat.le_refl _)]; omega, fun n hn => ?_, fun n hn => ?_, fun a ha b hb e => ?_, fun f hfm => ?_, fun f hfm => ?_⟩, by rw [nsOf_full]; exact paths_up ho, hids, fun f hfm => ?_, by rw [hf.len], sumB_wB hf.len fun k f e hk he => ?_, ⟨es.length, h16, lkOf_get _⟩, fun e => ⟨?_, fun he => ?_⟩, by rw [nsOf_len (Nat.le_refl _)]; omega⟩
  · obtain ⟨e, f, he, _, hp⟩ := hat n hn
    rw [hp]
    exact (ho.name e (List.mem_of_getElem? he)).short
  · obtain ⟨e, f, he, hfk, hp⟩ := hat n hn
    obtain ⟨_, _, _, _, h1, _⟩ := hd _ f hfk
    exact ⟨f, List.mem_of_getElem? hfk, h1⟩
  · obtain ⟨e1, f1, he1, _, hp1⟩ := hat a ha
    obtain ⟨e2, f2, he2, _, hp2⟩ := hat b hb
    rw [e, he2] at he1
    cases he1
    rw [hp1, hp2]
  · obtain ⟨k, hk⟩ := List.mem_iff_getElem?.1 hfm
    obtain ⟨e, _, _, he, h1, _⟩ := hd k f hk
    have := (List.getElem?_eq_some_iff.1 he).1
    omega
  · obtain ⟨k, hk⟩ := List.mem_iff_getElem?.1 hfm
    obtain ⟨e, A, c, he, h1, h2, h3, h4, h5⟩ := hd k f hk
    exact ⟨A, e.size, c, h3, h4, h5⟩
  · obtain ⟨k, hk⟩ := List.mem_iff_getElem?.1 hfm
    obtain ⟨e, A, c, he, h1, h2, h3, h4, h5⟩ := hd k f hk
    exact ⟨A, e.size, c, h3, h4⟩
  · obtain ⟨e', A, c, he', h1, h2, h3, h4, h5⟩ := hd k f hk
    rw [he] at he'
    cases he'
    rw [h3]
    rfl
  · rintro ⟨n, hn, f, hfm, hfi, rfl⟩
    obtain ⟨e, g, he, hg, hp⟩ := hat n hn
    obtain ⟨e', A, c, he', h1, h2, h3, h4, h5⟩ := hd _ g hg
    have := ids_unique hids hfm (List.mem_of_getElem? hg) (by rw [hfi, h1])
    subst this
    rw [he] at he'
    cases he'
    rw [hp, h2, h3]
    exact List.mem_of_getElem? he
  · obtain ⟨k, hk⟩ := List.mem_iff_getElem?.1 he
    have hlt := (List.getElem?_eq_some_iff.1 hk).1
    have hg : Fs[k]? = some (Fs[k]'(by rw [hf.len]; exact hlt)) := List.getElem?_eq_getElem _
    obtain ⟨e', A, c, he', h1, h2, h3, h4, h5⟩ := hd k _ hg
    rw [hk] at he'
    cases he'
    exact ⟨⟨e.path, k⟩, nsOf_mem hk, _, List.mem_of_getElem? hg, h1, by rw [h2, h3]; rfl⟩
end Go.Proofs.YtahkpkaodeeemaaGreat

namespace Go.Proofs.YtahkpkaodeeemaaGreat
open Go.RowKit
set_option linter.unusedVariables false

theorem key_root : WideAt.IsKeyLit (.string []) := keyed_str.key (keyOf_strV [] (by simp))
theorem getM_root (Lk : List (Lit × Value)) (v : Value) : getM (putM Lk (.string []) v) (.string []) = some v := by
  rw [getM_put key_root v _ key_root, if_pos (key_same key_root)]
theorem nodeHas_iff {Ns : List NEnt} {p : List UInt8} : nodeHas Ns p = true ↔ p ∈ Ns.map NEnt.path := by
  unfold nodeHas getM nodesL
  rw [Option.isSome_map, List.find?_isSome, List.mem_map]
  constructor
  · rintro ⟨x, hx, h⟩
    obtain ⟨n, hn, rfl⟩ := List.mem_map.1 hx
    exact ⟨n, hn, by have h2 := WideAt.sameKey_eq h; simpa using h2⟩
  · rintro ⟨n, hn, rfl⟩
    exact ⟨_, List.mem_map_of_mem hn, by simp [Lit.sameKey]⟩
section
variable {w : World} {Ns : List NEnt} {Fs : List FEnt} {Lk : List (Lit × Value)} {S : Ent → Prop} {B I : Int}
theorem good_del (h : GoodW w Ns Fs Lk S B I) {n : NEnt} (hn : n ∈ Ns) {f : FEnt} (hf : f ∈ Fs) (e : f.id = n.id) {k : Nat} (hk : k ≤ 16) : GoodW w (delN Ns n.path) (delF Fs f.id) (putM Lk (.string []) (.int .i64 k)) (fun e => S e ∧ e.path ≠ n.path) (B - fileB (dvLen f.dv)) (I - 1) := by
  have hsN : (delN Ns n.path).Sublist Ns := List.filter_sublist
  have hsF : (delF Fs f.id).Sublist Fs := List.filter_sublist
  have mN : ∀ m, m ∈ delN Ns n.path ↔ m ∈ Ns ∧ m.path ≠ n.path := fun m => by unfold delN; rw [List.mem_filter]; simp
  have mF : ∀ g, g ∈ delF Fs f.id ↔ g ∈ Fs ∧ g.id ≠ f.id := fun g => by unfold delF; rw [List.mem_filter]; simp
  obtain ⟨o1, o2⟩ := wB_out h.ids hf
  refine ⟨⟨Nat.le_trans hsN.length_le h.ok.few, fun m hm => h.ok.short m (hsN.subset hm), fun m hm => ?_, fun a ha b hb => h.ok.inj a (hsN.subset ha) b (hsN.subset hb), fun g hg => h.ok.ids g (hsF.subset hg), fun g hg => h.ok.data g (hsF.subset hg)⟩, h.paths.sublist (hsN.map _), h.ids.sublist hsF, fun g hg => h.dv g (hsF.subset hg), ?_, ?_, ⟨k, hk, by rw [getM_root]; rfl⟩, fun x => ⟨?_, ?_⟩, Nat.le_trans hsN.length_le h.few⟩
  · obtain ⟨h1, h2⟩ := (mN m).1 hm
    obtain ⟨g, hg, hgi⟩ := h.ok.each m h1
    exact ⟨g, (mF g).2 ⟨hg, fun e2 => h2 (h.ok.inj m h1 n hn (by omega))⟩, hgi⟩
  · have := h.len
    unfold delF
    omega
  · have := h.wt
    unfold delF
    omega
  · rintro ⟨m, hm, g, hg, hgi, rfl⟩
    exact ⟨(h.set _).1 ⟨m, hsN.subset hm, g, hsF.subset hg, hgi, rfl⟩, ((mN m).1 hm).2⟩
  · rintro ⟨h1, h2⟩
    obtain ⟨m, hm, g, hg, hgi, rfl⟩ := (h.set _).2 h1
    exact ⟨m, (mN m).2 ⟨hm, h2⟩, g, (mF g).2 ⟨hg, fun e2 => h2 (h.ok.inj m hm n hn (by omega))⟩, hgi, rfl⟩
theorem good_put (h : GoodW w Ns Fs Lk S B I) {p : List UInt8} (hp : p ∉ Ns.map NEnt.path) (hps : p.length ≤ 100) {next ptr : Nat} (hx : next ≤ 10000) (hfr : ∀ g ∈ Fs, g.id ≠ next) {mode : Int} {A : Option Addr} {m c : Nat} (hm : m ≤ 8192) (hd : DataAt w (.slice A m c) m) (hl : Ns.length < 100) {k : Nat} (hk : k ≤ 16) :
    GoodW w (putN Ns p next) (Fs ++ [⟨next, ptr, mode, 1, .slice A m c⟩]) (putM Lk (.string []) (.int .i64 k)) (fun e => S e ∨ e = ⟨p, mode, m⟩) (B + fileB m) (I + 1) := by
  have eN : putN Ns p next = Ns ++ [⟨p, next⟩] := by
    unfold putN
    rw [List.filter_eq_self.2]
    intro n hn
    have : n.path ≠ p := fun e => hp (e ▸ List.mem_map_of_mem hn)
    simpa using this
  have hne : ∀ n ∈ Ns, n.id ≠ next := fun n hn e => by
    obtain ⟨f, hf, hfi⟩ := h.ok.each n hn
    exact hfr f hf (by omega)
  have mN : ∀ n, n ∈ Ns ++ [(⟨p, next⟩ : NEnt)] ↔ n ∈ Ns ∨ n = ⟨p, next⟩ := fun n => by rw [List.mem_append, List.mem_singleton]
  have mF : ∀ g, g ∈ Fs ++ [(⟨next, ptr, mode, 1, .slice A m c⟩ : FEnt)] ↔ g ∈ Fs ∨ g = ⟨next, ptr, mode, 1, .slice A m c⟩ := fun n => by rw [List.mem_append, List.mem_singleton]
  have hwB : ∀ (Gs : List FEnt) (f : FEnt), wB (Gs ++ [f]) = wB Gs + fileB (dvLen f.dv) := by
    intro Gs f
    induction Gs with
    | nil => simp [wB]
    | cons g Gs ih =>
      rw [List.cons_append]
      unfold wB
      rw [ih]
      omega
  rw [eN]
  refine ⟨⟨by rw [List.length_append, List.length_singleton]; omega, fun n hn => ?_, fun n hn => ?_, fun a ha b hb e => ?_, fun g hg => ?_, fun g hg => ?_⟩, ?_, ?_, fun g hg => ?_, ?_, ?_, ⟨k, hk, by rw [getM_root]; rfl⟩, fun x => ⟨?_, ?_⟩, by rw [List.length_append, List.length_singleton]; omega⟩
  · rcases (mN n).1 hn with h1 | rfl
    · exact h.ok.short n h1
    · exact hps
  · rcases (mN n).1 hn with h1 | rfl
    · obtain ⟨f, hf, hfi⟩ := h.ok.each n h1
      exact ⟨f, (mF f).2 (.inl hf), hfi⟩
    · exact ⟨_, (mF _).2 (.inr rfl), rfl⟩
  · rcases (mN a).1 ha with h1 | rfl
    · rcases (mN b).1 hb with h2 | rfl
      · exact h.ok.inj a h1 b h2 e
      · exact absurd e (hne a h1)
    · rcases (mN b).1 hb with h2 | rfl
      · exact absurd e.symm (hne b h2)
      · rfl
  · rcases (mF g).1 hg with h1 | rfl
    · exact h.ok.ids g h1
    · exact hx
  · rcases (mF g).1 hg with h1 | rfl
    · exact h.ok.data g h1
    · exact ⟨A, m, c, rfl, hm, hd⟩
  · rw [List.map_append, List.nodup_append]
    refine ⟨h.paths, by simp, fun a ha b hb e => ?_⟩
    rw [List.map_singleton, List.mem_singleton] at hb
    subst hb e
    exact hp ha
  · refine List.pairwise_append.2 ⟨h.ids, by simp, fun a ha b hb => ?_⟩
    rw [List.mem_singleton] at hb
    subst hb
    exact hfr a ha
  · rcases (mF g).1 hg with h1 | rfl
    · exact h.dv g h1
    · exact ⟨A, m, c, rfl, hm⟩
  · have := h.len
    rw [List.length_append, List.length_singleton]
    omega
  · rw [hwB, h.wt]
    rfl
  · rintro ⟨n, hn, g, hg, hgi, rfl⟩
    rcases (mN n).1 hn with h1 | rfl
    · rcases (mF g).1 hg with h2 | rfl
      · exact .inl ((h.set _).1 ⟨n, h1, g, h2, hgi, rfl⟩)
      · exact absurd hgi.symm (hne n h1)
    · rcases (mF g).1 hg with h2 | rfl
      · exact absurd hgi (hfr g h2)
      · exact .inr rfl
  · rintro (h1 | rfl)
    · obtain ⟨n, hn, g, hg, hgi, rfl⟩ := (h.set _).2 h1
      exact ⟨n, (mN n).2 (.inl hn), g, (mF g).2 (.inl hg), hgi, rfl⟩
    · exact ⟨⟨p, next⟩, (mN _).2 (.inr rfl), _, (mF _).2 (.inr rfl), rfl, rfl⟩
end

/-! One instruction: what it does to a flat tree. -/
inductive Eff (w : World) (es : List Ent) (sv : Value) : Int → List UInt8 → Int → Int → (Ent → Prop) → Int → Int → Prop
  | unlink {e : Ent} {mode ref : Int} (he : e ∈ es) : Eff w es sv 5 e.path mode ref (fun x => x ∈ es ∧ x.path ≠ e.path) (-fileB e.size) (-1)
  | write {p : List UInt8} {mode ref : Nat} {cs : List Value} {A : Option Addr} {m c : Nat} (hp : p ∉ es.map Ent.path) (hm : mode ≤ 511) (hs : Rd w 1 sv cs.length cs) (hr : cs[ref]? = some (.slice A m c)) (hmm : m ≤ 8192) (hd : DataAt w (.slice A m c) m) :
      Eff w es sv 6 p mode ref (fun x => x ∈ es ∨ x = ⟨p, mode, m⟩) (fileB m) 1
theorem do_step {w w1 : World} {nv fv : Value} {es : List Ent} {vs : List Value} (h : FlatAt w nv fv es vs) (ho : FlatOk es) (h15 : es.length ≤ 15) {W bn bf bk : Nat} {Fs : List FEnt} (hf : FsOk es vs es.length es.length Fs) {R : List Asn} (hS : Sep w w1 (wAs W bn bf bk es.length (nsOf es es.length) Fs (lkOf es.length) R))
    {sv : Value} {op mode ref : Int} {p to : List UInt8} {S : Ent → Prop} {dB dI : Int} (hE : Eff w es sv op p mode ref S dB dI) (hp : RootName p) (ha : Ascii p) :
    Calls Tryz.prog 40 #[.pointer (some ⟨W, 0, none⟩), insV op p to mode ref, sv] w1 fun e w' => e = .returned (.int .i64 0) ∧ ∃ next Ns Fs' Lk, Sep w w' (wAs W bn bf bk next Ns Fs' Lk R) ∧ GoodW w Ns Fs' Lk S (sumB es + dB) (es.length + dI) := by
  have hg := good_open h ho (by omega) hf
  have hkl : (lkOf es.length).length ≤ 10000 := by unfold lkOf; split <;> simp
  have hnl := nsOf_len (es := es) (Nat.le_refl _)
  cases hE with
  | @unlink e mode ref he =>
    obtain ⟨k, hk⟩ := List.mem_iff_getElem?.1 he
    have hlt := (List.getElem?_eq_some_iff.1 hk).1
    obtain ⟨f, hfk⟩ : ∃ f, Fs[k]? = some f := ⟨_, List.getElem?_eq_getElem (by rw [hf.len]; exact hlt)⟩
    obtain ⟨e2, u, he2, hu, f1, f2, f3, f4⟩ := hf.at_ k f hfk
    rw [hk] at he2
    cases he2
    rw [if_pos hlt] at f4
    have hnm := nsOf_mem hk
    have hpm : e.path ∈ (nsOf es es.length).map NEnt.path := List.mem_map_of_mem hnm
    obtain ⟨n, hn, hnp, hni, hna⟩ := idAt_of hpm
    have hnn := paths_unique hg.paths hn hnm hnp
    subst hnn
    rw [← hni, show ((⟨e.path, k⟩ : NEnt).id) = k from rfl, ← f1] at hna
    have hsz : dvLen f.dv = e.size := by
      obtain ⟨A, c, rfl, _⟩ := (h.data k u e hu hk).shape
      rw [f3]
      rfl
    refine (do_unlink hS sv hp ha hfk (by omega) (by simpa using f4) hna (nodeHas_iff.2 hpm) (lkOf_get _) (by omega) (by omega) (by omega) hkl).mono ?_
    rintro e3 w3 ⟨rfl, hS3⟩
    refine ⟨rfl, _, _, _, _, hS3, ?_⟩
    have h9 := good_del hg hn (List.mem_of_getElem? hfk) f1 (k := es.length - 1) (by omega)
    rw [hsz, show ((es.length - 1 : Nat) : Int) = (es.length : Int) - 1 by omega] at h9
    exact h9
  | @write p mode ref cs A m c hpn hm hs hr hmm hd =>
    have hpn2 : p ∉ (nsOf es es.length).map NEnt.path := by rw [nsOf_full]; exact hpn
    have hhas : nodeHas (nsOf es es.length) p = false := by
      cases hh : nodeHas (nsOf es es.length) p with
      | false => rfl
      | true => exact absurd (nodeHas_iff.1 hh) hpn2
    have hfr : ∀ g ∈ Fs, g.id ≠ es.length := fun g hg2 => by
      obtain ⟨k, hk⟩ := List.mem_iff_getElem?.1 hg2
      obtain ⟨_, _, _, _, f1, _⟩ := hf.at_ k g hk
      have := (List.getElem?_eq_some_iff.1 hk).1
      rw [hf.len] at this
      omega
    refine (do_write hS hm hs hr hmm hp ha hhas (by omega) hfr (by rw [hf.len]; omega) (lkOf_get _) (by omega) (by omega) hkl).mono ?_
    rintro e3 w3 ⟨rfl, ptr, hS3⟩
    refine ⟨rfl, _, _, _, _, hS3, ?_⟩
    have h9 := good_put hg hpn2 hp.short (next := es.length) (ptr := ptr) (mode := mode) (by omega) hfr hmm hd (by omega) (k := es.length + 1) (by omega)
    exact h9
end Go.Proofs.YtahkpkaodeeemaaGreat

namespace Go.Proofs.YtahkpkaodeeemaaGreat
open Go.RowKit
set_option linter.unusedVariables false

theorem Eff.below {w w' : World} {es : List Ent} {sv : Value} {op : Int} {p : List UInt8} {mode ref : Int} {S : Ent → Prop} {dB dI : Int} (h : Eff w es sv op p mode ref S dB dI) (hb : Below w.heap.size w w') : Eff w' es sv op p mode ref S dB dI := by
  cases h with
  | unlink he => exact .unlink he
  | write hp hm hs hr hmm hd => exact .write hp hm (hs.below hb) hr hmm (hd.below hb)
set_option maxRecDepth 100000 in
theorem Do_any {w : World} {nv fv : Value} {es : List Ent} {vs : List Value} (h : FlatAt w nv fv es vs) (ho : FlatOk es) (h15 : es.length ≤ 15) {sv : Value} {op mode ref : Int} {p to : List UInt8} {S : Ent → Prop} {dB dI : Int} (hE : Eff w es sv op p mode ref S dB dI) (hp : RootName p) (ha : Ascii p) (hS : ∀ e, S e → RootName e.path ∧ (0 ≤ e.mode ∧ e.mode ≤ 511) ∧ e.size ≤ 8192) :
    Calls Tryz.prog 21 #[.agg #[nv, fv], insV op p to mode ref, sv] w fun e w' => ∃ nv' fv' es' vs', e = .returned (.tuple #[.agg #[nv', fv'], .int .i64 0]) ∧ FlatOk es' ∧ (∀ e, e ∈ es' ↔ S e) ∧ Sep w w' [.keep fun W => FlatAt W nv' fv' es' vs'] := by
  have hS0 := (((Sep.nil w).box_new 34 #[nv, fv]).box_new 26 (insC op p to mode ref)).box_new 34 #[.slice none 0 0, .slice none 0 0]
  simp only [World.size_alloc] at hS0
  have hc := h.below hS0.below
  have hop := Lib.hid (open_flat hc ho)
  have hEc := hE.below hS0.below
  have hst : Hid (∀ {w1 : World} {W bn bf bk : Nat} {Fs : List FEnt}, FsOk es vs es.length es.length Fs → Sep _ w1 (wAs W bn bf bk es.length (nsOf es es.length) Fs (lkOf es.length) []) → _) := fun {w1 W bn bf bk Fs} hf hs => do_step (to := to) hc ho h15 hf hs hEc hp ha
  obtain ⟨A1, c1, rfl, hm1⟩ := h.nodes.shape
  obtain ⟨A2, c2, rfl, hm2⟩ := h.files.shape
  have hS0' := Lib.hid hS0
  have hSp := Lib.hid hS
  unfold insC insV strV at *
  clear hS0 h hE hc hEc hS
  go_enter Tryz.func21, Tryz.ntmps21
  go_wp2_with (first
    | (go_at_call 39; refine hop.out.mono ?_; rintro e w1 ⟨W, bn, bf, bk, Fs, rfl, hfs, hs1⟩; (have hd := (hS0'.out.join hs1).snd); (have d0 := hd.box_cell 1 rfl 0); (have d1 := hd.box_cell 1 rfl 1); (have d2 := hd.box_cell 1 rfl 2); (have d3 := hd.box_cell 1 rfl 3); (have d4 := hd.box_cell 1 rfl 4); simp only [List.getElem?_toArray, List.getElem?_cons_zero, List.getElem?_cons_succ] at d0 d1 d2 d3 d4; (have hdo := Lib.hid (hst.out hfs hs1)); clear hs1 hop hd)
    | (go_at_call 40; refine hdo.out.mono ?_; rintro e w2 ⟨rfl, next, Ns, Fs2, Lk, hs2, hg⟩; (have htl := Lib.hid (tell_any hs2 hg.ok)); (have hfl := Lib.hid (tell_flat hg hSp.out)); clear hs2 hg hdo)
    | (go_at_call 41; refine htl.out.mono ?_; rintro e w3 ⟨nv', fv', vs', rfl, hs3⟩; (have hs4 := hS0'.out.join hs3); (have hfa := hs4.kept 0 rfl); obtain ⟨A3, c3, rfl, _⟩ := hfa.nodes.shape; obtain ⟨A4, c4, rfl, _⟩ := hfa.files.shape; (have r0 := hs4.box_cell 1 rfl 0); (have r1 := hs4.box_cell 1 rfl 1); (have z0 := hs4.box_frozen 1 rfl 0); (have z1 := hs4.box_frozen 1 rfl 1); simp only [List.getElem?_toArray, List.getElem?_cons_zero, List.getElem?_cons_succ] at r0 r1; replace hs4 := Lib.hid hs4; clear hs3 hfa htl)
    | fail)
  have hS4 := (hs4.out.box_stored 1 rfl 0 (.slice A3 (sortS (Ns.map NEnt.path)).length c3)).box_stored 1 rfl 1 (.slice A4 (sortS (Ns.map NEnt.path)).length c4)
  have y0 := hS4.box_cell 1 rfl 0
  have y1 := hS4.box_cell 1 rfl 1
  refine bodyPost_ret (tree_results2 rfl rfl y0 y1) rfl ?_
  have h5 := Sep.fst (X := [_]) hS4
  simp only [List.length_map] at h5
  exact ⟨_, _, _, vs', rfl, hfl.out.1, hfl.out.2, h5⟩
end Go.Proofs.YtahkpkaodeeemaaGreat
