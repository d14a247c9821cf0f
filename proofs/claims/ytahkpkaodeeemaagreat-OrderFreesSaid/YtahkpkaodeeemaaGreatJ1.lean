/- Mem, Post, laid together. -/
import Derived.WalkKit
import Derived.WalkSpells
import Derived.WalkLawsBesides
import Derived.Deep.DeepFit
import Derived.Deep.Draws
import Derived.Deep.AppendLies
import Derived.Lib.Hide
import Derived.Deep.QuietTactic
import Derived.BigQuiet
import Derived.StillTailTactics
import Derived.Test.YtahkpkaodeeemaaGreatRows
import Derived.ProofKit
import Derived.OpenShut
import Derived.Below
import Derived.ChangeSame
import Derived.WideKeyArgs
import Derived.Deep.Matrix
namespace Go.Proofs.YtahkpkaodeeemaaGreat
open Go.RowKit

theorem block_of_add (a : Addr) (n : Nat) : (a.add n).block = a.block := by unfold Addr.add; split <;> rfl
theorem add_of_add (a : Addr) (i j : Nat) : (a.add i).add j = a.add (i + j) := by
  unfold Addr.add
  by_cases hi : i = 0 <;> by_cases hj : j = 0 <;> simp [hi, hj, Nat.add_assoc]

/-- A slice value that reads as the cells cs (n elements of sz cells). -/
def Rd (w : World) (sz : Nat) (v : Value) (n : Nat) (cs : List Value) : Prop :=
  cs.length = n * sz ∧ ∃ A c, v = .slice A n c ∧ n ≤ c ∧ c ≤ maxLen ∧
    (0 < n → ∃ ad, A = some ad ∧ ad.block < w.heap.size ∧ ∀ j u, cs[j]? = some u → w.cell? (ad.add j) = some u)

/-- A []int. -/
def IntsAt (w : World) (v : Value) (xs : List Int) : Prop := Rd w 1 v xs.length (xs.map (.int .i64))
/-- A []bool. -/
def BoolsAt (w : World) (v : Value) (xs : List Bool) : Prop := Rd w 1 v xs.length (xs.map .bool)

/-- A slice of one-cell elements that are slices again. -/
def ListAt {α : Type} (One : World → Value → α → Prop) (w : World) (v : Value) (xss : List α) : Prop :=
  ∃ vs, Rd w 1 v xss.length vs ∧ ∀ (k : Nat) u xs, vs[k]? = some u → xss[k]? = some xs → One w u xs
/-- A [][]int. -/
def RowsAt (w : World) (v : Value) (xss : List (List Int)) : Prop := ListAt IntsAt w v xss
/-- A [][]bool. -/
def BoolRowsAt (w : World) (v : Value) (xss : List (List Bool)) : Prop := ListAt BoolsAt w v xss

section
variable {w w' : World} {sz n : Nat} {v : Value} {cs : List Value}
theorem Rd.shape (h : Rd w sz v n cs) : ∃ A c, v = .slice A n c ∧ n ≤ maxLen := by
  obtain ⟨_, A, c, rfl, h1, h2, _⟩ := h
  exact ⟨A, c, rfl, Nat.le_trans h1 h2⟩
theorem Rd.at_ {k : Nat} (h : Rd w 1 v n cs) (hk : k < n) : ∃ ad c u, v = .slice (some ad) n c ∧ cs[k]? = some u ∧ w.cell? (ad.add k) = some u := by
  obtain ⟨hl, A, c, rfl, h1, h2, h3⟩ := h
  obtain ⟨ad, rfl, hb, hc⟩ := h3 (by omega)
  have hk' : k < cs.length := by omega
  exact ⟨ad, c, cs[k], rfl, List.getElem?_eq_getElem hk', hc k _ (List.getElem?_eq_getElem hk')⟩
theorem Rd.below (h : Rd w sz v n cs) (hk : Below w.heap.size w w') : Rd w' sz v n cs := by
  obtain ⟨hl, A, c, rfl, h1, h2, h3⟩ := h
  refine ⟨hl, A, c, rfl, h1, h2, fun hn => ?_⟩
  obtain ⟨ad, rfl, hb, hc⟩ := h3 hn
  exact ⟨ad, rfl, Nat.lt_of_lt_of_le hb hk.size, fun j u hu => (World.cell?_of_block (by rw [block_of_add]; exact hk.block _ hb)).trans (hc j u hu)⟩
end

section
variable {w w' : World} {v : Value} {xs : List Int} {xss : List (List Int)} {bs : List Bool} {bss : List (List Bool)}
theorem IntsAt.shape (h : IntsAt w v xs) : ∃ A c, v = .slice A xs.length c ∧ xs.length ≤ maxLen := Rd.shape h
theorem IntsAt.at_ {k : Nat} (h : IntsAt w v xs) (hk : k < xs.length) : ∃ ad c, v = .slice (some ad) xs.length c ∧ w.cell? (ad.add k) = some (.int .i64 xs[k]) := by
  obtain ⟨ad, c, u, rfl, h3, h4⟩ := Rd.at_ h hk
  simp [hk] at h3
  subst h3
  exact ⟨ad, c, rfl, h4⟩
theorem IntsAt.below (h : IntsAt w v xs) (hb : Below w.heap.size w w') : IntsAt w' v xs := Rd.below h hb
theorem BoolsAt.shape (h : BoolsAt w v bs) : ∃ A c, v = .slice A bs.length c ∧ bs.length ≤ maxLen := Rd.shape h
theorem BoolsAt.at_ {k : Nat} (h : BoolsAt w v bs) (hk : k < bs.length) : ∃ ad c, v = .slice (some ad) bs.length c ∧ w.cell? (ad.add k) = some (.bool bs[k]) := by
  obtain ⟨ad, c, u, rfl, h3, h4⟩ := Rd.at_ h hk
  simp [hk] at h3
  subst h3
  exact ⟨ad, c, rfl, h4⟩
theorem BoolsAt.below (h : BoolsAt w v bs) (hb : Below w.heap.size w w') : BoolsAt w' v bs := Rd.below h hb
theorem ListAt.shape {α : Type} {One : World → Value → α → Prop} {xss : List α} (h : ListAt One w v xss) : ∃ A c, v = .slice A xss.length c ∧ xss.length ≤ maxLen := by
  obtain ⟨vs, h, _⟩ := h
  exact h.shape
theorem ListAt.at_ {α : Type} {One : World → Value → α → Prop} {xss : List α} {k : Nat} (h : ListAt One w v xss) (hk : k < xss.length) :
    ∃ ad c u, v = .slice (some ad) xss.length c ∧ w.cell? (ad.add k) = some u ∧ One w u xss[k] := by
  obtain ⟨vs, h1, h2⟩ := h
  obtain ⟨ad, c, u, rfl, hc, hd⟩ := h1.at_ hk
  exact ⟨ad, c, u, rfl, hd, h2 k u _ hc (List.getElem?_eq_getElem hk)⟩
theorem ListAt.below {α : Type} {One : World → Value → α → Prop} {xss : List α} (h : ListAt One w v xss) (hone : ∀ u x, One w u x → One w' u x) (hb : Below w.heap.size w w') : ListAt One w' v xss := by
  obtain ⟨vs, h1, h2⟩ := h
  exact ⟨vs, h1.below hb, fun k u xs hu hx => hone u xs (h2 k u xs hu hx)⟩
theorem RowsAt.shape (h : RowsAt w v xss) : ∃ A c, v = .slice A xss.length c ∧ xss.length ≤ maxLen := ListAt.shape h
theorem RowsAt.at_ {k : Nat} (h : RowsAt w v xss) (hk : k < xss.length) :
    ∃ ad c u, v = .slice (some ad) xss.length c ∧ w.cell? (ad.add k) = some u ∧ IntsAt w u xss[k] := ListAt.at_ h hk
theorem RowsAt.below (h : RowsAt w v xss) (hb : Below w.heap.size w w') : RowsAt w' v xss := ListAt.below h (fun _ _ h => IntsAt.below h hb) hb
theorem BoolRowsAt.shape (h : BoolRowsAt w v bss) : ∃ A c, v = .slice A bss.length c ∧ bss.length ≤ maxLen := ListAt.shape h
theorem BoolRowsAt.at_ {k : Nat} (h : BoolRowsAt w v bss) (hk : k < bss.length) :
    ∃ ad c u, v = .slice (some ad) bss.length c ∧ w.cell? (ad.add k) = some u ∧ BoolsAt w u bss[k] := ListAt.at_ h hk
theorem BoolRowsAt.below (h : BoolRowsAt w v bss) (hb : Below w.heap.size w w') : BoolRowsAt w' v bss := ListAt.below h (fun _ _ h => BoolsAt.below h hb) hb
end
end Go.Proofs.YtahkpkaodeeemaaGreat

namespace Go.Proofs.YtahkpkaodeeemaaGreat
open Go.ChangeShapes Go.WideShapes Go.ChangeAt Go.RowKit Go.Deep
set_option linter.unusedVariables false

theorem ints_take {w : World} {A : Option Addr} {L C : Nat} {Z : List Int} (h1 : L ≤ C) (h2 : C ≤ maxLen) (h3 : Z.length = C) (h4 : A = none → C = 0)
    (h5 : ∀ a', A = some a' → ∀ c, c < C → w.cell? (a'.add c) = some (.int .i64 (Z.getD c 0))) : IntsAt w (.slice A L C) (Z.take L) := by
  have hl : (Z.take L).length = L := by rw [List.length_take]; omega
  have key : Rd w 1 (.slice A L C) L ((Z.take L).map (Value.int .i64)) := by
    refine ⟨by simp only [List.length_map]; omega, A, C, rfl, h1, h2, fun hpos => ?_⟩
    cases A with
    | none => have := h4 rfl; omega
    | some ad =>
      have hc := h5 ad rfl
      refine ⟨ad, rfl, ?_, fun j u hu => ?_⟩
      · have := World.block_lt_of_cell? w _ (hc 0 (by omega))
        rwa [block_of_add] at this
      · rw [List.getElem?_map, Option.map_eq_some_iff] at hu
        obtain ⟨x, hx, rfl⟩ := hu
        have hj : j < L := by
          obtain ⟨h, _⟩ := List.getElem?_eq_some_iff.1 hx
          omega
        rw [hc j (by omega)]
        rw [List.getElem?_take_of_lt hj] at hx
        simp [List.getD, hx]
  unfold IntsAt
  rw [hl]
  exact key

section
variable {H : Type} {enc : TypeId × Value → H} {P : Program}
/-- The row's last step, where of what lay there before nothing has turned. -/
theorem post_below {f : Func} {s : ChangeSpec} {apart fresh handsOn again : Bool} {W W' : World} {args : Array Value} {v : Value} {ds gs : List (DataW H)} {before pa pv : List MemPlace}
    (hW : DataW.Whole enc P f.params.toList s.vars apart W args.toList ds gs before)
    (hres : ∀ (b : Nat) (sp : Nat → Bool) (hd : Bool), DataW.TrodAll enc P W' b sp hd f.resultTypes.toList (v.resultList f.resultTypes.size) (s.fn H (ds ++ gs)).results [])
    (hargs : ∀ sp : Nat → Bool, (∀ p ∈ before, sp p.block = true) → DataW.TrodAll enc P W' 0 sp true f.params.toList args.toList (s.fn H (ds ++ gs)).args pa)
    (hvars : ∀ sp : Nat → Bool, (∀ p ∈ before, sp p.block = true) → DataW.TrodVars enc P W' sp s.vars (s.fn H (ds ++ gs)).vars pv)
    (hps : before = pa ++ pv) (hb : Below W.heap.size W W')
    (hok : ∀ (j : Nat) (t : TypeId) (r : Value), f.resultTypes[j]? = some t → (v.resultList f.resultTypes.size)[j]? = some r → Value.okWide P W' .any 0 t r) :
    s.post enc P f apart fresh handsOn again W args v W' := by
  have hlt : ∀ p ∈ before, p.block < W.heap.size := fun p hp => hW.lt p hp
  have hold : ∀ p ∈ before, (fun b => decide (b < W.heap.size)) p.block = true := fun p hp => by simpa using hlt p hp
  refine ⟨ds, gs, before, [], pa, pv, hW, hres _ _ _, hargs _ hold, hvars _ hold, World.keptBut_mono (fun p hp => ⟨hp, ?_⟩) (hb.frame (· ∈ before)), fun _ => ?_⟩
  · rw [hps, List.mem_append] at hp
    exact Or.inr hp
  · obtain ⟨_, _, _, _, _, hz, hn⟩ := hW
    refine ⟨hok, _, _, ([] ++ pa) ++ pv, ⟨[] ++ pa, pv, trodAll_append (hargs _ (fun _ _ => rfl)) (hres _ _ _), hvars _ (fun _ _ => rfl), rfl, ?_, ?_⟩, ?_⟩
    · intro b off hp
      have hin : MemPlace.cell b off ∈ before := by rw [hps]; simpa using hp
      rw [hb.frozen (hlt _ hin)]
      exact hz b off hin
    · intro ha
      have := hn ha
      rw [hps] at this
      simpa using this
    · intro p hp _
      rw [hps]
      simpa using hp
end
end Go.Proofs.YtahkpkaodeeemaaGreat
