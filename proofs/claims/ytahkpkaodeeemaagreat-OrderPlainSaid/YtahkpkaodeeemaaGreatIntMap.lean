/- A map[int]int of the call's own, as a part of the state. -/
import Derived.Test.YtahkpkaodeeemaaGreatParts
import Derived.Test.YtahkpkaodeeemaaGreatProg
import Derived.Maps.Own
import Derived.Maps.Views
namespace Go.Proofs.YtahkpkaodeeemaaGreat
open Go.RowKit
set_option linter.unusedVariables false

theorem keyed_int : Maps.Keyed Tryz.prog 3 := Maps.int_keyed Tryz.underlying3
theorem zero_int (w : World) : (zeroValue 3).run Tryz.prog w = .ok (.int .i64 0) w := by kernel_rfl

def imapOn (w : World) (b n : Nat) (f : Int → Int) : Prop :=
  ∃ D : DataW Unit, w.ownsMap Tryz.prog 3 (plainElem Tryz.prog 3) b n D ∧ Maps.IsMap D ∧ ∀ k : Int, (Lit.int .i64 k).wf = true → D.atKey (.int .i64 k) (.lit (.int .i64 0)) = .lit (.int .i64 (f k))
/-- Block b is a map of at most n entries that tells f (0 where there is none). -/
def imapR (b n : Nat) (f : Int → Int) : Asn :=
  ⟨fun w F => imapOn w b n f ∧ F = [b],
   fun w w' F ⟨⟨D, ⟨es, clock, hb, hr⟩, h2, h3⟩, hF⟩ hk => ⟨⟨D, ⟨es, clock, by rw [hk b (by rw [hF]; simp)]; exact hb, hr⟩, h2, h3⟩, hF⟩,
   fun w F ⟨⟨D, h1, _⟩, hF⟩ => by rw [hF]; exact ⟨by simp, fun b' hb => by simp at hb; subst hb; exact h1.lt⟩⟩

section
variable {w0 w w' : World} {As : List Asn} {b n : Nat} {f : Int → Int}
theorem Sep.imap_new (h : Sep w0 w As) : Sep w0 (w.alloc (.map #[] 0)) (imapR w.heap.size 0 (fun _ => 0) :: As) :=
  h.new ((Below.refl _ _).alloc (Nat.le_refl _) _) (F := [w.heap.size]) ⟨⟨.map [], World.ownsMap_made w _ _ _, ⟨[], rfl⟩, fun k _ => rfl⟩, rfl⟩ (by simp)
set_option maxRecDepth 100000 in
theorem Sep.imap_look (i : Nat) (h : Sep w0 w As) (hi : As[i]? = some (imapR b n f)) (k : Int) (hk : (Lit.int .i64 k).wf = true) :
    (Instr.lookup 95 (.map (some b)) (.int .i64 k) false).run Tryz.prog w = .ok (.int .i64 (f k)) w := by
  obtain ⟨F, ⟨⟨D, h1, h2, h3⟩, _⟩, _⟩ := h.get i hi
  obtain ⟨c, hrun, hat, _⟩ := h1.lookup_int keyed_int Tryz.underlying95 Tryz.underlying3 (zero_int w) (Maps.keyOf_int_mk Tryz.underlying3 hk)
  have hc : f k = c := by
    have e := (h3 k hk).symm.trans hat
    injection e with e
    injection e
  rw [hrun, hc]
set_option maxRecDepth 100000 in
theorem Sep.imap_put (i : Nat) (h : Sep w0 w As) (hi : As[i]? = some (imapR b n f)) (hn : n < maxLen) (k v : Int) (hk : (Lit.int .i64 k).wf = true) (hv : (Lit.int .i64 v).wf = true) :
    ∃ w', (Instr.mapUpdate 95 (.map (some b)) (.int .i64 k) (.int .i64 v)).run Tryz.prog w = .ok () w' ∧ Sep w0 w' (As.set i (imapR b (n + 1) (fun x => if x = k then v else f x))) := by
  obtain ⟨F, ⟨⟨D, h1, h2, h3⟩, hF⟩, _⟩ := h.get i hi
  obtain ⟨w', hrun, hown, hgrow⟩ := h1.update keyed_int Tryz.underlying95 hn (Maps.keyOf_int_mk Tryz.underlying3 hk) (plainElem_int Tryz.underlying3 hv)
  refine ⟨w', hrun, h.step i hi fun F' ⟨_, hF'⟩ _ => ⟨[b], ⟨⟨_, hown, h2.put _ _, fun x hx => ?_⟩, rfl⟩, fun x hx => by rw [hF']; exact .inl hx, by rw [hF']; exact Keeps.of_grown hgrow⟩⟩
  by_cases e : x = k
  · subst e
    show _ = DataW.lit (Lit.int IntKind.i64 (if x = x then v else f x))
    rw [if_pos rfl]
    exact Maps.atKey_put_same h2 (by simp [WideAt.IsKeyLit]) _ _
  · show _ = DataW.lit (Lit.int IntKind.i64 (if x = k then v else f x))
    rw [if_neg e]
    rw [Maps.atKey_put_other (by intro e'; injection e' with _ e'; exact e e')]
    exact h3 x hx
/-- clear(m). -/
theorem Sep.imap_clear (i : Nat) (h : Sep w0 w As) (hi : As[i]? = some (imapR b n f)) (ty : TypeId) :
    ∃ w', (Builtin.clear_ #[95] ty #[.map (some b)]).run Tryz.prog w = .ok (.tuple #[]) w' ∧ Sep w0 w' (As.set i (imapR b 0 (fun _ => 0))) := by
  obtain ⟨F, ⟨⟨D, ⟨es, clock, hb, hr⟩, h2, h3⟩, hF⟩, _⟩ := h.get i hi
  refine ⟨ChangeMaps.setBlock w b (.map #[] clock), ?_, h.step i hi fun F' ⟨_, hF'⟩ _ => ⟨[b], ⟨⟨.map [], ⟨#[], clock, ChangeMaps.heap_setBlock_same hb _, ⟨by simp, MapKept.stamped_empty clock, by simp⟩, Nat.le_refl _, rfl⟩, ⟨[], rfl⟩, fun k _ => rfl⟩, rfl⟩, fun x hx => by rw [hF']; exact .inl hx, ?_⟩⟩
  · simp [Builtin.clear_, run_underlying Tryz.underlying95, MapKept.run_getObj_map hb, MapKept.run_setObj_map _ hb, Result.andThen, ChangeMaps.setBlock]
  · rw [hF']
    exact ⟨rfl, rfl, rfl, by simp [ChangeMaps.setBlock], fun k _ hk => ChangeMaps.heap_setBlock_other hb _ (by simpa using hk)⟩
end
end Go.Proofs.YtahkpkaodeeemaaGreat
