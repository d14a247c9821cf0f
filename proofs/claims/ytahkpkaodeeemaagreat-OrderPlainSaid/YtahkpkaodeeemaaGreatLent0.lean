/- Small laws: a slice with one place more, a literal of one's own. -/
import Derived.Test.YtahkpkaodeeemaaGreatKit14
namespace Go.Proofs.YtahkpkaodeeemaaGreat
open Go.RowKit
set_option linter.unusedVariables false

/-- A slice value with one place more. -/
def more : Value → Value
  | .slice A n c => .slice A (n + 1) c
  | v => v
theorem more_form {v : Value} {A : Option Addr} {n c : Nat} (h : more v = .slice A (n + 1) c) : v = .slice A n c := by
  cases v <;> simp [more] at h
  obtain ⟨rfl, rfl, rfl⟩ := h
  rfl
theorem Rd.fst {w : World} {sz n m c : Nat} {A : Option Addr} {cs ds : List Value} (h : Rd w sz (.slice A (n + m) c) (n + m) (cs ++ ds)) (hl : cs.length = n * sz) : Rd w sz (.slice A n c) n cs := by
  obtain ⟨_, A', c', e, h1, h2, h3⟩ := h
  cases e
  refine ⟨hl, A, c, rfl, by omega, h2, fun hn => ?_⟩
  obtain ⟨ad, e, hb, hc⟩ := h3 (by omega)
  refine ⟨ad, e, hb, fun j u hu => hc j u ?_⟩
  rw [List.getElem?_append_left (by rcases List.getElem?_eq_some_iff.1 hu with ⟨h, _⟩; exact h)]
  exact hu

theorem Rd.news {w : World} {sz n c : Nat} {ad : Addr} {cs : List Value} (h : Rd w sz (.slice (some ad) n c) n cs) : ∀ j u, cs[j]? = some u → w.cell? (ad.add j) = some u := by
  obtain ⟨hl, A, c', e, _, _, h3⟩ := h
  cases e
  intro j u hu
  have hn : 0 < n := by
    rcases Nat.eq_zero_or_pos n with h0 | h0
    · subst h0
      rw [Nat.zero_mul] at hl
      rw [List.eq_nil_of_length_eq_zero hl] at hu
      simp at hu
    · exact h0
  obtain ⟨ad', e, _, hc⟩ := h3 hn
  cases e
  exact hc j u hu

section
variable {w0 w : World} {As R : List Asn}
theorem Sep.lit (h : Sep w0 w As) (e : TypeId) (cs : Array Value) (hm : cs.size ≤ maxLen) : Sep w0 (w.alloc (.cells cs e)) (.sl e 1 (.slice (some ⟨w.heap.size, 0, none⟩) cs.size cs.size) cs.size cs.toList :: As) := by
  have hown := World.ownsRow_lit (base := 0) (e := e) (size := 1) w cs cs.size (Nat.zero_le _) hm (by omega)
  exact h.new (F := [w.heap.size]) ((Below.refl _ _).alloc (Nat.le_refl _) _) ⟨hown, rfl⟩ (by simp)
end

end Go.Proofs.YtahkpkaodeeemaaGreat
