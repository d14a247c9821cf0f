/- Sep, laid together. -/
import Derived.Test.YtahkpkaodeeemaaGreatJ1
namespace Go.Proofs.YtahkpkaodeeemaaGreat
open Go.RowKit

/-- w' is w with new blocks, and with writes to the blocks F alone. -/
structure Keeps (w w' : World) (F : List Nat) : Prop where
  os : w'.os = w.os
  tape : w'.tape = w.tape
  output : w'.output = w.output
  size : w.heap.size ≤ w'.heap.size
  block : ∀ k, k < w.heap.size → k ∉ F → w'.heap[k]? = w.heap[k]?

theorem Keeps.refl (w : World) (F : List Nat) : Keeps w w F := ⟨rfl, rfl, rfl, Nat.le_refl _, fun _ _ _ => rfl⟩
theorem Keeps.drew (w : World) (F : List Nat) : Keeps w w.drew F := ⟨rfl, rfl, rfl, Nat.le_refl _, fun _ _ _ => rfl⟩
theorem Keeps.of_grown {w w' : World} {row : Option Nat} (h : w.grownBy w' row) : Keeps w w' row.toList :=
  ⟨h.os, h.tape, h.output, h.size, fun k hk hn => h.block k hk (fun e => hn (by rw [← e]; simp))⟩
theorem Keeps.of_below {w w' : World} (h : Below w.heap.size w w') (F : List Nat) : Keeps w w' F :=
  ⟨h.os, h.tape, h.output, h.size, fun k hk _ => h.block k hk⟩
theorem Keeps.alloc (w : World) (o : Obj) (F : List Nat) : Keeps w (w.alloc o) F := .of_below ((Below.refl _ _).alloc (Nat.le_refl _) o) F
theorem Keeps.setCell (w : World) (a : Addr) (u : Value) : Keeps w (w.setCell a u) [a.block] :=
  ⟨rfl, rfl, rfl, by simp [World.setCell], fun k _ hn => Below.heap_setCell w a u k (by simpa using hn)⟩
theorem Keeps.trans {a b c : World} {F : List Nat} (h : Keeps a b F) (k : Keeps b c F) : Keeps a c F :=
  ⟨k.os.trans h.os, k.tape.trans h.tape, k.output.trans h.output, Nat.le_trans h.size k.size, fun i hi hn => (k.block i (Nat.lt_of_lt_of_le hi h.size) hn).trans (h.block i hi hn)⟩
theorem Keeps.below {w w' : World} {F : List Nat} {B : Nat} (h : Keeps w w' F) (hB : B ≤ w.heap.size) (hF : ∀ b, b ∈ F → B ≤ b) : Below B w w' :=
  ⟨h.os, h.tape, h.output, h.size, fun k hk => h.block k (by omega) (fun hm => by have := hF k hm; omega)⟩

/-- An assertion on the memory, with the blocks that it speaks of. -/
structure Asn where
  on : World → List Nat → Prop
  loc : ∀ (w w' : World) (F : List Nat), on w F → (∀ b, b ∈ F → w'.heap[b]? = w.heap[b]?) → on w' F
  fin : ∀ (w : World) (F : List Nat), on w F → F.Nodup ∧ ∀ b, b ∈ F → b < w.heap.size

theorem lt_of_heap {w : World} {b : Nat} {o : Obj} (h : w.heap[b]? = some o) : b < w.heap.size := (Array.getElem?_eq_some_iff.1 h).1

def Asn.emp : Asn := ⟨fun _ F => F = [], fun _ _ _ h _ => h, fun _ _ h => by subst h; simp⟩

def Foots (w : World) : List Asn → List (List Nat) → Prop
  | [], Fs => Fs = []
  | A :: As, Fs => ∃ F Gs, Fs = F :: Gs ∧ A.on w F ∧ Foots w As Gs

theorem Foots.append {w : World} {As Bs : List Asn} : ∀ {Fs : List (List Nat)}, Foots w (As ++ Bs) Fs ↔ ∃ Gs Hs, Fs = Gs ++ Hs ∧ Foots w As Gs ∧ Foots w Bs Hs := by
  induction As with
  | nil =>
    intro Fs
    constructor
    · intro h; exact ⟨[], Fs, rfl, rfl, h⟩
    · rintro ⟨_, _, rfl, rfl, h⟩; exact h
  | cons A As ih =>
    intro Fs
    simp only [List.cons_append, Foots]
    constructor
    · rintro ⟨F, Gs, rfl, h1, h2⟩
      obtain ⟨G1, G2, rfl, h3, h4⟩ := ih.1 h2
      exact ⟨F :: G1, G2, rfl, ⟨F, G1, rfl, h1, h3⟩, h4⟩
    · rintro ⟨G1, G2, rfl, ⟨F, Gs, rfl, h1, h2⟩, h3⟩
      exact ⟨F, Gs ++ G2, rfl, h1, ih.2 ⟨Gs, G2, rfl, h2, h3⟩⟩

theorem Foots.loc {w w' : World} {As : List Asn} : ∀ {Fs : List (List Nat)}, Foots w As Fs → (∀ b, b ∈ Fs.flatten → w'.heap[b]? = w.heap[b]?) → Foots w' As Fs := by
  induction As with
  | nil => intro Fs h _; exact h
  | cons A As ih =>
    rintro Fs ⟨F, Gs, rfl, h1, h2⟩ hk
    exact ⟨F, Gs, rfl, A.loc _ _ _ h1 (fun b hb => hk b (by simp [hb])), ih h2 (fun b hb => hk b (by rw [List.flatten_cons, List.mem_append]; exact .inr hb))⟩

theorem Foots.lt {w : World} {As : List Asn} : ∀ {Fs : List (List Nat)}, Foots w As Fs → ∀ b, b ∈ Fs.flatten → b < w.heap.size := by
  induction As with
  | nil => intro Fs h b hb; subst h; simp at hb
  | cons A As ih =>
    rintro Fs ⟨F, Gs, rfl, h1, h2⟩ b hb
    rw [List.flatten_cons, List.mem_append] at hb
    rcases hb with hb | hb
    · exact (A.fin _ _ h1).2 b hb
    · exact ih h2 b hb

/-- THE STATE: what w0 had is as it was; behind it lie the parts As, which share no block. -/
def Sep (w0 w : World) (As : List Asn) : Prop :=
  Below w0.heap.size w0 w ∧ ∃ Fs, Foots w As Fs ∧ Fs.flatten.Nodup ∧ ∀ b, b ∈ Fs.flatten → w0.heap.size ≤ b

section
variable {w0 w w' : World} {As R : List Asn} {A A' : Asn}
theorem Sep.below (h : Sep w0 w As) : Below w0.heap.size w0 w := h.1
theorem Sep.base (h : Sep w0 w As) : w0.heap.size ≤ w.heap.size := h.1.size
theorem Sep.nil (w : World) : Sep w w [] := ⟨Below.refl _ _, [], rfl, by simp, by simp⟩
theorem Sep.pure (h : Sep w0 w As) (hb : Below w.heap.size w w') : Sep w0 w' As := by
  obtain ⟨h1, Fs, h3, h4, h5⟩ := h
  exact ⟨h1.trans (hb.mono h1.size), Fs, h3.loc (fun b hm => hb.block b (h3.lt b hm)), h4, h5⟩
theorem Sep.drew (h : Sep w0 w As) : Sep w0 w.drew As := h.pure ((Below.refl _ _).drew)
theorem Sep.drewN (h : Sep w0 w As) (n : Nat) : Sep w0 (w.drewN n) As :=
  h.pure ⟨rfl, rfl, rfl, Nat.le_refl _, fun _ _ => rfl⟩

/-- A new part, in new blocks. -/
theorem Sep.new {F : List Nat} (h : Sep w0 w As) (hb : Below w.heap.size w w') (ha : A.on w' F) (hF : ∀ b, b ∈ F → w.heap.size ≤ b) : Sep w0 w' (A :: As) := by
  have hbase := h.base
  obtain ⟨h1, Fs, h3, h4, h5⟩ := h
  refine ⟨h1.trans (hb.mono hbase), F :: Fs, ⟨F, Fs, rfl, ha, h3.loc (fun b hm => hb.block b (h3.lt b hm))⟩, ?_, ?_⟩
  · rw [List.flatten_cons, List.nodup_append]
    exact ⟨(A.fin _ _ ha).1, h4, fun a haF b hbF => by have := hF a haF; have := h3.lt b hbF; omega⟩
  · intro b hm
    rw [List.flatten_cons, List.mem_append] at hm
    rcases hm with hm | hm
    · have := hF b hm; omega
    · exact h5 b hm

/-- One part is turned. -/
theorem Sep.turn {X Y : List Asn} (h : Sep w0 w (X ++ A :: Y))
    (hc : ∀ F, A.on w F → (∀ b, b ∈ F → w0.heap.size ≤ b) → ∃ F', A'.on w' F' ∧ (∀ b, b ∈ F' → b ∈ F ∨ w.heap.size ≤ b) ∧ Keeps w w' F) : Sep w0 w' (X ++ A' :: Y) := by
  have hbase := h.base
  obtain ⟨h1, Fs, h3, h4, h5⟩ := h
  obtain ⟨Gs, Hs, rfl, h6, F, Hs', rfl, h7, h8⟩ := Foots.append.1 h3
  have hG : ∀ b, b ∈ Gs.flatten → b < w.heap.size := h6.lt
  have hH : ∀ b, b ∈ Hs'.flatten → b < w.heap.size := h8.lt
  simp only [List.flatten_append, List.flatten_cons, List.nodup_append, List.mem_append] at h4 h5
  obtain ⟨F', ha, hsub, hk⟩ := hc F h7 (fun b hb => h5 b (.inr (.inl hb)))
  obtain ⟨n1, ⟨n2, n3, n4⟩, n5⟩ := h4
  refine ⟨h1.trans (hk.below hbase (fun b hb => h5 b (.inr (.inl hb)))), Gs ++ F' :: Hs', Foots.append.2 ⟨Gs, F' :: Hs', rfl, h6.loc (fun b hb => hk.block b (hG b hb) (fun hf => n5 b hb b (.inl hf) rfl)), F', Hs', rfl, ha, h8.loc (fun b hb => hk.block b (hH b hb) (fun hf => n4 b hf b hb rfl))⟩, ?_, ?_⟩
  · simp only [List.flatten_append, List.flatten_cons, List.nodup_append, List.mem_append]
    refine ⟨n1, ⟨(A'.fin _ _ ha).1, n3, fun a haF b hb => ?_⟩, fun a haG b hb => ?_⟩
    · rcases hsub a haF with hf | hf
      · exact n4 a hf b hb
      · have := hH b hb; omega
    · rcases hb with hb | hb
      · rcases hsub b hb with hf | hf
        · exact n5 a haG b (.inl hf)
        · have := hG a haG; omega
      · exact n5 a haG b (.inr hb)
  · intro b hm
    simp only [List.flatten_append, List.flatten_cons, List.mem_append] at hm
    rcases hm with hm | hm | hm
    · exact h5 b (.inl hm)
    · rcases hsub b hm with hf | hf
      · exact h5 b (.inr (.inl hf))
      · omega
    · exact h5 b (.inr (.inr hm))

theorem split_at {α : Type} : ∀ {l : List α} {i : Nat} {x : α}, l[i]? = some x → l = l.take i ++ x :: l.drop (i + 1) ∧ ∀ y, l.set i y = l.take i ++ y :: l.drop (i + 1)
  | [], i, x, h => by simp at h
  | a :: l, 0, x, h => by simp at h; subst h; simp
  | a :: l, i + 1, x, h => by
    have h' : l[i]? = some x := by simpa using h
    obtain ⟨e1, e2⟩ := split_at h'
    refine ⟨?_, fun y => ?_⟩
    · simp only [List.take_succ_cons, List.drop_succ_cons, List.cons_append]; rw [← e1]
    · simp only [List.set_cons_succ, List.take_succ_cons, List.drop_succ_cons, List.cons_append]; rw [e2 y]

/-- The i-th part is turned. -/
theorem Sep.step (i : Nat) (h : Sep w0 w As) (hi : As[i]? = some A)
    (hc : ∀ F, A.on w F → (∀ b, b ∈ F → w0.heap.size ≤ b) → ∃ F', A'.on w' F' ∧ (∀ b, b ∈ F' → b ∈ F ∨ w.heap.size ≤ b) ∧ Keeps w w' F) : Sep w0 w' (As.set i A') := by
  obtain ⟨e1, e2⟩ := split_at hi
  rw [e2]
  rw [e1] at h
  exact h.turn hc

/-- A part of the state, looked at. -/
theorem Sep.get (i : Nat) (h : Sep w0 w As) (hi : As[i]? = some A) : ∃ F, A.on w F ∧ ∀ b, b ∈ F → w0.heap.size ≤ b ∧ b < w.heap.size := by
  obtain ⟨h1, Fs, h3, h4, h5⟩ := h
  rw [(split_at hi).1] at h3
  obtain ⟨Gs, Hs, rfl, h6, F, Hs', rfl, h7, h8⟩ := Foots.append.1 h3
  exact ⟨F, h7, fun b hb => ⟨h5 b (by simp [hb]), (A.fin _ _ h7).2 b hb⟩⟩

/-- What a callee made of its own, seen from the caller's state. -/
theorem Sep.join {Bs : List Asn} (h : Sep w0 w As) (k : Sep w w' Bs) : Sep w0 w' (Bs ++ As) := by
  have hbase := h.base
  obtain ⟨h1, Fs, h3, h4, h5⟩ := h
  obtain ⟨k1, Gs, k3, k4, k5⟩ := k
  refine ⟨h1.trans (k1.mono hbase), Gs ++ Fs, Foots.append.2 ⟨Gs, Fs, rfl, k3, h3.loc (fun b hm => k1.block b (h3.lt b hm))⟩, ?_, ?_⟩
  · rw [List.flatten_append, List.nodup_append]
    exact ⟨k4, h4, fun a ha b hb => by have := k5 a ha; have := h3.lt b hb; omega⟩
  · intro b hm
    rw [List.flatten_append, List.mem_append] at hm
    rcases hm with hm | hm
    · have := k5 b hm; omega
    · exact h5 b hm

/-- What the same blocks say otherwise. -/
theorem Sep.same {Bs : List Asn} (h : Sep w0 w As) (hc : ∀ Fs, Foots w As Fs → Fs.flatten.Nodup → ∃ Gs, Foots w Bs Gs ∧ Gs.flatten.Nodup ∧ ∀ b, b ∈ Gs.flatten → b ∈ Fs.flatten) : Sep w0 w Bs := by
  obtain ⟨h1, Fs, h3, h4, h5⟩ := h
  obtain ⟨Gs, g1, g2, g3⟩ := hc Fs h3 h4
  exact ⟨h1, Gs, g1, g2, fun b hb => h5 b (g3 b hb)⟩

/-- Two heads. -/
theorem Sep.fst {X Y : List Asn} (h : Sep w0 w (X ++ Y)) : Sep w0 w X := h.same fun Fs hf hn => by
  obtain ⟨Gs, Hs, rfl, h6, h7⟩ := Foots.append.1 hf
  rw [List.flatten_append, List.nodup_append] at hn
  exact ⟨Gs, h6, hn.1, fun b hb => by rw [List.flatten_append]; exact List.mem_append.2 (.inl hb)⟩
theorem Sep.snd {X Y : List Asn} (h : Sep w0 w (X ++ Y)) : Sep w0 w Y := h.same fun Fs hf hn => by
  obtain ⟨Gs, Hs, rfl, h6, h7⟩ := Foots.append.1 hf
  rw [List.flatten_append, List.nodup_append] at hn
  exact ⟨Hs, h7, hn.2.1, fun b hb => by rw [List.flatten_append]; exact List.mem_append.2 (.inr hb)⟩

/-- The parts in another order. -/
theorem Sep.perm {Bs : List Asn} (h : Sep w0 w As) (hp : As.Perm Bs) : Sep w0 w Bs := by
  refine h.same ?_
  clear h
  induction hp with
  | nil => intro Fs hf hn; exact ⟨Fs, hf, hn, fun _ h => h⟩
  | cons x _ ih =>
    rintro Fs ⟨F, Gs, rfl, h1, h2⟩ hn
    rw [List.flatten_cons, List.nodup_append] at hn
    obtain ⟨Gs', g1, g2, g3⟩ := ih Gs h2 hn.2.1
    refine ⟨F :: Gs', ⟨F, Gs', rfl, h1, g1⟩, ?_, ?_⟩
    · rw [List.flatten_cons, List.nodup_append]
      exact ⟨hn.1, g2, fun a ha b hb => hn.2.2 a ha b (g3 b hb)⟩
    · intro b hb
      rw [List.flatten_cons, List.mem_append] at hb ⊢
      rcases hb with hb | hb
      · exact .inl hb
      · exact .inr (g3 b hb)
  | swap x y l =>
    rintro Fs ⟨F, Gs, rfl, h1, G, Hs, rfl, h2, h3⟩ hn
    refine ⟨G :: F :: Hs, ⟨G, F :: Hs, rfl, h2, F, Hs, rfl, h1, h3⟩, ?_, ?_⟩
    · simp only [List.flatten_cons, List.nodup_append, List.mem_append] at hn ⊢
      obtain ⟨n1, ⟨n2, n3, n4⟩, n5⟩ := hn
      refine ⟨n2, ⟨n1, n3, fun a ha b hb => n5 a ha b (.inr hb)⟩, fun a ha b hb => ?_⟩
      rcases hb with hb | hb
      · exact (n5 b hb a (.inl ha)).symm
      · exact n4 a ha b hb
    · intro b hb
      simp only [List.flatten_cons, List.mem_append] at hb ⊢
      rcases hb with hb | hb | hb
      · exact .inr (.inl hb)
      · exact .inl hb
      · exact .inr (.inr hb)
  | trans _ _ ih1 ih2 =>
    intro Fs hf hn
    obtain ⟨Gs, g1, g2, g3⟩ := ih1 Fs hf hn
    obtain ⟨Hs, k1, k2, k3⟩ := ih2 Gs g1 g2
    exact ⟨Hs, k1, k2, fun b hb => g3 b (k3 b hb)⟩

theorem perm_of_idx {α : Type} (l : List α) (d : α) (is : List Nat) (h : is.Perm (List.range l.length)) : l.Perm (is.map fun i => l.getD i d) := by
  have e : l = (List.range l.length).map fun i => l.getD i d := by
    apply List.ext_getElem?
    intro i
    by_cases hi : i < l.length
    · simp [hi, List.getD]
    · simp [hi]
  exact (List.Perm.of_eq e).trans (h.symm.map _)

/-- The first parts in the order that the list of places says: 'h.sel [1, 2, 0] (by decide) (by simp)'. -/
theorem Sep.sel (is : List Nat) (h : Sep w0 w As) (hp : is.Perm (List.range is.length)) (hl : is.length ≤ As.length) : Sep w0 w ((is.map fun i => (As.take is.length).getD i Asn.emp) ++ As.drop is.length) := by
  have e : As = As.take is.length ++ As.drop is.length := (List.take_append_drop _ _).symm
  have hlen : (As.take is.length).length = is.length := by simp; omega
  rw [e] at h
  exact h.perm ((perm_of_idx _ Asn.emp is (by rw [hlen]; exact hp)).append_right _)

theorem Sep.drop (n : Nat) (h : Sep w0 w As) : Sep w0 w (As.drop n) := by
  rw [← List.take_append_drop n As] at h
  exact h.snd
end

/-! The assertions -/

def Asn.pure (p : Prop) : Asn := ⟨fun _ F => p ∧ F = [], fun _ _ _ h _ => h, fun _ _ h => by rw [h.2]; simp⟩
def Asn.ex {α : Type} (A : α → Asn) : Asn := ⟨fun w F => ∃ x, (A x).on w F, fun w w' F ⟨x, h⟩ hk => ⟨x, (A x).loc w w' F h hk⟩, fun w F ⟨x, h⟩ => (A x).fin w F h⟩
def Asn.star (A B : Asn) : Asn :=
  ⟨fun w F => F.Nodup ∧ ∃ F1 F2, F = F1 ++ F2 ∧ A.on w F1 ∧ B.on w F2,
   fun w w' _ ⟨hn, F1, F2, e, h1, h2⟩ hk => ⟨hn, F1, F2, e, A.loc w w' F1 h1 (fun b hb => hk b (by rw [e]; exact List.mem_append.2 (.inl hb))), B.loc w w' F2 h2 (fun b hb => hk b (by rw [e]; exact List.mem_append.2 (.inr hb)))⟩,
   fun w _ ⟨hn, F1, F2, e, h1, h2⟩ => ⟨hn, fun b hb => by
     rw [e, List.mem_append] at hb
     rcases hb with hb | hb
     · exact (A.fin w F1 h1).2 b hb
     · exact (B.fin w F2 h2).2 b hb⟩⟩
def Asn.starL : List Asn → Asn
  | [] => Asn.emp
  | A :: As => Asn.star A (Asn.starL As)

/-- A block that is known whole. -/
def Asn.box (b : Nat) (t : TypeId) (cs : Array Value) : Asn :=
  ⟨fun w F => w.heap[b]? = some (.cells cs t (0, 0)) ∧ F = [b],
   fun w w' F h hk => ⟨by rw [hk b (by rw [h.2]; simp)]; exact h.1, h.2⟩,
   fun w F h => by rw [h.2]; exact ⟨by simp, fun b' hb => by simp at hb; subst hb; exact lt_of_heap h.1⟩⟩

/-- A slice of the call's own: nil, or at the head of a block: n elements of sz cells; their cells are cs. -/
def Asn.sl (e : TypeId) (sz : Nat) (v : Value) (n : Nat) (cs : List Value) : Asn :=
  ⟨fun w F => w.ownsRow 0 e sz v n cs ∧ F = v.ownBlock.toList,
   fun w w' F ⟨h, hF⟩ hk => ⟨by
     refine ⟨h.1, ?_⟩
     rcases h.2 with h | ⟨g, cap, cur, hv, hb, hg, r⟩
     · exact .inl h
     · exact .inr ⟨g, cap, cur, hv, hb, by rw [hk g (by rw [hF, hv]; simp [Value.ownBlock])]; exact hg, r⟩, hF⟩,
   fun w F ⟨h, hF⟩ => by
     subst hF
     refine ⟨by cases v.ownBlock <;> simp, fun b hb => ?_⟩
     have : v.ownBlock = some b := by simpa using hb
     exact (h.lt b this).2⟩

section
variable {w0 w w' : World} {As R : List Asn} {A C : Asn}
theorem Sep.ex_open {α : Type} {A : α → Asn} (h : Sep w0 w (Asn.ex A :: R)) : ∃ x, Sep w0 w (A x :: R) := by
  obtain ⟨h1, Fs, ⟨F, Gs, rfl, ⟨x, h3⟩, h4⟩, h5, h6⟩ := h
  exact ⟨x, h1, F :: Gs, ⟨F, Gs, rfl, h3, h4⟩, h5, h6⟩
theorem Sep.ex_shut {α : Type} {A : α → Asn} (x : α) (h : Sep w0 w (A x :: R)) : Sep w0 w (Asn.ex A :: R) := by
  obtain ⟨h1, Fs, ⟨F, Gs, rfl, h3, h4⟩, h5, h6⟩ := h
  exact ⟨h1, F :: Gs, ⟨F, Gs, rfl, ⟨x, h3⟩, h4⟩, h5, h6⟩
theorem Sep.pure_open {p : Prop} (h : Sep w0 w (Asn.pure p :: R)) : p ∧ Sep w0 w R := by
  obtain ⟨h1, Fs, ⟨F, Gs, rfl, ⟨hp, rfl⟩, h4⟩, h5, h6⟩ := h
  exact ⟨hp, h1, Gs, h4, by simpa using h5, by simpa using h6⟩
theorem Sep.pure_shut {p : Prop} (hp : p) (h : Sep w0 w R) : Sep w0 w (Asn.pure p :: R) := by
  obtain ⟨h1, Fs, h4, h5, h6⟩ := h
  exact ⟨h1, [] :: Fs, ⟨[], Fs, rfl, ⟨hp, rfl⟩, h4⟩, by simpa using h5, by simpa using h6⟩
theorem Sep.emp_open (h : Sep w0 w (Asn.emp :: R)) : Sep w0 w R := h.drop 1
theorem Sep.emp_shut (h : Sep w0 w R) : Sep w0 w (Asn.emp :: R) := by
  obtain ⟨h1, Fs, h4, h5, h6⟩ := h
  exact ⟨h1, [] :: Fs, ⟨[], Fs, rfl, rfl, h4⟩, by simpa using h5, by simpa using h6⟩
theorem Sep.star_open (h : Sep w0 w (Asn.star A C :: R)) : Sep w0 w (A :: C :: R) := h.same fun Fs hf hn => by
  obtain ⟨F, Gs, rfl, ⟨_, F1, F2, rfl, h3, h4⟩, h5⟩ := hf
  exact ⟨F1 :: F2 :: Gs, ⟨F1, _, rfl, h3, F2, Gs, rfl, h4, h5⟩, by simpa [List.append_assoc] using hn, fun b hb => by simpa [or_assoc] using hb⟩
theorem Sep.star_shut (h : Sep w0 w (A :: C :: R)) : Sep w0 w (Asn.star A C :: R) := h.same fun Fs hf hn => by
  obtain ⟨F1, Gs', rfl, h3, F2, Gs, rfl, h4, h5⟩ := hf
  have hn' : ((F1 ++ F2) ++ Gs.flatten).Nodup := by simpa [List.append_assoc] using hn
  exact ⟨(F1 ++ F2) :: Gs, ⟨F1 ++ F2, Gs, rfl, ⟨(List.nodup_append.1 hn').1, F1, F2, rfl, h3, h4⟩, h5⟩, by simpa using hn', fun b hb => by simpa [or_assoc] using hb⟩
theorem Sep.starL_open : ∀ {As : List Asn} {R : List Asn}, Sep w0 w (Asn.starL As :: R) → Sep w0 w (As ++ R)
  | [], _, h => h.emp_open
  | A :: As, R, h => by
    have h1 := h.star_open
    have h2 : Sep w0 w (Asn.starL As :: A :: R) := h1.perm (List.Perm.swap _ _ _)
    have h3 := starL_open h2
    exact h3.perm List.perm_middle
theorem Sep.starL_shut : ∀ {As : List Asn} {R : List Asn}, Sep w0 w (As ++ R) → Sep w0 w (Asn.starL As :: R)
  | [], _, h => h.emp_shut
  | A :: As, R, h => by
    have h1 : Sep w0 w (As ++ A :: R) := h.perm List.perm_middle.symm
    have h2 := starL_shut h1
    exact (h2.perm (List.Perm.swap _ _ _)).star_shut
end
end Go.Proofs.YtahkpkaodeeemaaGreat
