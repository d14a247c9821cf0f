/- Laws, Parts, laid together. -/
import Derived.Test.YtahkpkaodeeemaaGreatJ2
namespace Go.Proofs.YtahkpkaodeeemaaGreat
open Go.RowKit

section
variable {w0 w w' : World} {As R : List Asn} {e : TypeId} {sz n : Nat} {v : Value} {cs : List Value}

theorem Sep.sl_form (i : Nat) (h : Sep w0 w As) (hi : As[i]? = some (.sl e sz v n cs)) (hn : 0 < n) :
    ∃ g cap, v = .slice (some ⟨g, 0, none⟩) n cap ∧ w0.heap.size ≤ g ∧ g < w.heap.size ∧ n ≤ cap ∧ cap ≤ maxLen := by
  obtain ⟨F, ⟨ho, rfl⟩, hF⟩ := h.get i hi
  rcases ho.2 with ⟨_, h0⟩ | ⟨g, cap, cur, hv, _, hg, hc, hm, _⟩
  · omega
  · have := hF g (by rw [hv]; simp [Value.ownBlock])
    exact ⟨g, cap, hv, this.1, this.2, hc, hm⟩
theorem Sep.sl_any (i : Nat) (h : Sep w0 w As) (hi : As[i]? = some (.sl e sz v n cs)) :
    ∃ A cap, v = .slice A n cap ∧ n ≤ cap ∧ cap ≤ maxLen ∧ cs.length = n * sz := by
  obtain ⟨F, ⟨ho, rfl⟩, hF⟩ := h.get i hi
  rcases ho.2 with ⟨rfl, rfl⟩ | ⟨g, cap, cur, hv, _, hg, hc, hm, _⟩
  · exact ⟨none, 0, rfl, Nat.le_refl _, by simp [maxLen], ho.1⟩
  · exact ⟨_, cap, hv, hc, hm, ho.1⟩
theorem Sep.rd (i : Nat) (h : Sep w0 w As) (hi : As[i]? = some (.sl e sz v n cs)) : Rd w sz v n cs := by
  obtain ⟨A, cap, hv, h1, h2, h3⟩ := h.sl_any i hi
  refine ⟨h3, A, cap, hv, h1, h2, fun hn => ?_⟩
  obtain ⟨g, cap', hv', h4, h5, _⟩ := h.sl_form i hi hn
  obtain ⟨F, ⟨ho, _⟩, _⟩ := h.get i hi
  have hA : A = some ⟨g, 0, none⟩ := by rw [hv] at hv'; injection hv'
  subst hA
  exact ⟨_, rfl, h5, ho.cells (g := g) (by rw [hv']; rfl)⟩
theorem Sep.cellAt {g cap : Nat} (i : Nat) (h : Sep w0 w As) (hi : As[i]? = some (.sl e sz (.slice (some ⟨g, 0, none⟩) n cap) n cs)) (j : Nat) (hj : j < n * sz) : w.cell? ⟨g, j, none⟩ = cs[j]? := by
  obtain ⟨F, ⟨ho, _⟩, _⟩ := h.get i hi
  exact ho.cellAt j hj
theorem Sep.frozenAt {g cap : Nat} (i : Nat) (h : Sep w0 w As) (hi : As[i]? = some (.sl e sz (.slice (some ⟨g, 0, none⟩) n cap) n cs)) (j : Nat) : w.frozen? ⟨g, j, none⟩ = false := by
  obtain ⟨F, ⟨ho, _⟩, _⟩ := h.get i hi
  exact ho.frozenAt j
/-- A store into a slice of the call's own. -/
theorem Sep.stored {g cap : Nat} (i : Nat) (h : Sep w0 w As) (hi : As[i]? = some (.sl e sz (.slice (some ⟨g, 0, none⟩) n cap) n cs)) (j : Nat) (u : Value) :
    Sep w0 (w.setCell ⟨g, j, none⟩ u) (As.set i (.sl e sz (.slice (some ⟨g, 0, none⟩) n cap) n (cs.set j u))) := by
  refine h.step i hi fun F ⟨ho, hF⟩ _ => ⟨F, ⟨(ho.stored j u).1, hF⟩, fun b hb => .inl hb, ?_⟩
  have := Keeps.setCell w ⟨g, j, none⟩ u
  rw [hF]
  simpa [Value.ownBlock] using this
theorem Sep.boxAt {b : Nat} {t : TypeId} {cs : Array Value} (i : Nat) (h : Sep w0 w As) (hi : As[i]? = some (.box b t cs)) : w.heap[b]? = some (.cells cs t (0, 0)) ∧ w0.heap.size ≤ b ∧ b < w.heap.size := by
  obtain ⟨F, ⟨ho, rfl⟩, hF⟩ := h.get i hi
  exact ⟨ho, hF b (by simp)⟩
theorem Sep.box_cell {b : Nat} {t : TypeId} {cs : Array Value} (i : Nat) (h : Sep w0 w As) (hi : As[i]? = some (.box b t cs)) (j : Nat) : w.cell? ⟨b, j, none⟩ = cs[j]? :=
  cell_of_row w b j cs t (0, 0) (h.boxAt i hi).1
theorem Sep.box_frozen {b : Nat} {t : TypeId} {cs : Array Value} (i : Nat) (h : Sep w0 w As) (hi : As[i]? = some (.box b t cs)) (j : Nat) : w.frozen? ⟨b, j, none⟩ = false :=
  frozen_of_row w b j cs t (h.boxAt i hi).1
theorem Sep.box_stored {b : Nat} {t : TypeId} {cs : Array Value} (i : Nat) (h : Sep w0 w As) (hi : As[i]? = some (.box b t cs)) (j : Nat) (u : Value) :
    Sep w0 (w.setCell ⟨b, j, none⟩ u) (As.set i (.box b t (cs.setIfInBounds j u))) := by
  refine h.step i hi fun F ⟨ho, hF⟩ _ => ⟨F, ⟨heap_setCell_same w b j cs t u ho, hF⟩, fun b hb => .inl hb, ?_⟩
  rw [hF]
  exact Keeps.setCell w ⟨b, j, none⟩ u
theorem Sep.box_new (h : Sep w0 w As) (t : TypeId) (cs : Array Value) : Sep w0 (w.alloc (.cells cs t)) (.box w.heap.size t cs :: As) :=
  h.new ((Below.refl _ _).alloc (Nat.le_refl _) _) (F := [w.heap.size]) ⟨heap_alloc_new w _, rfl⟩ (by simp)
theorem Sep.alloc (h : Sep w0 w As) (o : Obj) : Sep w0 (w.alloc o) As := h.pure ((Below.refl _ _).alloc (Nat.le_refl _) _)
theorem Foots.nth {w : World} : ∀ {As : List Asn} {Fs : List (List Nat)} {i : Nat} {A : Asn}, Foots w As Fs → As[i]? = some A → ∃ F, Fs[i]? = some F ∧ A.on w F
  | [], _, _, _, _, h => by simp at h
  | A :: As, _, 0, _, ⟨F, Gs, rfl, h1, _⟩, h => by
    simp at h
    subst h
    exact ⟨F, rfl, h1⟩
  | A :: As, _, i + 1, _, ⟨F, Gs, rfl, _, h2⟩, h => by
    obtain ⟨G, hg, ho⟩ := h2.nth (i := i) (by simpa using h)
    exact ⟨G, by simpa using hg, ho⟩
theorem nodup_apart : ∀ {Fs : List (List Nat)} {i j : Nat} {F G : List Nat}, Fs.flatten.Nodup → Fs[i]? = some F → Fs[j]? = some G → i < j → ∀ b, b ∈ F → b ∉ G
  | [], _, _, _, _, _, h, _, _ => by simp at h
  | E :: Fs, 0, j + 1, F, G, hn, h1, h2, _ => fun b hb hg => by
    simp at h1
    subst h1
    rw [List.flatten_cons, List.nodup_append] at hn
    exact hn.2.2 b hb b (List.mem_flatten.2 ⟨G, List.mem_of_getElem? (by simpa using h2), hg⟩) rfl
  | E :: Fs, i + 1, j + 1, F, G, hn, h1, h2, h3 => by
    rw [List.flatten_cons, List.nodup_append] at hn
    exact nodup_apart hn.2.1 (by simpa using h1) (by simpa using h2) (by omega)
  | _ :: _, _, 0, _, _, _, _, _, h3 => by omega
/-- Two parts share no block. -/
theorem Sep.apart (i j : Nat) (hij : i < j) {A C : Asn} (h : Sep w0 w As) (hi : As[i]? = some A) (hj : As[j]? = some C) : ∃ F G, A.on w F ∧ C.on w G ∧ ∀ b, b ∈ F → b ∉ G := by
  obtain ⟨_, Fs, h3, h4, _⟩ := h
  obtain ⟨F, f1, f2⟩ := h3.nth hi
  obtain ⟨G, g1, g2⟩ := h3.nth hj
  exact ⟨F, G, f2, g2, nodup_apart h4 f1 g1 hij⟩
theorem Sep.sl_ne (i j : Nat) (hij : i < j) {e1 e2 : TypeId} {s1 s2 n1 n2 c1 c2 g1 g2 : Nat} {l1 l2 : List Value} (h : Sep w0 w As)
    (hi : As[i]? = some (.sl e1 s1 (.slice (some ⟨g1, 0, none⟩) n1 c1) n1 l1)) (hj : As[j]? = some (.sl e2 s2 (.slice (some ⟨g2, 0, none⟩) n2 c2) n2 l2)) : g1 ≠ g2 := by
  obtain ⟨F, G, ⟨_, rfl⟩, ⟨_, rfl⟩, hne⟩ := h.apart i j hij hi hj
  intro e
  exact hne g1 (by simp [Value.ownBlock]) (by simp [Value.ownBlock, e])
/-- The cells of a new block. -/
theorem cells_new (w : World) (cs : Array Value) (t : TypeId) (g : Nat) (hg : g = w.heap.size) : ∀ (j : Nat) u, cs.toList[j]? = some u → (w.alloc (.cells cs t)).cell? ((⟨g, 0, none⟩ : Addr).add j) = some u := by
  subst hg
  exact World.news_of_block (fr := (0, 0)) (heap_alloc_new w _)
/-- A slice that is nil. -/
theorem Sep.sl_nil (h : Sep w0 w As) (e : TypeId) (sz : Nat) : Sep w0 w (.sl e sz (.slice none 0 0) 0 [] :: As) := by
  obtain ⟨h1, Fs, h4, h5, h6⟩ := h
  exact ⟨h1, [] :: Fs, ⟨[], Fs, rfl, ⟨World.ownsRow_nil _ _ _ _, rfl⟩, h4⟩, by simpa using h5, by simpa using h6⟩
/-- What an append leaves. -/
theorem Sep.grown {g cap m : Nat} {cs' : List Value} (i : Nat) (h : Sep w0 w As) (hi : As[i]? = some (.sl e sz v n cs))
    (hown : w'.ownsRow 0 e sz (.slice (some ⟨g, 0, none⟩) m cap) m cs') (hgrow : w.grownBy w' v.ownBlock) (hat : v.ownBlock = some g ∨ g = w.heap.size) :
    Sep w0 w' (As.set i (.sl e sz (.slice (some ⟨g, 0, none⟩) m cap) m cs')) := by
  refine h.step i hi fun F ⟨ho, hF⟩ _ => ⟨[g], ⟨hown, rfl⟩, fun b hb => ?_, ?_⟩
  · simp at hb
    subst hb
    rcases hat with hat | hat
    · left; rw [hF, hat]; simp
    · right; omega
  · rw [hF]
    exact Keeps.of_grown hgrow
/-- A slice's head is cut: 's = s[:k]'. -/
theorem Sep.sl_cut {g cap : Nat} (i : Nat) (h : Sep w0 w As) (hi : As[i]? = some (.sl e sz (.slice (some ⟨g, 0, none⟩) n cap) n cs)) (k : Nat) (hk : k ≤ n) :
    Sep w0 w (As.set i (.sl e sz (.slice (some ⟨g, 0, none⟩) k cap) k (cs.take (k * sz)))) := by
  refine h.step i hi fun F ⟨ho, hF⟩ _ => ⟨F, ⟨⟨?_, ?_⟩, by rw [hF]; rfl⟩, fun b hb => .inl hb, Keeps.refl _ _⟩
  · rw [List.length_take, ho.1]
    exact Nat.min_eq_left (Nat.mul_le_mul_right _ hk)
  · rcases ho.2 with ⟨h', _⟩ | ⟨g', cap', cur, h', hb, hg, hc, hm, hs, ht⟩
    · simp at h'
    · simp only [Value.slice.injEq, Option.some.injEq, Addr.mk.injEq, and_true, true_and] at h'
      obtain ⟨rfl, rfl⟩ := h'
      refine .inr ⟨g, cap, cur, rfl, hb, hg, by omega, hm, hs, ?_⟩
      rw [← ht, List.take_take, Nat.min_eq_left (Nat.mul_le_mul_right _ hk)]
end

section
variable {P : Program} {w0 w : World} {As : List Asn} {ops : Array Oper} {rest : List Oper} {o : Oper} {a : Act} {Q : Exit → Act → World → Prop}

/-- append to a part of the state. -/
theorem wpList_append_sep (k : Nat) (hgd : o.guard = none) (s x : Operand) (t : TypeId)
    (ho : o.op = .call { callee := .builtin .append, args := #[s, x], argTypes := #[t, t] })
    (e : TypeId) (i : TypeInfo) (z : Value) (size bytes : Nat) (ht : P.underlying t = some (.slice e)) (hi : P.info? e = some i) (hz : i.zero = some z)
    (hsize : i.size = size) (hby : i.bytes = bytes) (hzs : z.cells.size = size) (hsz : 0 < size)
    (hS : Sep w0 w As) (v : Value) (n : Nat) (cs : List Value) (hk : As[k]? = some (.sl e size v n cs)) (hs : a.eval s = v)
    (ad : Addr) (m c : Nat) (news : List Value) (hx : a.eval x = .slice (some ad) m c) (hl : news.length = m * size) (hnews : ∀ j u, news[j]? = some u → w.cell? (ad.add j) = some u) (h1 : ∀ u ∈ news, u.oneCell' = true)
    (hm : 0 < m) (h63 : n + m ≤ maxLen) (hbytes : (n + m) * bytes ≤ 140737488355328)
    (h : ∀ g cap w', Sep w0 w' (As.set k (.sl e size (.slice (some ⟨g, 0, none⟩) (n + m) cap) (n + m) (cs ++ news))) → w.heap.size ≤ w'.heap.size → wpList P ops Q rest (a.put o.dst (.slice (some ⟨g, 0, none⟩) (n + m) cap)) w') :
    wpList P ops Q (o :: rest) a w := by
  obtain ⟨F, ⟨hown, hF⟩, _⟩ := hS.get k hk
  exact wpList_append_lies w hgd s x t ho 0 e i z size bytes ht hi hz hsize hby hzs hsz v n cs hs hown ad m c news hx hl hnews h1 hm h63 hbytes (Nat.zero_le _) _ rfl
    fun g cap w' h2 h3 h4 _ => h g cap w' (hS.grown k hk h2 h3 h4) h3.size

/-- The same at a step of a region that draws its order. -/
theorem step_append_sep {K : Act → World → Prop} {E : Prop} (k : Nat) (hgd : o.guard = none) (s x : Operand) (t : TypeId)
    (ho : o.op = .call { callee := .builtin .append, args := #[s, x], argTypes := #[t, t] })
    (e : TypeId) (i : TypeInfo) (z : Value) (size bytes : Nat) (ht : P.underlying t = some (.slice e)) (hi : P.info? e = some i) (hz : i.zero = some z)
    (hsize : i.size = size) (hby : i.bytes = bytes) (hzs : z.cells.size = size) (hsz : 0 < size)
    (hS : Sep w0 w As) (v : Value) (n : Nat) (cs : List Value) (hk : As[k]? = some (.sl e size v n cs)) (hs : a.eval s = v)
    (ad : Addr) (m c : Nat) (news : List Value) (hx : a.eval x = .slice (some ad) m c) (hl : news.length = m * size) (hnews : ∀ j u, news[j]? = some u → w.cell? (ad.add j) = some u) (h1 : ∀ u ∈ news, u.oneCell' = true)
    (hm : 0 < m) (h63 : n + m ≤ maxLen) (hbytes : (n + m) * bytes ≤ 140737488355328)
    (h : ∀ g cap w', Sep w0 w' (As.set k (.sl e size (.slice (some ⟨g, 0, none⟩) (n + m) cap) (n + m) (cs ++ news))) → w.heap.size ≤ w'.heap.size → K (a.put o.dst (.slice (some ⟨g, 0, none⟩) (n + m) cap)) w') :
    if Region.wanted o (yielded ops a.tmps) = true then Oper.wp P o a w K Q else E := by
  obtain ⟨F, ⟨hown, hF⟩, _⟩ := hS.get k hk
  exact step_append_lies w hgd s x t ho 0 e i z size bytes ht hi hz hsize hby hzs hsz v n cs hs hown ad m c news hx hl hnews h1 hm h63 hbytes (Nat.zero_le _) _ rfl
    fun g cap w' h2 h3 h4 _ => h g cap w' (hS.grown k hk h2 h3 h4) h3.size

/-- make([]T, n), T of one cell. -/
theorem wpList_make_sep (hgd : o.guard = none) (l c : Operand) (t : TypeId) (hop : o.op = Op.makeSlice t l c)
    (e : TypeId) (i : TypeInfo) (z : Value) (bytes : Nat) (h1 : P.underlying t = some (.slice e)) (h2 : P.info? e = some i) (h3 : i.zero = some z) (h4 : i.size = 1) (h5 : i.bytes = bytes) (h6 : z.cells = #[z])
    (kl kc : IntKind) (L C : Int) (n : Nat) (hl : a.eval l = .int kl L) (hc : a.eval c = .int kc C) (hL : L = (n : Int)) (hC : C = (n : Int)) (b2 : bytes * n ≤ 281474976710656) (b3 : n ≤ maxLen)
    (hS : Sep w0 w As)
    (hK : ∀ g w', Sep w0 w' (.sl e 1 (.slice (some ⟨g, 0, none⟩) n n) n (List.replicate n z) :: As) → wpList P ops Q rest (a.put o.dst (.slice (some ⟨g, 0, none⟩) n n)) w') :
    wpList P ops Q (o :: rest) a w := by
  refine wpList_make_full w hgd l c t hop 0 e i z 1 h1 h2 h3 h4 kl kc L C n hl hc hL hC (by rw [h5]; exact b2) b3 (Nat.zero_le _) fun w' hown hgrow => hK w.heap.size w' ?_
  rw [h6, Nat.mul_one, toList_madeCells_one] at hown
  exact hS.new (F := [w.heap.size]) (by have := Keeps.of_grown hgrow; exact this.below (Nat.le_refl _) (by simp)) ⟨hown, rfl⟩ (by simp)


/-- make's run, for a region that draws its order (laid ahead of the walk, for every world). -/
theorem run_make_n (t e : TypeId) (i : TypeInfo) (z : Value) (bytes : Nat) (h1 : P.underlying t = some (.slice e)) (h2 : P.info? e = some i) (h3 : i.zero = some z) (h4 : i.size = 1) (h5 : i.bytes = bytes) (h6 : z.cells = #[z])
    (kl kc : IntKind) (n : Nat) (b2 : bytes * n ≤ 281474976710656) (b3 : n ≤ maxLen) (W : World) :
    (Instr.makeSlice t (.int kl (n : Int)) (.int kc (n : Int))).run P W = .ok (.slice (some ⟨W.heap.size, 0, none⟩) n n) (W.alloc (.cells (madeCells #[z] n) e)) := by
  have h63' : (n : Int) ≤ 9223372036854775807 := by
    have h := b3
    simp [maxLen] at h
    omega
  have hb' : (i.bytes : Int) * (n : Int) ≤ 281474976710656 := by
    have h : ((i.bytes * n : Nat) : Int) ≤ 281474976710656 := by rw [h5]; omega
    rwa [Int.natCast_mul] at h
  have hr := run_make (P := P) W t e i z h1 h2 h3 kl kc n n (by omega) (Int.le_refl _) hb' h63'
  simpa [h4, h6] using hr
theorem Sep.made (h : Sep w0 w As) (e : TypeId) (z : Value) (n : Nat) (b3 : n ≤ maxLen) : Sep w0 (w.alloc (.cells (madeCells #[z] n) e)) (.sl e 1 (.slice (some ⟨w.heap.size, 0, none⟩) n n) n (List.replicate n z) :: As) := by
  have hown := World.ownsRow_lit (base := 0) (e := e) (size := 1) w (madeCells #[z] n) n (Nat.zero_le _) b3 (by rw [size_madeCells, Nat.mul_one])
  rw [toList_madeCells_one] at hown
  exact h.new (F := [w.heap.size]) ((Below.refl _ _).alloc (Nat.le_refl _) _) ⟨hown, rfl⟩ (by simp)
end
end Go.Proofs.YtahkpkaodeeemaaGreat

namespace Go.Proofs.YtahkpkaodeeemaaGreat
open Go.RowKit

def intsR (v : Value) (xs : List Int) : Asn := .sl 3 1 v xs.length (xs.map (.int .i64))
def boolsR (v : Value) (xs : List Bool) : Asn := .sl 4 1 v xs.length (xs.map .bool)
/-- A slice of one-cell elements, each with a part of its own behind it. -/
def Asn.list {α : Type} (e : TypeId) (One : Value → α → Asn) (v : Value) (xs : List α) : Asn :=
  .ex fun vs : List Value => .star (.pure (vs.length = xs.length)) (.star (.sl e 1 v xs.length vs) (.starL (List.zipWith One vs xs)))
def rowsR (v : Value) (xss : List (List Int)) : Asn := .list 27 intsR v xss

section
variable {w0 w w' : World} {As R : List Asn} {α : Type} {e : TypeId} {One : Value → α → Asn} {v : Value} {xs : List α}

theorem sl_rd {w : World} {F : List Nat} {e : TypeId} {sz n : Nat} {v : Value} {cs : List Value} (h : (Asn.sl e sz v n cs).on w F) : Rd w sz v n cs := by
  obtain ⟨ho, _⟩ := h
  refine ⟨ho.1, ?_⟩
  rcases ho.2 with ⟨rfl, rfl⟩ | ⟨g, cap, cur, rfl, _, hg, hc, hm, _⟩
  · exact ⟨none, 0, rfl, Nat.le_refl _, by simp [maxLen], fun h => absurd h (Nat.lt_irrefl _)⟩
  · exact ⟨_, cap, rfl, hc, hm, fun _ => ⟨_, rfl, lt_of_heap hg, ho.cells (g := g) rfl⟩⟩
theorem intsR_at {w : World} {F : List Nat} {v : Value} {xs : List Int} (h : (intsR v xs).on w F) : IntsAt w v xs := sl_rd h
theorem boolsR_at {w : World} {F : List Nat} {v : Value} {xs : List Bool} (h : (boolsR v xs).on w F) : BoolsAt w v xs := sl_rd h
theorem starL_get {w : World} : ∀ {As : List Asn} {F : List Nat} {k : Nat} {A : Asn}, (Asn.starL As).on w F → As[k]? = some A → ∃ G, A.on w G
  | [], _, _, _, _, h => by simp at h
  | B :: As, F, 0, A, hf, h => by
    obtain ⟨_, F1, F2, _, h1, _⟩ := hf
    simp at h
    subst h
    exact ⟨F1, h1⟩
  | B :: As, F, k + 1, A, hf, h => by
    obtain ⟨_, F1, F2, _, _, h2⟩ := hf
    exact starL_get h2 (by simpa using h)
theorem list_at {w : World} {F : List Nat} {At : World → Value → α → Prop} (hone : ∀ u x G, (One u x).on w G → At w u x) (h : (Asn.list e One v xs).on w F) : ListAt At w v xs := by
  obtain ⟨vs, _, _, _, _, ⟨hlen, _⟩, _, F1, F2, _, h1, h2⟩ := h
  refine ⟨vs, sl_rd h1, fun k u x hu hx => ?_⟩
  obtain ⟨G, hg⟩ := starL_get h2 (k := k) (A := One u x) (by rw [List.getElem?_zipWith, hu, hx])
  exact hone u x G hg
theorem rowsR_at {w : World} {F : List Nat} {v : Value} {xss : List (List Int)} (h : (rowsR v xss).on w F) : RowsAt w v xss := list_at (fun _ _ _ => intsR_at) h

theorem Sep.ints (i : Nat) {v : Value} {xs : List Int} (h : Sep w0 w As) (hi : As[i]? = some (intsR v xs)) : IntsAt w v xs := by
  obtain ⟨F, ho, _⟩ := h.get i hi
  exact intsR_at ho
theorem Sep.bools (i : Nat) {v : Value} {xs : List Bool} (h : Sep w0 w As) (hi : As[i]? = some (boolsR v xs)) : BoolsAt w v xs := by
  obtain ⟨F, ho, _⟩ := h.get i hi
  exact boolsR_at ho
theorem Sep.rows (i : Nat) {v : Value} {xss : List (List Int)} (h : Sep w0 w As) (hi : As[i]? = some (rowsR v xss)) : RowsAt w v xss := by
  obtain ⟨F, ho, _⟩ := h.get i hi
  exact rowsR_at ho

theorem Sep.list_open (h : Sep w0 w (Asn.list e One v xs :: R)) : ∃ vs : List Value, vs.length = xs.length ∧ Sep w0 w (.sl e 1 v xs.length vs :: (List.zipWith One vs xs ++ R)) := by
  obtain ⟨vs, h⟩ := h.ex_open
  obtain ⟨hl, h⟩ := h.star_open.pure_open
  have h2 := h.star_open
  exact ⟨vs, hl, (h2.perm (List.Perm.swap _ _ _)).starL_open.perm List.perm_middle⟩
theorem Sep.list_shut {vs : List Value} (hl : vs.length = xs.length) (h : Sep w0 w (.sl e 1 v xs.length vs :: (List.zipWith One vs xs ++ R))) : Sep w0 w (Asn.list e One v xs :: R) := by
  have h1 : Sep w0 w (List.zipWith One vs xs ++ (.sl e 1 v xs.length vs :: R)) := h.perm List.perm_middle.symm
  have h2 := (h1.starL_shut.perm (List.Perm.swap _ _ _)).star_shut
  exact Sep.ex_shut vs (Sep.star_shut (h2.pure_shut hl))
theorem Sep.list_nil (h : Sep w0 w R) (e : TypeId) (One : Value → α → Asn) : Sep w0 w (Asn.list e One (.slice none 0 0) [] :: R) :=
  Sep.list_shut (vs := []) rfl (by simpa using h.sl_nil e 1)
/-- One more element, with the part behind it. -/
theorem Sep.list_push {vs : List Value} {u : Value} {x : α} (hl : vs.length = xs.length) (h : Sep w0 w (.sl e 1 v (xs.length + 1) (vs ++ [u]) :: (List.zipWith One vs xs ++ (One u x :: R)))) :
    Sep w0 w (Asn.list e One v (xs ++ [x]) :: R) := by
  refine Sep.list_shut (vs := vs ++ [u]) (by simp [hl]) ?_
  rw [List.zipWith_append hl]
  simpa using h
theorem zip_at {β : Type} {f : Value → α → β} {vs : List Value} {xs : List α} (hl : vs.length = xs.length) {k : Nat} (hk : k < xs.length) (R : List β) :
    (List.zipWith f vs xs ++ R)[k]? = some (f (vs[k]'(by omega)) xs[k]) := by
  rw [List.getElem?_append_left (by simp [hl, hk]), List.getElem?_zipWith]
  simp [hk, hl]
theorem zip_some {β : Type} {f : Value → α → β} {vs : List Value} {xs : List α} {k : Nat} {v : Value} {x : α} (hv : vs[k]? = some v) (hx : xs[k]? = some x) : (List.zipWith f vs xs)[k]? = some (f v x) := by
  rw [List.getElem?_zipWith, hv, hx]
theorem zip_set {β : Type} {f : Value → α → β} : ∀ (vs : List Value) (xs : List α) (k : Nat) (u : Value) (x : α), List.zipWith f (vs.set k u) (xs.set k x) = (List.zipWith f vs xs).set k (f u x)
  | [], _, _, _, _ => by simp
  | _ :: _, [], _, _, _ => by simp
  | _ :: _, _ :: _, 0, _, _ => by simp
  | a :: vs, b :: xs, k + 1, u, x => by simp [zip_set vs xs k u x]
/-- One element is turned, its part too. -/
theorem Sep.list_set {vs : List Value} {u : Value} {x : α} {k : Nat} (hl : vs.length = xs.length) (hk : k < xs.length) (h : Sep w0 w (.sl e 1 v xs.length (vs.set k u) :: (List.zipWith One vs xs ++ R).set k (One u x))) :
    Sep w0 w (Asn.list e One v (xs.set k x) :: R) := by
  refine Sep.list_shut (vs := vs.set k u) (by simp [hl]) ?_
  rw [List.set_append_left _ _ (by simp [hl, hk])] at h
  rw [zip_set]
  simpa using h

theorem intsR_nil (h : Sep w0 w R) : Sep w0 w (intsR (.slice none 0 0) [] :: R) := h.sl_nil _ _
theorem boolsR_nil (h : Sep w0 w R) : Sep w0 w (boolsR (.slice none 0 0) [] :: R) := h.sl_nil _ _
theorem Sep.snoc_sl_nil (h : Sep w0 w As) (e : TypeId) (sz : Nat) : Sep w0 w (As ++ [.sl e sz (.slice none 0 0) 0 []]) := (h.sl_nil e sz).perm (List.perm_append_singleton _ _).symm
/-- So many rows that are nil. -/
theorem Sep.nils (h : Sep w0 w As) (m : Nat) : Sep w0 w (As ++ List.zipWith intsR (List.replicate m (.slice none 0 0)) (List.replicate m [])) := by
  induction m with
  | zero => simpa using h
  | succ m ih =>
    have h1 := ih.snoc_sl_nil 3 1
    rw [List.append_assoc] at h1
    have e : List.zipWith intsR (List.replicate (m + 1) (.slice none 0 0)) (List.replicate (m + 1) []) = List.zipWith intsR (List.replicate m (.slice none 0 0)) (List.replicate m []) ++ [.sl 3 1 (.slice none 0 0) 0 []] := by
      rw [List.replicate_succ', List.replicate_succ', List.zipWith_append (by simp)]
      rfl
    rw [e]
    exact h1
end
end Go.Proofs.YtahkpkaodeeemaaGreat
