/- ModelLook, ModelAt, laid together. -/
import Derived.Test.YtahkpkaodeeemaaGreatJ21
import Derived.Laws.RangeString
import Derived.Laws.ResultCell
import Derived.Handy
namespace Go.Proofs.YtahkpkaodeeemaaGreat
open Go.RowKit
set_option linter.unusedVariables false

def Ascii (p : List UInt8) : Prop := ∀ b ∈ p, b.toNat < 128
def nodeAt (Ns : List NEnt) (p : List UInt8) : Value := (getM (nodesL Ns) (.string p)).getD (.agg #[.int .i64 0, .int .i64 0])
def nodeHas (Ns : List NEnt) (p : List UInt8) : Bool := (getM (nodesL Ns) (.string p)).isSome

theorem run_load_node {w : World} {b : Nat} {x y : Value} (h0 : w.cell? ⟨b, 0, none⟩ = some x) (h1 : w.cell? ⟨b, 1, none⟩ = some y) : (loadVar 110 ⟨b, 0, none⟩).run Tryz.prog w = .ok (.agg #[x, y]) w := by
  simp [loadVar, go_sem, h0, h1]
theorem node_results3 {fn : Func} {p u v : Tmp} (h : fn.results = #[.cell p 110, .tmp u, .tmp v]) {tmps : Array Value} {w : World} {b : Nat} {x y : Value} (hp : tmps.getD p undef = .pointer (some ⟨b, 0, none⟩)) (h0 : w.cell? ⟨b, 0, none⟩ = some x) (h1 : w.cell? ⟨b, 1, none⟩ = some y) :
    (results fn tmps).run Tryz.prog w = .ok (.tuple #[.agg #[x, y], tmps.getD u undef, tmps.getD v undef]) w := by
  have hp2 : tmps[p]?.getD undef = .pointer (some ⟨b, 0, none⟩) := by simpa using hp
  simp only [results, h]
  simp [Result.andThen, hp2, asAddr, run_load_node h0 h1]
theorem node_results2 {fn : Func} {p u : Tmp} (h : fn.results = #[.cell p 110, .tmp u]) {tmps : Array Value} {w : World} {b : Nat} {x y : Value} (hp : tmps.getD p undef = .pointer (some ⟨b, 0, none⟩)) (h0 : w.cell? ⟨b, 0, none⟩ = some x) (h1 : w.cell? ⟨b, 1, none⟩ = some y) :
    (results fn tmps).run Tryz.prog w = .ok (.tuple #[.agg #[x, y], tmps.getD u undef]) w := by
  have hp2 : tmps[p]?.getD undef = .pointer (some ⟨b, 0, none⟩) := by simpa using hp
  simp only [results, h]
  simp [Result.andThen, hp2, asAddr, run_load_node h0 h1]
theorem nodeAt_shape (Ns : List NEnt) (p : List UInt8) : ∃ id : Nat, nodeAt Ns p = .agg #[.int .i64 id, .int .i64 0] := by
  unfold nodeAt
  cases h : getM (nodesL Ns) (.string p) with
  | none => exact ⟨0, rfl⟩
  | some v =>
    have := getM_some h
    unfold nodesL at this
    obtain ⟨n, _, hn⟩ := List.mem_map.1 this
    cases hn
    exact ⟨n.id, rfl⟩
set_option maxRecDepth 100000 in
theorem look_any {w0 w : World} {W bn bf bk next : Nat} {Ns : List NEnt} {Fs : List FEnt} {Lk : List (Lit × Value)} {R : List Asn} (hS : Sep w0 w (wAs W bn bf bk next Ns Fs Lk R)) {p : List UInt8} (hp : RootName p) (ha : Ascii p) :
    Calls Tryz.prog 114 #[.pointer (some ⟨W, 0, none⟩), strV p] w fun e w' => e = .returned (.tuple #[nodeAt Ns p, .bool (nodeHas Ns p), .int .i64 0]) ∧ Sep w0 w' (wAs W bn bf bk next Ns Fs Lk R) := by
  have hS' := Lib.hid hS
  have hp' := Lib.hid hp
  have ha' := Lib.hid ha
  clear hS hp ha
  unfold strV
  go_enter Tryz.func114, Tryz.ntmps114
  go_wp2_with fail
  obtain ⟨v, hv⟩ : ∃ v, w.alloc (Obj.cells #[Value.int .i64 0, Value.int .i64 0] 110) = v := ⟨_, rfl⟩
  have hS1 := hS'.out.box_new 110 #[.int .i64 0, .int .i64 0]
  have hsz : v.heap.size = w.heap.size + 1 := by rw [← hv]; simp
  rw [hv] at hS1 ⊢
  rw [← hsz]
  have hS1' := Lib.hid hS1
  have hsz' := Lib.hid hsz
  clear hS1 hS' hv hsz
  go_loopg [5, 6] p.length (fun g i5 i6 wr => ∃ pos, pos ≤ p.length ∧ Hid (g = p.length - pos) ∧ i5 = .bool false ∧ i6 = .int .i64 0 ∧ wr = v.iter ⟨p.toArray⟩ pos)
  case atStart => exact ⟨0, Nat.zero_le _, rfl, rfl, rfl, rfl⟩
  case round =>
    obtain ⟨pos, hpos, hg, rfl, rfl, rfl⟩ := hrel
    by_cases hlt : pos < p.length
    · have hlt2 : pos < (⟨p.toArray⟩ : ByteArray).size := hlt
      have hb : ((⟨p.toArray⟩ : ByteArray)[pos]'hlt2) = p[pos] := rfl
      have hm : p[pos] ∈ p := List.getElem_mem hlt
      have hnx := run_next_ascii (P := Tryz.prog) v ⟨p.toArray⟩ pos 0 hlt2 (by rw [hb]; exact ha'.out _ hm)
      rw [hb] at hnx
      have hne : p[pos].toNat ≠ 47 := fun e => hp'.out.flat (by
        have : p[pos] = 47 := UInt8.toNat_inj.1 (by rw [e]; rfl)
        rw [← this]; exact hm)
      have hne2 : ¬ ((p[pos].toNat : Int) = 47) := by omega
      generalize p[pos].toNat = c at hnx hne2
      have hg' := Lib.hid hg
      clear hb hm hne hg
      go_wp2_with fail
      go_roundg (p.length - (pos + 1))
      case rel => exact ⟨pos + 1, by omega, rfl, rfl, rfl, rfl⟩
      case measure => rw [hg'.out]; omega
    · have hlt2 : ¬ pos < (⟨p.toArray⟩ : ByteArray).size := hlt
      have hnx := run_next_end (P := Tryz.prog) v ⟨p.toArray⟩ pos 0 hlt2
      have hS2 : Sep w0 (v.iter ⟨p.toArray⟩ pos) (.box w.heap.size 110 #[.int .i64 0, .int .i64 0] :: wAs W bn bf bk next Ns Fs Lk R) := hS1'.out.alloc (.stringIter ⟨p.toArray⟩ pos)
      have f0 := hS2.box_cell 1 rfl 0
      simp only [worldCells, List.getElem?_toArray, List.getElem?_cons_zero] at f0
      have hlk := hS2.gm_ok 2 rfl keyed_str Tryz.underlying105 (zero_node _) (keyOf_strV p (by have := hp'.out.short; unfold maxLen; omega))
      unfold strV at hlk
      rw [show (getM (nodesL Ns) (.string p)).getD (.agg #[.int .i64 0, .int .i64 0]) = nodeAt Ns p from rfl, show (getM (nodesL Ns) (.string p)).isSome = nodeHas Ns p from rfl] at hlk
      obtain ⟨hb, hhb⟩ : ∃ hb, nodeHas Ns p = hb := ⟨_, rfl⟩
      rw [hhb] at hlk
      obtain ⟨id, hid⟩ := nodeAt_shape Ns p
      rw [hid] at hlk
      have hS3 := hS2.box_new 110 #[.int .i64 id, .int .i64 0]
      have c0 := hS3.box_cell 1 rfl 0
      have c1 := hS3.box_cell 1 rfl 1
      simp only [List.getElem?_toArray, List.getElem?_cons_zero, List.getElem?_cons_succ] at c0 c1
      have z0 := hS3.box_frozen 1 rfl 0
      have z1 := hS3.box_frozen 1 rfl 1
      have hS3' := Lib.hid hS3
      generalize hv2 : v.iter ⟨p.toArray⟩ pos = v2 at hnx hS3' f0 hlk c0 c1 z0 z1 ⊢
      have hid' := Lib.hid hid
      have hhb' := Lib.hid hhb
      clear hS3 hS2 hS1' hv2 hg hid hhb
      go_wp2_with fail
      have hS4 := (hS3'.out.box_stored 1 rfl 0 (.int .i64 id)).box_stored 1 rfl 1 (.int .i64 0)
      have y0 := hS4.box_cell 1 rfl 0
      have y1 := hS4.box_cell 1 rfl 1
      refine bodyPost_ret (node_results3 rfl rfl y0 y1) rfl ?_
      refine ⟨by rw [hid'.out, hhb'.out]; rfl, ?_⟩
      exact Sep.drop 2 hS4
end Go.Proofs.YtahkpkaodeeemaaGreat

namespace Go.Proofs.YtahkpkaodeeemaaGreat
open Go.RowKit
set_option linter.unusedVariables false

section
variable {w0 w : World} {W bn bf bk next : Nat} {Ns : List NEnt} {Fs : List FEnt} {Lk : List (Lit × Value)} {R : List Asn}
theorem wAs_app (S : List Asn) : wAs W bn bf bk next Ns Fs Lk (R ++ S) = wAs W bn bf bk next Ns Fs Lk R ++ S := by simp [wAs]
theorem wAs_push {X : Asn} (h : Sep w0 w (X :: wAs W bn bf bk next Ns Fs Lk R)) : Sep w0 w (wAs W bn bf bk next Ns Fs Lk (R ++ [X])) := by
  rw [wAs_app]
  exact h.perm (List.perm_append_singleton _ _).symm
theorem wAs_pop {X : Asn} (h : Sep w0 w (wAs W bn bf bk next Ns Fs Lk (R ++ [X]))) : Sep w0 w (X :: wAs W bn bf bk next Ns Fs Lk R) := by
  rw [wAs_app] at h
  exact h.perm (List.perm_append_singleton _ _)
theorem absent_any (hS : Sep w0 w (wAs W bn bf bk next Ns Fs Lk R)) {p : List UInt8} (hp : RootName p) (ha : Ascii p) (hn : nodeHas Ns p = false) :
    Calls Tryz.prog 97 #[.pointer (some ⟨W, 0, none⟩), strV p] w fun e w' => e = .returned (.int .i64 0) ∧ Sep w0 w' (wAs W bn bf bk next Ns Fs Lk R) := by
  have hlk := Lib.hid (look_any hS hp ha)
  obtain ⟨id, hid⟩ := nodeAt_shape Ns p
  rw [hid, hn] at hlk
  unfold strV at *
  clear hS hp ha hn hid
  go_enter Tryz.func97, Tryz.ntmps97
  go_wp2_with (first
    | (go_at_call 114; refine hlk.out.mono ?_; rintro e w1 ⟨rfl, hS1⟩; replace hS1 := Lib.hid hS1)
    | fail)
  go_ret
  exact ⟨rfl, Sep.drop 1 (hS1.out.box_new 110 #[.int .i64 id, .int .i64 0])⟩
theorem present_any (hS : Sep w0 w (wAs W bn bf bk next Ns Fs Lk R)) {p : List UInt8} (hp : RootName p) (ha : Ascii p) (hn : nodeHas Ns p = true) :
    Calls Tryz.prog 110 #[.pointer (some ⟨W, 0, none⟩), strV p] w fun e w' => e = .returned (.tuple #[nodeAt Ns p, .int .i64 0]) ∧ Sep w0 w' (wAs W bn bf bk next Ns Fs Lk R) := by
  have hS0 := hS.box_new 110 #[.int .i64 0, .int .i64 0]
  have hlk := Lib.hid (look_any (R := R ++ [.box w.heap.size 110 #[.int .i64 0, .int .i64 0]]) (wAs_push hS0) hp ha)
  obtain ⟨id, hid⟩ := nodeAt_shape Ns p
  rw [hid] at hlk ⊢
  rw [hn] at hlk
  unfold strV at *
  clear hS hS0 hp ha hn hid
  go_enter Tryz.func110, Tryz.ntmps110
  go_wp2_with (first
    | (go_at_call 114; refine hlk.out.mono ?_; rintro e w1 ⟨rfl, hS1⟩; (have hS2 := (wAs_pop hS1).box_new 110 #[.int .i64 id, .int .i64 0]); (have c0 := hS2.box_cell 1 rfl 0); (have c1 := hS2.box_cell 1 rfl 1); (have z0 := hS2.box_frozen 1 rfl 0); (have z1 := hS2.box_frozen 1 rfl 1); simp only [List.getElem?_toArray, List.getElem?_cons_zero, List.getElem?_cons_succ] at c0 c1; replace hS2 := Lib.hid hS2; clear hS1)
    | fail)
  have hS3 := (hS2.out.box_stored 1 rfl 0 (.int .i64 id)).box_stored 1 rfl 1 (.int .i64 0)
  have y0 := hS3.box_cell 1 rfl 0
  have y1 := hS3.box_cell 1 rfl 1
  refine bodyPost_ret (node_results2 rfl rfl y0 y1) rfl ?_
  exact ⟨rfl, Sep.drop 2 hS3⟩
theorem fileAt_any (hS : Sep w0 w (wAs W bn bf bk next Ns Fs Lk R)) {p : List UInt8} (hp : RootName p) (ha : Ascii p) (hn : nodeHas Ns p = true) :
    Calls Tryz.prog 96 #[.pointer (some ⟨W, 0, none⟩), strV p] w fun e w' => e = .returned (.tuple #[nodeAt Ns p, .int .i64 0]) ∧ Sep w0 w' (wAs W bn bf bk next Ns Fs Lk R) := by
  have hS0 := hS.box_new 110 #[.int .i64 0, .int .i64 0]
  have hlk := Lib.hid (present_any (R := R ++ [.box w.heap.size 110 #[.int .i64 0, .int .i64 0]]) (wAs_push hS0) hp ha hn)
  obtain ⟨id, hid⟩ := nodeAt_shape Ns p
  rw [hid] at hlk ⊢
  have q0 : (0 : Int) ≤ (id : Int) := by omega
  unfold strV at *
  clear hS hS0 hp ha hn hid
  go_enter Tryz.func96, Tryz.ntmps96
  go_wp2_with (first
    | (go_at_call 110; refine hlk.out.mono ?_; rintro e w1 ⟨rfl, hS1⟩; (have hS2 := (wAs_pop hS1).box_new 110 #[.int .i64 id, .int .i64 0]); (have c0 := hS2.box_cell 1 rfl 0); (have c1 := hS2.box_cell 1 rfl 1); (have z0 := hS2.box_frozen 1 rfl 0); (have z1 := hS2.box_frozen 1 rfl 1); simp only [List.getElem?_toArray, List.getElem?_cons_zero, List.getElem?_cons_succ] at c0 c1; replace hS2 := Lib.hid hS2; clear hS1)
    | fail)
  have hS3 := (hS2.out.box_stored 1 rfl 0 (.int .i64 id)).box_stored 1 rfl 1 (.int .i64 0)
  have y0 := hS3.box_cell 1 rfl 0
  have y1 := hS3.box_cell 1 rfl 1
  refine bodyPost_ret (node_results2 rfl rfl y0 y1) rfl ?_
  exact ⟨rfl, Sep.drop 2 hS3⟩
end
end Go.Proofs.YtahkpkaodeeemaaGreat
