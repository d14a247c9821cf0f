/- SortS, laid together. -/
import Derived.Test.YtahkpkaodeeemaaGreatJ24
import Derived.Test.YtahkpkaodeeemaaGreatJ26
import Derived.Sort.EncStr
namespace Go.Proofs.YtahkpkaodeeemaaGreat
open Go.RowKit
set_option linter.unusedVariables false

theorem bl_lt : ∀ (x y : List UInt8), Op.bytesLess x y = true ↔ x < y
  | [], [] => by simp [Op.bytesLess]
  | [], _ :: _ => by simp [Op.bytesLess]
  | _ :: _, [] => by simp [Op.bytesLess]
  | a :: x, b :: y => by
    unfold Op.bytesLess
    rw [List.cons_lt_cons_iff, ← bl_lt x y]
    simp
def strsR (v : Value) (ps : List (List UInt8)) : Asn := .sl 9 1 v ps.length (ps.map strV)
def sortS (ps : List (List UInt8)) : List (List UInt8) := ps.mergeSort fun x y => decide (x ≤ y)
theorem sortS_perm (ps : List (List UInt8)) : (sortS ps).Perm ps := List.mergeSort_perm _ _
theorem sortS_le (ps : List (List UInt8)) : (sortS ps).Pairwise fun x y => x ≤ y := by
  have h := List.pairwise_mergeSort (le := fun (x y : List UInt8) => decide (x ≤ y)) (fun a b c h1 h2 => by simp only [decide_eq_true_eq] at h1 h2 ⊢; exact List.le_trans h1 h2) (fun a b => by simp only [Bool.or_eq_true, decide_eq_true_eq]; exact List.le_total a b) ps
  exact h.imp fun h => by simpa using h
theorem sortS_less {ps : List (List UInt8)} (h : ps.Nodup) : (sortS ps).Pairwise fun x y => Op.bytesLess x y = true := by
  have h1 := sortS_le ps
  have h2 : (sortS ps).Nodup := (sortS_perm ps).nodup_iff.2 h
  refine (h1.and h2).imp fun {a b} ⟨h3, h4⟩ => ?_
  rw [bl_lt]
  rcases List.le_total b a with h5 | h5
  · exact absurd (List.le_antisymm h3 h5) h4
  · rcases Classical.em (b ≤ a) with h6 | h6
    · exact absurd (List.le_antisymm h3 h6) h4
    · exact List.not_le.1 h6
theorem strs_holds {w0 w : World} {As : List Asn} {g n c : Nat} {ps : List (List UInt8)} (k : Nat) (h : Sep w0 w As) (hk : As[k]? = some (.sl 9 1 (.slice (some ⟨g, 0, none⟩) n c) n (ps.map strV))) (hn : ps.length = n) : Go.Sort.Holds Go.Proofs.encStr w g 0 ps.toArray := fun j hj => by
  have hj' : j < ps.length := by simpa using hj
  rw [Nat.zero_add]
  refine ⟨?_, h.frozenAt k hk j⟩
  rw [h.cellAt k hk j (by omega), getElem!_pos _ j hj]
  simp [hj']
  rfl
theorem sortstrs_any {w0 w : World} {As : List Asn} {v : Value} {ps : List (List UInt8)} (k : Nat) (h : Sep w0 w As) (hk : As[k]? = some (strsR v ps)) (hl : ps.length ≤ 1048576) :
    Calls Tryz.prog 59 #[v] w fun e w' => e = .returned (.tuple #[]) ∧ Sep w0 w' (As.set k (strsR v (sortS ps))) := by
  have hlen : (sortS ps).length = ps.length := (sortS_perm ps).length_eq
  rcases Nat.eq_zero_or_pos ps.length with h0 | hpos
  · obtain rfl : ps = [] := List.eq_nil_of_length_eq_zero h0
    obtain ⟨A, c, rfl, _⟩ := (h.rd k hk).shape
    have hcon := Go.Proofs.AnyM.slices_Sort_string_none Go.Proofs.Tryz.sortStrings A c w
    change Calls Tryz.prog 59 _ _ _ at hcon
    refine hcon.mono ?_
    rintro e w' ⟨rfl, rfl⟩
    refine ⟨rfl, ?_⟩
    obtain ⟨hlt, e⟩ := List.getElem?_eq_some_iff.1 hk
    have e2 : sortS [] = [] := List.eq_nil_of_length_eq_zero (by rw [hlen]; rfl)
    rw [e2, ← e, List.set_getElem_self]
    exact h
  obtain ⟨g, c, rfl, _, hg, _⟩ := h.sl_form k hk hpos
  have hH := strs_holds k h hk rfl
  have hcon := Go.Proofs.AnyM.slices_Sort_string Go.Proofs.Tryz.sortStrings g 0 c ps w hH hg (by omega)
  change Calls Tryz.prog 59 _ _ _ at hcon
  refine hcon.mono ?_
  rintro e w' ⟨rfl, n, os, rfl⟩
  refine ⟨rfl, ?_⟩
  have hS := h.sorted (α := List UInt8) Go.Proofs.encStr k hk n (sortS ps).toArray (by simpa using hlen) os
  have e1 : strsR (.slice (some ⟨g, 0, none⟩) ps.length c) (sortS ps) = .sl 9 1 (.slice (some ⟨g, 0, none⟩) ps.length c) ps.length ((sortS ps).toArray.toList.map Go.Proofs.encStr) := by
    unfold strsR
    rw [hlen]
    rfl
  rw [e1]
  exact hS

/-! What parts of the state tell, kept as one part. -/
def Asn.keep (P : World → Prop) : Asn :=
  ⟨fun w F => F.Nodup ∧ (∀ b, b ∈ F → b < w.heap.size) ∧ ∀ w', (∀ b, b ∈ F → w'.heap[b]? = w.heap[b]?) → P w',
   fun w w' F ⟨h1, h2, h3⟩ hk => ⟨h1, fun b hb => by
     have h4 := hk b hb
     rw [Array.getElem?_eq_getElem (h2 b hb)] at h4
     exact (Array.getElem?_eq_some_iff.1 h4).1, fun w'' h4 => h3 w'' fun b hb => (h4 b hb).trans (hk b hb)⟩,
   fun w F ⟨h1, h2, _⟩ => ⟨h1, h2⟩⟩
section
variable {w0 w w' : World} {As X Y : List Asn}
theorem Sep.bare (h : Sep w0 w As) : Sep { w with heap := #[] } w As := by
  obtain ⟨h1, Fs, h2, h3, h4⟩ := h
  exact ⟨⟨rfl, rfl, rfl, by simp, fun j hj => by simp at hj⟩, Fs, h2, h3, fun b hb => by simp⟩
theorem Foots.sep {Fs : List (List Nat)} (h : Foots w As Fs) (hn : Fs.flatten.Nodup) : Sep { w with heap := #[] } w As :=
  ⟨⟨rfl, rfl, rfl, by simp, fun j hj => by simp at hj⟩, Fs, h, hn, fun b hb => by simp⟩
theorem Sep.keep {P : World → Prop} (h : Sep w0 w (X ++ Y)) (hP : ∀ w0' w', Sep w0' w' X → P w') : Sep w0 w (Asn.keep P :: Y) := h.same fun Fs hf hn => by
  obtain ⟨Gs, Hs, rfl, h6, h7⟩ := Foots.append.1 hf
  rw [List.flatten_append] at hn
  refine ⟨Gs.flatten :: Hs, ⟨Gs.flatten, Hs, rfl, ⟨(List.nodup_append.1 hn).1, fun b hb => Foots.lt h6 b hb, fun w' hw' => hP _ w' ((Foots.loc h6 hw').sep (List.nodup_append.1 hn).1)⟩, h7⟩, by simpa using hn, fun b hb => by simpa using hb⟩
theorem Sep.kept {P : World → Prop} (i : Nat) (h : Sep w0 w As) (hi : As[i]? = some (Asn.keep P)) : P w := by
  obtain ⟨F, ⟨_, _, h3⟩, _⟩ := h.get i hi
  exact h3 w fun _ _ => rfl
end

/-! slices.Clone of bytes. -/
theorem info_byte : (Tryz.prog.info? 5).map (fun i => (i.zero, i.size, i.bytes)) = some (some (.int .u8 0), 1, 1) := by kernel_rfl
set_option maxRecDepth 100000 in
theorem clone_bytes_any {w : World} {v : Value} {n : Nat} (h : DataAt w v n) (hl : n ≤ 1048576) :
    Calls Tryz.prog 60 #[v] w fun e w' => ∃ A c, e = .returned (.slice A n c) ∧ Sep w w' [Asn.keep fun w => DataAt w (.slice A n c) n] := by
  obtain ⟨i0, hinf, hz0, hz1, hz2⟩ := info_parts info_byte
  obtain ⟨cs, hr, h1⟩ := h
  obtain ⟨A, c, rfl, _⟩ := hr.shape
  have h' := Lib.hid hr
  have h1' := Lib.hid h1
  have re := fun (W : World) (a : Option Addr) (n c : Nat) => Lib.run_eql_slice_nil (P := Tryz.prog) W 38 5 a n c 0 0 Tryz.underlying38
  cases A with
  | none =>
    have h0 : n = 0 := by
      rcases Nat.eq_zero_or_pos n with h0 | h0
      · exact h0
      · obtain ⟨_, _, _, e, _⟩ := hr.place h0 (by decide)
        cases e
    clear hr h1
    subst h0
    go_enter Tryz.func60, Tryz.ntmps60
    go_wp2_with fail
    go_ret
    exact ⟨none, 0, rfl, Sep.keep (X := [.sl 5 1 (.slice none 0 0) 0 []]) ((Sep.nil w).sl_nil _ _) fun w0' w' h9 => ⟨[], h9.rd 0 rfl, by simp⟩⟩
  | some ad =>
    clear hr h1
    have hS := Lib.hid ((Sep.nil w).lit_empty 5 1)
    go_enter Tryz.func60, Tryz.ntmps60
    go_wp2_with (first
      | (at_builtin; refine wpList_append_any_sep 0 rfl _ _ 38 rfl 5 i0 (.int .u8 0) 1 1 Tryz.underlying38 hinf hz0 hz1 hz2 rfl (by decide) hS.out _ 0 [] rfl rfl (.slice (some ad) n c) n cs rfl (h'.out.below hS.out.below) h1'.out (by unfold maxLen; omega) (by omega) ?_)
      | fail)
    intro v' w' hS2 hsz
    have hS3 : Sep w w' [.sl 5 1 v' n cs] := by simpa using hS2
    obtain ⟨A2, c2, rfl, _⟩ := (hS3.rd 0 rfl).shape
    have hS3' := Lib.hid hS3
    clear hS2 hS3 hS hsz
    go_wp2_with fail
    go_ret
    exact ⟨A2, c2, rfl, Sep.keep (X := [.sl 5 1 (.slice A2 n c2) n cs]) hS3'.out fun w0' w' h9 => ⟨cs, h9.rd 0 rfl, h1'.out⟩⟩
end Go.Proofs.YtahkpkaodeeemaaGreat
