/- NamesPlain, RefName, RefSplit, laid together. -/
import Derived.Test.YtioonfceamgpmaaGreatDoorJ18
namespace Go.Proofs.YtioonfceamgpmaaGreatDoor
set_option linter.unusedVariables false

def nameB (s : List UInt8) : Bool := decide (0 < s.length) && decide (s.length ≤ 14) && !dots s && s.all fun c => charOk c.toNat
theorem splitB_head (p : List UInt8) : ∃ h t, splitB p = h :: t := by
  induction p with
  | nil => exact ⟨[], [], rfl⟩
  | cons c l ih =>
    obtain ⟨h, t, e⟩ := ih
    rw [splitB_cons]
    split
    · exact ⟨_, _, rfl⟩
    · rw [e]
      exact ⟨_, _, rfl⟩
theorem runV_names : ∀ (p : List UInt8) (n : Nat) (cur : List UInt8), (cur.all fun c => charOk c.toNat) = true → cur.length ≤ 14 →
    ∀ h t, splitB p = h :: t → runV p n cur = (nameB (cur ++ h) && t.all nameB && decide (n + t.length ≤ 6))
  | [], n, cur, hc, hl, h, t, e => by
    cases e
    unfold runV nameB
    rw [List.append_nil, hc]
    simp [hl]
  | c :: cs, n, cur, hc, hl, h, t, e => by
    obtain ⟨h', t', e'⟩ := splitB_head cs
    rw [splitB_cons, e'] at e
    unfold runV
    by_cases h47 : c = 47
    · rw [if_pos h47] at e ⊢
      cases e
      have ih := runV_names cs (n + 1) [] (by simp) (by simp) h' t' e'
      rw [ih, List.append_nil, List.nil_append]
      by_cases h0 : cur.length = 0 ∨ dots cur = true
      · rw [if_pos h0]
        have : nameB cur = false := by
          unfold nameB
          rcases h0 with h0 | h0
          · simp [h0]
          · simp [h0]
        simp [this]
      · rw [if_neg h0]
        have : nameB cur = true := by
          unfold nameB
          rw [hc]
          simp only [not_or] at h0
          simp only [Bool.and_true, Bool.and_eq_true, decide_eq_true_eq, Bool.not_eq_true']
          refine ⟨⟨by omega, hl⟩, by simpa using h0.2⟩
        rw [this, List.all_cons, List.length_cons, Bool.true_and]
        have e2 : (n + 1 + t'.length ≤ 6) ↔ (n + (t'.length + 1) ≤ 6) := by omega
        simp only [e2]
    · rw [if_neg h47] at e ⊢
      cases e
      by_cases hch : charOk c.toNat = false
      · rw [if_pos hch]
        have : nameB (cur ++ c :: h') = false := by
          unfold nameB
          rw [List.all_append, List.all_cons, hch]
          simp
        rw [this]
        simp
      · rw [if_neg hch]
        by_cases h14 : 14 < cur.length + 1
        · rw [if_pos h14]
          have : nameB (cur ++ c :: h') = false := by
            unfold nameB
            have : ¬ (cur ++ c :: h').length ≤ 14 := by simp; omega
            simp only [this, decide_false, Bool.and_false, Bool.false_and]
          rw [this]
          simp
        · rw [if_neg h14]
          have ih := runV_names cs n (cur ++ [c]) (by rw [List.all_append, hc]; simpa using hch) (by simp; omega) h' _ e'
          rw [ih, List.append_assoc]
          rfl

/-- The document's Valid. -/
def refV (p : List UInt8) : Bool := decide (p.length ≤ 100) && (decide ((splitB p).length ≤ 6) && (splitB p).all nameB)
theorem splitB_len (p : List UInt8) : p.length + 1 = ((splitB p).map fun s => s.length + 1).sum := by
  induction p with
  | nil => rfl
  | cons c l ih =>
    obtain ⟨h, t, e⟩ := splitB_head l
    rw [splitB_cons, e]
    rw [e] at ih
    split
    · simp only [List.map_cons, List.sum_cons, List.length_cons, List.length_nil] at ih ⊢
      omega
    · simp only [List.map_cons, List.sum_cons, List.length_cons] at ih ⊢
      omega
theorem names_sum (l : List (List UInt8)) (h : l.all nameB = true) : (l.map fun s => s.length + 1).sum ≤ 15 * l.length := by
  induction l with
  | nil => simp
  | cons a l ih =>
    rw [List.all_cons, Bool.and_eq_true] at h
    have := ih h.2
    have h2 : a.length ≤ 14 := by
      have := h.1
      unfold nameB at this
      simp only [Bool.and_eq_true, decide_eq_true_eq] at this
      exact this.1.1.2
    simp only [List.map_cons, List.sum_cons, List.length_cons]
    omega
theorem refV_valid (p : List UInt8) : refV p = validL p := by
  obtain ⟨h, t, e⟩ := splitB_head p
  have hv : validL p = (decide ((splitB p).length ≤ 6) && (splitB p).all nameB) := by
    unfold validL
    rw [runV_names p 1 [] (by simp) (by simp) h t e, e, List.nil_append, List.all_cons, List.length_cons, Bool.and_comm]
    have e2 : (1 + t.length ≤ 6) ↔ (t.length + 1 ≤ 6) := by omega
    simp only [e2]
  unfold refV
  rw [hv]
  cases hx : (decide ((splitB p).length ≤ 6) && (splitB p).all nameB) with
  | false => simp
  | true =>
    rw [Bool.and_eq_true, decide_eq_true_eq] at hx
    have h1 := splitB_len p
    have h2 := names_sum _ hx.2
    have h3 : p.length ≤ 100 := by omega
    simp [h3]
end Go.Proofs.YtioonfceamgpmaaGreatDoor

namespace Go.Proofs.YtioonfceamgpmaaGreatDoor
open Go.RowKit
set_option linter.unusedVariables false

theorem nameB_short {l : List UInt8} (h : l.length < 1) : nameB l = false := by
  have : ¬ 0 < l.length := by omega
  unfold nameB
  simp only [this, decide_false, Bool.false_and]
theorem nameB_long {l : List UInt8} (h : 14 < l.length) : nameB l = false := by
  have : ¬ l.length ≤ 14 := by omega
  unfold nameB
  simp only [this, decide_false, Bool.and_false, Bool.false_and]
theorem nameB_dots {l : List UInt8} (h : dots l = true) : nameB l = false := by
  unfold nameB
  simp only [h, Bool.not_true, Bool.and_false, Bool.false_and]
theorem nameB_mid {l : List UInt8} (h0 : 1 ≤ l.length) (h1 : l.length ≤ 14) (hd : dots l = false) : nameB l = l.all fun c => charOk c.toNat := by
  have h0' : 0 < l.length := h0
  unfold nameB
  simp only [h0', h1, hd, decide_true, Bool.not_false, Bool.and_true, Bool.true_and]
theorem dots_no {l : List UInt8} (h : dots l = false) : (l == [46]) = false ∧ (l == [46, 46]) = false := by
  unfold dots at h
  exact Bool.or_eq_false_iff.1 h

theorem all_next {D : List UInt8} {q : UInt8 → Bool} {i : Nat} (hi : i < D.length) (h : (D.take i).all q = true) (hq : q D[i] = true) : (D.take (i + 1)).all q = true := by
  rw [List.take_add_one, List.getElem?_eq_getElem hi, List.all_append, h]
  simp [hq]
theorem all_bad {D : List UInt8} {q : UInt8 → Bool} {i : Nat} (hi : i < D.length) (hq : q D[i] = false) : D.all q = false := by
  cases h : D.all q with
  | false => rfl
  | true => rw [List.all_eq_true.1 h _ (List.getElem_mem hi)] at hq; cases hq

theorem byte_cases (x : Int) : x = 46 ∨ x = 45 ∨ (x < 48 ∧ x ≠ 46 ∧ x ≠ 45) ∨ (48 ≤ x ∧ x ≤ 57) ∨ x = 95 ∨ (57 < x ∧ x < 97 ∧ x ≠ 95) ∨ (97 ≤ x ∧ x ≤ 122) ∨ 122 < x := by omega
theorem charOk_yes {x : Nat} (h : (97 ≤ (x : Int) ∧ (x : Int) ≤ 122) ∨ (48 ≤ (x : Int) ∧ (x : Int) ≤ 57) ∨ (x : Int) = 46 ∨ (x : Int) = 95 ∨ (x : Int) = 45) : charOk x = true := by
  unfold charOk
  simp only [Bool.or_eq_true, Bool.and_eq_true, decide_eq_true_eq, beq_iff_eq]
  omega
theorem charOk_no {x : Nat} (h : ¬ ((97 ≤ (x : Int) ∧ (x : Int) ≤ 122) ∨ (48 ≤ (x : Int) ∧ (x : Int) ≤ 57) ∨ (x : Int) = 46 ∨ (x : Int) = 95 ∨ (x : Int) = 45)) : charOk x = false := by
  cases e : charOk x with
  | false => rfl
  | true =>
    unfold charOk at e
    simp only [Bool.or_eq_true, Bool.and_eq_true, decide_eq_true_eq, beq_iff_eq] at e
    omega

set_option maxRecDepth 100000 in
set_option maxHeartbeats 2000000 in
theorem refname_any (s : ByteArray) (w : World) (hs : s.size ≤ 4611686018427387904) :
    Calls Tryz.prog 89 #[.string s] w fun e w' => e = .returned (.bool (nameB s.data.toList)) ∧ w' = w := by
  have hsz : s.size = s.data.toList.length := Lib.size_eq s
  have htl : s.toList = s.data.toList := Lib.toList_data s
  by_cases h0 : s.size < 1
  case pos =>
    have b1 : (s.size : Int) < 1 := by omega
    have hr := nameB_short (hsz ▸ h0)
    rw [hr]
    clear hsz htl
    go_enter Tryz.func89, Tryz.ntmps89
    go_wp2_with fail
    go_ret
    exact ⟨rfl, rfl⟩
  by_cases h1 : 14 < s.size
  case pos =>
    have b1 : ¬ (s.size : Int) < 1 := by omega
    have b2 : (14 : Int) < (s.size : Int) := by omega
    have hr := nameB_long (hsz ▸ h1)
    rw [hr]
    clear hsz htl
    go_enter Tryz.func89, Tryz.ntmps89
    go_wp2_with fail
    go_ret
    exact ⟨rfl, rfl⟩
  have b1 : ¬ (s.size : Int) < 1 := by omega
  have b2 : ¬ (14 : Int) < (s.size : Int) := by omega
  by_cases hd : dots s.data.toList = true
  case pos =>
    have hr := nameB_dots hd
    rw [hr]
    unfold dots at hd
    rw [← htl, Bool.or_eq_true] at hd
    clear hsz htl
    have hd : (s.toList == [46]) = true ∨ ((s.toList == [46]) = false ∧ (s.toList == [46, 46]) = true) := by
      cases h : s.toList == [46] with
      | true => exact .inl rfl
      | false => rw [h] at hd; exact .inr ⟨rfl, by simpa using hd⟩
    rcases hd with hd | ⟨hd, hd3⟩
    · go_enter Tryz.func89, Tryz.ntmps89
      go_wp2_with fail
      go_ret
      exact ⟨rfl, rfl⟩
    · go_enter Tryz.func89, Tryz.ntmps89
      go_wp2_with fail
      go_ret
      exact ⟨rfl, rfl⟩
  have hd' : dots s.data.toList = false := by simpa using hd
  obtain ⟨hd1, hd2⟩ := dots_no hd'
  have hr := nameB_mid (by omega) (by omega) hd'
  rw [← htl] at hd1 hd2
  rw [hr]
  obtain ⟨R, hR⟩ : ∃ R, R = s.data.toList.all fun c => charOk c.toNat := ⟨_, rfl⟩
  rw [← hR]
  have hR' := Lib.hid hR
  have hsz' := Lib.hid hsz
  clear hsz htl hd hr hd' hR
  go_enter Tryz.func89, Tryz.ntmps89
  go_wp2_with fail
  go_loopg [3] s.size (fun g ii wr => ∃ i : Nat, i ≤ s.size ∧ Hid (g = s.size - i) ∧ ii = .int .i64 i ∧ wr = w ∧ Hid (((s.data.toList.take i).all fun c => charOk c.toNat) = true))
  case atStart => exact ⟨0, by omega, rfl, rfl, rfl, rfl⟩
  case round =>
    obtain ⟨i, hi, hm, rfl, rfl, hal⟩ := hrel
    by_cases hlt : i < s.size
    case pos =>
      have c1 : (0 : Int) ≤ (i : Int) := by omega
      have c2 : (i : Int) < (s.size : Int) := by omega
      have hil := Lib.hid (hsz'.out ▸ hlt)
      have hnext : Hid (charOk s[i].toNat = true → ((s.data.toList.take (i + 1)).all fun c => charOk c.toNat) = true) := fun h => all_next (D := s.data.toList) hil.out hal.out h
      have hbad : Hid (charOk s[i].toNat = false → R = false) := fun h => hR'.out.trans (all_bad (D := s.data.toList) hil.out h)
      clear hal
      rcases byte_cases (s[i].toNat : Int) with h | h | h | h | h | h | h | h
      all_goals
        first | (have b46 : ((s[i].toNat : Int) == 46) = true := beq_iff_eq.2 (by omega)) | (have b46 : ((s[i].toNat : Int) == 46) = false := beq_eq_false_iff_ne.2 (by omega))
        first | (have b45 : ((s[i].toNat : Int) == 45) = true := beq_iff_eq.2 (by omega)) | (have b45 : ((s[i].toNat : Int) == 45) = false := beq_eq_false_iff_ne.2 (by omega))
        first | (have b95 : ((s[i].toNat : Int) == 95) = true := beq_iff_eq.2 (by omega)) | (have b95 : ((s[i].toNat : Int) == 95) = false := beq_eq_false_iff_ne.2 (by omega))
        first | (have b97 : 97 ≤ (s[i].toNat : Int) := by omega) | (have b97 : (s[i].toNat : Int) < 97 := by omega)
        first | (have b48 : 48 ≤ (s[i].toNat : Int) := by omega) | (have b48 : (s[i].toNat : Int) < 48 := by omega)
        first | (have b122 : (s[i].toNat : Int) ≤ 122 := by omega) | (have b122 : 122 < (s[i].toNat : Int) := by omega)
        first | (have b57 : (s[i].toNat : Int) ≤ 57 := by omega) | (have b57 : 57 < (s[i].toNat : Int) := by omega)
        have h' := Lib.hid h
        clear h
        go_wp2_with fail
        all_goals first
          | (go_roundg (s.size - (i + 1))
             case measure => rw [hm.out]; omega
             case rel => exact ⟨i + 1, by omega, rfl, by go_num, rfl, hnext.out (charOk_yes (by have := h'.out; omega))⟩)
          | (go_ret
             refine ⟨?_, rfl⟩
             rw [hbad.out (charOk_no (by have := h'.out; omega))]
             rfl)
          | (exfalso
             simp_all
             done)
          | (exfalso
             simp_all
             omega)
    case neg =>
      have e : i = s.size := by omega
      have hfin : Hid (R = true) := by
        have h := hal.out
        rw [e, hsz'.out, List.take_length] at h
        exact hR'.out.trans h
      have c2 : ¬ (i : Int) < (s.size : Int) := by omega
      clear hal
      go_wp2_with fail
      go_ret
      refine ⟨?_, rfl⟩
      rw [hfin.out]
      rfl
end Go.Proofs.YtioonfceamgpmaaGreatDoor

namespace Go.Proofs.YtioonfceamgpmaaGreatDoor
open Go.RowKit
set_option linter.unusedVariables false

theorem info_strQ : (Tryz.prog.info? 9).map (fun i => (i.zero, i.size, i.bytes)) = some (some (.string ⟨#[]⟩), 1, 16) := by kernel_rfl
/-- A slice of strings of one's own. -/
def strR (v : Value) (L : List ByteArray) : Asn := .sl 9 1 v L.length (L.map .string)
def bytesL (b : ByteArray) : List UInt8 := b.data.toList
theorem split_at47 {D : List UInt8} {f i : Nat} (hf : f ≤ i) (hi : i < D.length) (h47 : D[i] = 47) (hno : ∀ k (hk : k < D.length), f ≤ k → k < i → D[k] ≠ 47) :
    splitB (D.drop f) = (D.drop f).take (i - f) :: splitB (D.drop (i + 1)) := by
  have e : D.drop f = (D.drop f).take (i - f) ++ 47 :: D.drop (i + 1) := by
    conv => lhs; rw [← List.take_append_drop (i - f) (D.drop f)]
    rw [List.drop_drop, show f + (i - f) = i by omega, List.drop_eq_getElem_cons hi, h47]
  conv => lhs; rw [e]
  refine splitB_some fun hm => ?_
  obtain ⟨k, hk, ek⟩ := List.mem_iff_getElem.1 hm
  rw [List.getElem_take, List.getElem_drop] at ek
  rw [List.length_take, List.length_drop] at hk
  exact hno (f + k) (by omega) (by omega) (by omega) ek
theorem split_end {D : List UInt8} {f : Nat} (hno : ∀ k (hk : k < D.length), f ≤ k → D[k] ≠ 47) : splitB (D.drop f) = [D.drop f] := by
  refine splitB_none fun hm => ?_
  obtain ⟨k, hk, ek⟩ := List.mem_iff_getElem.1 hm
  rw [List.getElem_drop] at ek
  rw [List.length_drop] at hk
  exact hno (f + k) (by omega) (by omega) ek
theorem splitB_count (p : List UInt8) : (splitB p).length ≤ p.length + 1 := by
  induction p with
  | nil => exact Nat.le_refl _
  | cons c l ih =>
    obtain ⟨h, t, e⟩ := splitB_head l
    rw [splitB_cons, e]
    rw [e] at ih
    split <;> simp only [List.length_cons] at ih ⊢ <;> omega

set_option maxRecDepth 100000 in
set_option maxHeartbeats 2000000 in
theorem refsplit_any (p : ByteArray) (w : World) (hp : p.size ≤ 100) :
    Calls Tryz.prog 64 #[.string p] w fun e w' => ∃ v L, e = .returned v ∧ L.map bytesL = splitB p.data.toList ∧ Sep w w' [strR v L] := by
  have hsz := Lib.hid (Lib.size_eq p)
  obtain ⟨i0, hif, hz0, hz1, hz2⟩ := info_parts info_strQ
  go_enter Tryz.func64, Tryz.ntmps64
  go_wp2_with fail
  go_loopw [3, 4, 5] (fun vo vf vi wr => ∃ (L : List ByteArray) (f i : Nat), f ≤ i ∧ i ≤ p.size ∧ vf = .int .i64 f ∧ vi = .int .i64 i ∧ L.length ≤ i ∧ Hid (splitB p.data.toList = L.map bytesL ++ splitB (p.data.toList.drop f)) ∧ Hid (∀ k (hk : k < p.data.toList.length), f ≤ k → k < i → p.data.toList[k] ≠ 47) ∧ Sep w wr [strR vo L]) (fun _ _ vi _ => p.size - (intOf vi).toNat)
  case atStart => exact ⟨[], 0, 0, by omega, by omega, rfl, rfl, by simp, by simp [Hid], (fun k hk h1 h2 => absurd h2 (by omega)), (Sep.nil w).sl_nil _ _⟩
  case round =>
    obtain ⟨L, f, i, hfi, hi, rfl, rfl, hLi, hsp, hno, hS⟩ := hrel
    by_cases hlt : i < p.size
    case pos =>
      have c1 : (0 : Int) ≤ (i : Int) := by omega
      have c2 : (i : Int) < (p.size : Int) := by omega
      have c3 : (0 : Int) ≤ (f : Int) := by omega
      have c4 : (f : Int) ≤ (i : Int) := by omega
      have c5 : (i : Int) ≤ (p.size : Int) := by omega
      by_cases h47 : p[i] = 47
      case pos =>
        have b47 : ((p[i].toNat : Int) == 47) = true := by rw [h47]; rfl
        have hS1 := hS.alloc (.cells #[.string (p.extract f i)] 9)
        go_wp2_with (first
          | (at_builtin; refine wpList_append_sep 0 rfl _ _ 74 rfl 9 i0 (.string ⟨#[]⟩) 1 16 Tryz.underlying74 hif hz0 hz1 hz2 rfl (by decide) hS1 _ _ _ rfl rfl ⟨wr.heap.size, 0, none⟩ 1 1 [.string (p.extract f i)] rfl rfl (cell_one_new _ _ _) (by simp [Value.oneCell']) (by decide) (by unfold maxLen; omega) (by omega) ?_)
          | fail)
        intro g c w2 hS2 hz
        have hS3 : Sep w w2 [strR (.slice (some ⟨g, 0, none⟩) (L.length + 1) c) (L ++ [p.extract f i])] := by
          unfold strR
          rw [List.map_append, List.length_append]
          exact hS2
        have hS3' := Lib.hid hS3
        have hl := hsz.out
        have hex : bytesL (p.extract f i) = (p.data.toList.drop f).take (i - f) := by
          show (p.extract f i).data.toList = _
          rw [Lib.extract_data]
        have hsp2 : Hid (splitB p.data.toList = (L ++ [p.extract f i]).map bytesL ++ splitB (p.data.toList.drop (i + 1))) := by
          have h := hsp.out
          rw [split_at47 hfi (by omega) h47 hno.out] at h
          show _ = _
          rw [h, List.map_append, List.append_assoc, List.map_cons, List.map_nil, hex]
          rfl
        have hno2 : Hid (∀ k (hk : k < p.data.toList.length), i + 1 ≤ k → k < i + 1 → p.data.toList[k] ≠ 47) := fun k hk h1 h2 => absurd h2 (by omega)
        clear hS hS1 hS2 hz hS3 hl hex hsp hno
        go_wp2_with fail
        go_roundw
        · exact ⟨_, i + 1, i + 1, by omega, by omega, by go_num, by go_num, by rw [List.length_append, List.length_singleton]; omega, hsp2, hno2, hS3'.out⟩
        · simp [intOf]; omega
      case neg =>
        have b47 : ((p[i].toNat : Int) == 47) = false := by
          rw [beq_eq_false_iff_ne]
          intro h
          exact h47 (UInt8.toNat_inj.1 (by show p[i].toNat = 47; omega))
        have hno2 : Hid (∀ k (hk : k < p.data.toList.length), f ≤ k → k < i + 1 → p.data.toList[k] ≠ 47) := fun k hk h1 h2 => by
          by_cases e : k = i
          · subst e
            exact h47
          · exact hno.out k hk h1 (by omega)
        have hS' := Lib.hid hS
        clear hS hno
        go_wp2_with fail
        go_roundw
        · exact ⟨L, f, i + 1, by omega, by omega, rfl, by go_num, by omega, hsp, hno2, hS'.out⟩
        · simp [intOf]; omega
    case neg =>
      have c2 : ¬ (i : Int) < (p.size : Int) := by omega
      have c3 : (0 : Int) ≤ (f : Int) := by omega
      have c4 : (f : Int) ≤ (p.size : Int) := by omega
      have hl := hsz.out
      have hex : bytesL (p.extract f p.size) = p.data.toList.drop f := by
        show (p.extract f p.size).data.toList = _
        rw [Lib.extract_data, List.take_of_length_le (by rw [List.length_drop]; omega)]
      have hfin : Hid ((L ++ [p.extract f p.size]).map bytesL = splitB p.data.toList) := by
        have h := hsp.out
        rw [split_end (fun k hk h1 => hno.out k hk h1 (by omega))] at h
        show _ = _
        rw [h, List.map_append, List.map_cons, List.map_nil, hex]
      have hS1 := hS.alloc (.cells #[.string (p.extract f p.size)] 9)
      clear hex hl hsp hno
      go_wp2_with (first
        | (at_builtin; refine wpList_append_sep 0 rfl _ _ 74 rfl 9 i0 (.string ⟨#[]⟩) 1 16 Tryz.underlying74 hif hz0 hz1 hz2 rfl (by decide) hS1 _ _ _ rfl rfl ⟨wr.heap.size, 0, none⟩ 1 1 [.string (p.extract f p.size)] rfl rfl (cell_one_new _ _ _) (by simp [Value.oneCell']) (by decide) (by unfold maxLen; omega) (by omega) ?_)
        | fail)
      intro g c w2 hS2 hz
      have hS3 : Sep w w2 [strR (.slice (some ⟨g, 0, none⟩) (L.length + 1) c) (L ++ [p.extract f p.size])] := by
        unfold strR
        rw [List.map_append, List.length_append]
        exact hS2
      have hS3' := Lib.hid hS3
      clear hS hS1 hS2 hz hS3
      go_wp2_with fail
      go_ret
      exact ⟨_, _, rfl, hfin.out, hS3'.out⟩
end Go.Proofs.YtioonfceamgpmaaGreatDoor
