/- FreesS, FreesG, FreesQ, laid together. -/
import Derived.Test.YtahkpkaodeeemaaGreatJ37
namespace Go.Proofs.YtahkpkaodeeemaaGreat
open Go.RowKit
set_option linter.unusedVariables false

theorem hasF_cut {r : List Int} (hn : r.Nodup) {k i : Nat} (hk : r[k]? = some (i : Int)) (j : Nat) : hasF (r.take k ++ r.drop (k + 1)) j = if j = i then !(decide (i % 2 = 0)) else hasF r j := by
  have h := cut_mem hn hk (j : Int)
  by_cases e : j = i
  · subst e
    rw [if_pos rfl]
    have h1 : (r.take k ++ r.drop (k + 1)).contains (j : Int) = false := by
      rw [Bool.eq_false_iff]
      intro hc
      exact (h.1 (by simpa using hc)).2 rfl
    unfold hasF
    rw [h1]
    by_cases h2 : j % 2 = 0
    · rw [if_pos h2, decide_eq_true h2]; rfl
    · rw [if_neg h2, decide_eq_false h2]
  · rw [if_neg e]
    have h1 : (r.take k ++ r.drop (k + 1)).contains (j : Int) = r.contains (j : Int) := by
      rw [Bool.eq_iff_iff]
      simp only [List.contains_iff_mem]
      rw [h]
      exact ⟨fun h => h.1, fun h => ⟨h, by omega⟩⟩
    unfold hasF
    rw [h1]
set_option maxRecDepth 20000 in
theorem stepsF {w : World} {xs : List Int} {n : Nat} (hn : n ≤ 12) (hx : ∀ i, sizeF xs i ≤ 16) {sv : Value} {cs : List Value} (hs : Rd w 1 sv cs.length cs) (hst : ∀ j, j < n → j % 2 ≠ 0 → ∃ A c, cs[j / 2]? = some (.slice A (512 * sizeF xs j) c) ∧ DataAt w (.slice A (512 * sizeF xs j) c) (512 * sizeF xs j)) :
    Steps w sv (actsF n) (grF xs) (InvF xs n) := by
  refine ⟨fun r es h => ⟨h.flat, by have := inv_len hn hx h; omega⟩, fun r es h k i hk => ?_⟩
  obtain ⟨h0, h1⟩ := h.rng i (List.mem_of_getElem? hk)
  obtain ⟨m, rfl⟩ : ∃ m : Nat, i = (m : Int) := ⟨i.toNat, by omega⟩
  have hm : m < n := by omega
  have hr : (r.contains (m : Int)) = true := by simpa using List.mem_of_getElem? hk
  have hnd : (r.take k ++ r.drop (k + 1)).Nodup := by
    refine h.nodup.sublist ?_
    have h1 : (r.take k ++ r.drop (k + 1)).Sublist (r.take k ++ r.drop k) := List.Sublist.append (List.Sublist.refl _) (List.drop_sublist_drop_left r (Nat.le_succ k))
    rwa [List.take_append_drop] at h1
  have hrg : ∀ j ∈ r.take k ++ r.drop (k + 1), 0 ≤ j ∧ j < (n : Int) := fun j hj => h.rng j ((cut_mem h.nodup hk j).1 hj).1
  have hx2 : (actsF n)[m]? = some (actF m) := by
    unfold actsF
    rw [List.getElem?_map, List.getElem?_range hm]
    rfl
  have hok : ∀ j, j < n → RootName (entF xs j).path ∧ (0 ≤ (entF xs j).mode ∧ (entF xs j).mode ≤ 511) ∧ (entF xs j).size ≤ 8192 := fun j hj => ⟨nameF_root (by omega), ⟨by show (0 : Int) ≤ 384; decide, by show (384 : Int) ≤ 511; decide⟩, by have := hx j; show 512 * sizeF xs j ≤ 8192; omega⟩
  have hmem : ∀ e, e ∈ es ↔ ∃ j, j < n ∧ hasF r j = true ∧ e = entF xs j := fun e => (h.set e).trans listF_mem
  have hinj : ∀ a b, a < n → b < n → (entF xs a).path = (entF xs b).path → a = b := fun a b ha hb e => nameF_inj (by omega) (by omega) e
  by_cases h2 : m % 2 = 0
  · have hin : entF xs m ∈ es := (hmem _).2 ⟨m, hm, by unfold hasF; rw [if_pos h2]; exact hr, rfl⟩
    have ea : actF m = ⟨5, ⟨(nameF m).toArray⟩, ⟨#[]⟩, 0, 0⟩ := by unfold actF; rw [if_pos h2]
    refine ⟨m, actF m, nameF m, [], fun e => e ∈ es ∧ e.path ≠ (entF xs m).path, rfl, hx2, by rw [ea], by rw [ea], nameF_root (by omega), (nameF_all m (by omega)).2, fun e he => ?_, ?_, fun es' hf hset => ⟨hf, hnd, hrg, fun e => ?_⟩⟩
    · obtain ⟨j, hj, _, rfl⟩ := (hmem e).1 he.1
      exact hok j hj
    · have eg : grF xs (m : Int) = (-fileB (512 * sizeF xs m), -1) := by unfold grF; rw [Int.toNat_natCast, if_pos h2]
      rw [ea, eg]
      exact .unlink hin
    · rw [hset, listF_mem]
      constructor
      · rintro ⟨he, hne⟩
        obtain ⟨j, hj, hh, rfl⟩ := (hmem e).1 he
        have hjm : j ≠ m := fun e2 => hne (by rw [e2])
        exact ⟨j, hj, by rw [hasF_cut h.nodup hk, if_neg hjm]; exact hh, rfl⟩
      · rintro ⟨j, hj, hh, rfl⟩
        rw [hasF_cut h.nodup hk] at hh
        by_cases e2 : j = m
        · rw [if_pos e2, decide_eq_true h2] at hh
          cases hh
        · rw [if_neg e2] at hh
          exact ⟨(hmem _).2 ⟨j, hj, hh, rfl⟩, fun e3 => e2 (hinj j m hj hm e3)⟩
  · obtain ⟨A, c, hc, hd⟩ := hst m hm h2
    have ea : actF m = ⟨6, ⟨(nameF m).toArray⟩, ⟨#[]⟩, 384, (m / 2 : Nat)⟩ := by unfold actF; rw [if_neg h2]
    have hout : nameF m ∉ es.map Ent.path := by
      intro hp
      obtain ⟨e, he, hep⟩ := List.mem_map.1 hp
      obtain ⟨j, hj, hh, rfl⟩ := (hmem e).1 he
      have hjm := hinj j m hj hm hep
      subst hjm
      unfold hasF at hh
      rw [if_neg h2, hr] at hh
      cases hh
    refine ⟨m, actF m, nameF m, [], fun e => e ∈ es ∨ e = ⟨nameF m, 384, 512 * sizeF xs m⟩, rfl, hx2, by rw [ea], by rw [ea], nameF_root (by omega), (nameF_all m (by omega)).2, fun e he => ?_, ?_, fun es' hf hset => ⟨hf, hnd, hrg, fun e => ?_⟩⟩
    · rcases he with he | rfl
      · obtain ⟨j, hj, _, rfl⟩ := (hmem e).1 he
        exact hok j hj
      · exact hok m hm
    · have eg : grF xs (m : Int) = (fileB (512 * sizeF xs m), 1) := by unfold grF; rw [Int.toNat_natCast, if_neg h2]
      rw [ea, eg]
      have h9 := Eff.write (mode := 384) (ref := m / 2) hout (by decide) hs hc (by have := hx m; omega) hd
      exact h9
    · rw [hset, listF_mem]
      constructor
      · rintro (he | rfl)
        · obtain ⟨j, hj, hh, rfl⟩ := (hmem e).1 he
          have hjm : j ≠ m := fun e2 => hout (by rw [← e2]; exact List.mem_map_of_mem he)
          exact ⟨j, hj, by rw [hasF_cut h.nodup hk, if_neg hjm]; exact hh, rfl⟩
        · exact ⟨m, hm, by rw [hasF_cut h.nodup hk, if_pos rfl, decide_eq_false h2]; rfl, rfl⟩
      · rintro ⟨j, hj, hh, rfl⟩
        rw [hasF_cut h.nodup hk] at hh
        by_cases e2 : j = m
        · subst e2
          exact .inr rfl
        · rw [if_neg e2] at hh
          exact .inl ((hmem _).2 ⟨j, hj, hh, rfl⟩)
end Go.Proofs.YtahkpkaodeeemaaGreat

namespace Go.Proofs.YtahkpkaodeeemaaGreat
open Go.RowKit
set_option linter.unusedVariables false

theorem fileB_512 (s : Nat) : fileB (512 * s) = if 8 < (s : Int) then (s : Int) + 1 else s := by
  unfold fileB
  have e : (((512 * s : Nat) : Int) + 512 - 1) / 512 = s := by omega
  rw [e]
theorem ahead_grows {xs : List Int} {a b : Nat} (ha : 0 ≤ xs.getD a 0) (hb : 0 ≤ xs.getD b 0) (h : AheadG (grF xs) a b) :
    growsP (xs.getD a 0) (if a % 2 = 0 then 5 else 6) < growsP (xs.getD b 0) (if b % 2 = 0 then 5 else 6) ∨ growsP (xs.getD a 0) (if a % 2 = 0 then 5 else 6) = growsP (xs.getD b 0) (if b % 2 = 0 then 5 else 6) ∧ a < b := by
  have ea : ((sizeF xs a : Nat) : Int) = xs.getD a 0 := by unfold sizeF; omega
  have eb : ((sizeF xs b : Nat) : Int) = xs.getD b 0 := by unfold sizeF; omega
  have ga : grF xs (a : Int) = if a % 2 = 0 then (-fileB (512 * sizeF xs a), -1) else (fileB (512 * sizeF xs a), 1) := by unfold grF; rw [Int.toNat_natCast]
  have gb : grF xs (b : Int) = if b % 2 = 0 then (-fileB (512 * sizeF xs b), -1) else (fileB (512 * sizeF xs b), 1) := by unfold grF; rw [Int.toNat_natCast]
  unfold AheadG at h
  rw [lessG_iff, ga, gb] at h
  rw [fileB_512, fileB_512, ea, eb] at h
  unfold growsP
  by_cases h1 : a % 2 = 0
  · by_cases h2 : b % 2 = 0
    · simp only [h1, h2, if_true, Prod.mk.injEq] at h ⊢
      split at h <;> split at h <;> simp_all <;> omega
    · simp only [h1, h2, if_true, if_false, Prod.mk.injEq] at h ⊢
      split at h <;> split at h <;> simp_all <;> omega
  · by_cases h2 : b % 2 = 0
    · simp only [h1, h2, if_true, if_false, Prod.mk.injEq] at h ⊢
      split at h <;> split at h <;> simp_all <;> omega
    · simp only [h1, h2, if_false, Prod.mk.injEq] at h ⊢
      split at h <;> split at h <;> simp_all <;> omega
end Go.Proofs.YtahkpkaodeeemaaGreat

namespace Go.Proofs.YtahkpkaodeeemaaGreat
open Go.RowKit
set_option linter.unusedVariables false

def esF (xs : List Int) (i : Nat) : List Ent := ((List.range i).filter fun j => j % 2 == 0).map (entF xs)
theorem rangeI_mem {n : Nat} (j : Nat) : (j : Int) ∈ rangeI n ↔ j < n := by
  unfold rangeI
  rw [List.mem_map]
  constructor
  · rintro ⟨k, hk, e⟩
    rw [List.mem_range] at hk
    omega
  · intro h
    exact ⟨j, List.mem_range.2 h, rfl⟩
theorem rangeI_up (n : Nat) : (rangeI n).Pairwise (· < ·) := by
  unfold rangeI
  rw [List.pairwise_map]
  exact List.pairwise_lt_range.imp fun h => by omega
theorem esF_list (xs : List Int) (n : Nat) : esF xs n = listF xs n (rangeI n) := by
  unfold esF listF
  congr 1
  apply List.filter_congr
  intro j hj
  rw [List.mem_range] at hj
  have hc : (rangeI n).contains (j : Int) = true := by simpa using (rangeI_mem j).2 hj
  unfold hasF
  by_cases h2 : j % 2 = 0
  · rw [if_pos h2, hc]; simp [h2]
  · rw [if_neg h2, hc]; simp [h2]
theorem inv_start {xs : List Int} {n : Nat} (hn : n ≤ 12) (hx : ∀ i, sizeF xs i ≤ 16) : InvF xs n (rangeI n) (esF xs n) := by
  rw [esF_list]
  exact ⟨listF_flat hn hx _, (rangeI_up n).imp fun h => by omega, rangeI_lt, fun e => Iff.rfl⟩
theorem selF (gr : Int → Int × Int) (n : Nat) : ∃ ns : List Nat, selQ gr n (rangeI n) [] = ns.map (fun (v : Nat) => (v : Int)) ∧ ns.length = n ∧ (∀ a ∈ ns, a < n) ∧ ns.Pairwise fun (a b : Nat) => AheadG gr (a : Int) (b : Int) := by
  obtain ⟨L, e, hp, ho⟩ := selQ_sorted gr n (rangeI n) [] (by rw [rangeI_len]; omega) (rangeI_up n)
  rw [List.nil_append] at e
  have hm : ∀ y ∈ L, 0 ≤ y ∧ y < (n : Int) := fun y hy => rangeI_lt y (hp.mem_iff.1 hy)
  have el : L = (L.map Int.toNat).map (fun (v : Nat) => (v : Int)) := by
    rw [List.map_map]
    conv => lhs; rw [← List.map_id L]
    apply List.map_congr_left
    intro y hy
    have := hm y hy
    show y = ((y.toNat : Nat) : Int)
    omega
  refine ⟨L.map Int.toNat, by rw [e, ← el], by rw [List.length_map, hp.length_eq, rangeI_len], fun a ha => ?_, ?_⟩
  · obtain ⟨y, hy, rfl⟩ := List.mem_map.1 ha
    have := hm y hy
    omega
  · rw [el] at ho
    exact List.pairwise_map.1 ho
theorem IntsAt.alls {w0 : World} {v : Value} {xs : List Int} (h : IntsAt w0 v xs) (h0 : 0 < xs.length) :
    ∃ ad c, v = .slice (some ad) xs.length c ∧ ∀ w', Below w0.heap.size w0 w' → ∀ k (hk : k < xs.length), w'.cell? (ad.add k) = some (.int .i64 xs[k]) := by
  obtain ⟨ad, c, rfl, _⟩ := h.at_ h0
  refine ⟨ad, c, rfl, fun w' hb k hk => ?_⟩
  obtain ⟨ad2, c2, e, hc⟩ := h.all hk
  simp only [Value.slice.injEq, Option.some.injEq] at e
  rw [e.1]
  exact hc w' hb
end Go.Proofs.YtahkpkaodeeemaaGreat
