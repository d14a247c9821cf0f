/- Lent, Stay and Wipe, walked. -/
import Derived.Test.YtdidkpgdjehodaaRefComps
import Derived.Deep.RegionHeld3
import Derived.Deep.DrawnRows
namespace Go.Proofs.Ytdidkpgdjehodaa
open Go.RowKit
set_option linter.unusedVariables false

/-- A slice value with one place more. -/
def more : Value → Value
  | .slice A n c => .slice A (n + 1) c
  | v => v
theorem more_form {v : Value} {A : Option Addr} {n c : Nat} (h : more v = .slice A (n + 1) c) : v = .slice A n c := by
  cases v <;> simp [more] at h
  obtain ⟨rfl, rfl, rfl⟩ := h
  rfl
theorem Rd.fst {w : World} {sz n m c : Nat} {A : Option Addr} {cs ds : List Value} (h : Rd w sz (.slice A (n + m) c) (n + m) (cs ++ ds)) (hl : cs.length = n * sz) : Rd w sz (.slice A n c) n cs := by
  obtain ⟨_, A', c', e, h1, h2, h3⟩ := h
  cases e
  refine ⟨hl, A, c, rfl, by omega, h2, fun hn => ?_⟩
  obtain ⟨ad, e, hb, hc⟩ := h3 (by omega)
  refine ⟨ad, e, hb, fun j u hu => hc j u ?_⟩
  rw [List.getElem?_append_left (by rcases List.getElem?_eq_some_iff.1 hu with ⟨h, _⟩; exact h)]
  exact hu

theorem Rd.news {w : World} {sz n c : Nat} {ad : Addr} {cs : List Value} (h : Rd w sz (.slice (some ad) n c) n cs) : ∀ j u, cs[j]? = some u → w.cell? (ad.add j) = some u := by
  obtain ⟨hl, A, c', e, _, _, h3⟩ := h
  cases e
  intro j u hu
  have hn : 0 < n := by
    rcases Nat.eq_zero_or_pos n with h0 | h0
    · subst h0
      rw [Nat.zero_mul] at hl
      rw [List.eq_nil_of_length_eq_zero hl] at hu
      simp at hu
    · exact h0
  obtain ⟨ad', e, _, hc⟩ := h3 hn
  cases e
  exact hc j u hu

section
variable {w0 w : World} {As R : List Asn}
theorem Sep.lit (h : Sep w0 w As) (e : TypeId) (cs : Array Value) (hm : cs.size ≤ maxLen) : Sep w0 (w.alloc (.cells cs e)) (.sl e 1 (.slice (some ⟨w.heap.size, 0, none⟩) cs.size cs.size) cs.size cs.toList :: As) := by
  have hown := World.ownsRow_lit (base := 0) (e := e) (size := 1) w cs cs.size (Nat.zero_le _) hm (by omega)
  exact h.new (F := [w.heap.size]) ((Below.refl _ _).alloc (Nat.le_refl _) _) ⟨hown, rfl⟩ (by simp)
end

/-- A row in memory of its own, with one more number behind it. -/
def lentRow (v : Value) (xs : List Int) : Asn := .sl 3 1 (more v) (xs.length + 1) (xs.map (.int .i64) ++ [.int .i64 (-71)])
theorem lentRow_at {w : World} {F : List Nat} {v : Value} {xs : List Int} (h : (lentRow v xs).on w F) : IntsAt w v xs := by
  have h1 := sl_rd h
  obtain ⟨_, A, c, e, _⟩ := id h1
  rw [e] at h1
  rw [more_form e]
  exact Rd.fst h1 (by simp)
/-- Lent rows: so many, one more behind them. -/
def lentAll (v : Value) (vs : List Value) (last : Value) (xss : List (List Int)) : List Asn :=
  .sl 29 1 (more v) (xss.length + 1) (vs ++ [last]) :: .sl 3 1 last 1 [.int .i64 (-72)] :: List.zipWith lentRow vs xss
theorem lent_rows {w0 w : World} {v last : Value} {vs : List Value} {xss : List (List Int)} {R : List Asn} (hl : vs.length = xss.length) (h : Sep w0 w (lentAll v vs last xss ++ R)) : RowsAt w v xss := by
  have h0 := h.rd 0 rfl
  obtain ⟨_, A, c, e, _⟩ := id h0
  rw [e] at h0
  rw [more_form e]
  refine ⟨vs, Rd.fst h0 (by simp [hl]), fun k u xs hu hx => ?_⟩
  have hk : (lentAll v vs last xss ++ R)[k + 2]? = some (lentRow u xs) := by
    have hz := zip_some (f := lentRow) hu hx
    show (List.zipWith lentRow vs xss ++ R)[k]? = _
    rw [List.getElem?_append_left (by rcases List.getElem?_eq_some_iff.1 hz with ⟨h, _⟩; exact h)]
    exact hz
  obtain ⟨F, ho, _⟩ := h.get (k + 2) hk
  exact lentRow_at ho

attribute [local go_sem ↓] Go.wp_at_zero Go.wp_at_succ
set_option maxHeartbeats 2000000 in
theorem lent_any {xss : List (List Int)} {w : World} {nv : Value} (hl : xss.length ≤ 1024) (hr : ∀ j (hj : j < xss.length), xss[j].length ≤ 1048576) (hn : RowsAt w nv xss) :
    Calls Try.prog 13 #[nv] w fun e w' => ∃ v vs last, e = .returned v ∧ vs.length = xss.length ∧ Sep w w' (lentAll v vs last xss) := by
  obtain ⟨i0, hi, hz0, hz1, hz2⟩ := info_parts info_int
  obtain ⟨i1, hi1, hz10, hz11, hz12⟩ := info_parts info_ints
  obtain ⟨A, c, rfl, _⟩ := hn.shape
  have hn' := Lib.hid hn
  have hr' := Lib.hid hr
  clear hn hr
  have bn : (xss.length : Int) ≤ 1024 := by omega
  go_enter Try.func13, Try.ntmps13
  go_wp2_with fail
  go_loopg [3, 4] xss.length (fun g ov ii wr => ∃ i : Nat, i ≤ xss.length ∧ Hid (g = xss.length - i) ∧ ii = .int .i64 i ∧ ∃ vs : List Value, vs.length = i ∧ Sep w wr (.sl 29 1 ov i vs :: List.zipWith lentRow vs (xss.take i)))
  case atStart => exact ⟨0, Nat.zero_le _, rfl, rfl, [], rfl, by simpa using (Sep.nil w).sl_nil _ _⟩
  case round =>
    obtain ⟨i, hi', hm, rfl, vs, hvl, hS⟩ := hrel
    by_cases hlt : i < xss.length
    case neg =>
      obtain rfl : i = xss.length := by omega
      rw [List.take_length] at hS
      have hvl' : vs.length = xss.length := hvl
      have hS1 := ((hS.lit 3 #[.int .i64 (-72)] (by simp [maxLen])).alloc (.cells #[.slice (some ⟨wr.heap.size, 0, none⟩) 1 1] 29))
      have hS1' := Lib.hid hS1
      clear hS hS1
      go_wp2_with (first
        | (at_builtin; refine wpList_append_sep 1 rfl _ _ 22 rfl 29 i1 (.slice none 0 0) 1 24 Try.underlying22 hi1 hz10 hz11 hz12 rfl (by decide) hS1'.out u3 xss.length vs rfl rfl ⟨wr.heap.size + 1, 0, none⟩ 1 1 [.slice (some ⟨wr.heap.size, 0, none⟩) 1 1] rfl rfl (cells_new _ _ _ _ (by simp)) (by simp [Value.oneCell']) (by decide) (by unfold maxLen; omega) (by omega) ?_)
        | fail)
      intro g cap w2 hS2 hsz
      obtain ⟨g', cap', e, _, _, hcap, hcm⟩ := hS2.sl_form 1 rfl (by omega)
      cases e
      unfold maxLen at hcm
      have hS3 : Sep w w2 (lentAll (.slice (some ⟨g, 0, none⟩) xss.length cap) vs (.slice (some ⟨wr.heap.size, 0, none⟩) 1 1) xss) := hS2.perm (List.Perm.swap _ _ _)
      have hS3' := Lib.hid hS3
      clear hS2 hS3 hS1' hsz
      go_wp2_with fail
      go_ret
      exact ⟨_, vs, _, rfl, hvl', hS3'.out⟩
    obtain ⟨ad, c', un, e, hun, hcn⟩ := hn'.out.all hlt
    cases e
    have hrl := hr'.out i hlt
    obtain ⟨Au, cu, rfl, hum⟩ := hun.shape
    have hcn' := Lib.hid hcn
    have a0 := hcn wr hS.below
    have b1 : (0 : Int) ≤ (i : Int) := by omega
    have b2 : (i : Int) < (xss.length : Int) := by omega
    obtain ⟨xs, hxs⟩ : ∃ xs, xs = xss[i] := ⟨_, rfl⟩
    have hxs' := Lib.hid hxs
    rw [← hxs] at hun hrl a0 hcn hum
    have bx0 : (0 : Int) ≤ (xs.length : Int) := by omega
    have bx1 : (xs.length : Int) ≤ 1048576 := by omega
    have hun' := Lib.hid hun
    have hS' := Lib.hid hS
    clear hxs hun hS hcn'
    have hcn' := Lib.hid hcn
    clear hcn
    go_wp2_with fail
    go_region_held3 (fun w' => w'.cell? (ad.add i) = some (.slice Au xs.length cu))
      (first | (exact hcn'.out _ (hSd.out).below) | (exact hcn'.out _ (hSc.out.alloc _).below) | (exact hcn'.out _ hSc.out.below) | (exact hcn'.out _ (hSa.out.alloc _).below) | (exact hcn'.out _ hSa.out.below) | go_keep)
      (first
        | ((refine step_append_any_sep 0 (by rfl) _ _ 29 (by rfl) 3 i0 (.int .i64 0) 1 8 Try.underlying29 hi hz0 hz1 hz2 rfl (by decide) (hS'.out.drew.sl_nil 3 1) (.slice none 0 0) 0 [] (by rfl) (by rfl) (.slice Au xs.length cu) xs.length (xs.map (.int .i64)) (by rfl) (hun'.out.below hS'.out.drew.below) (by simp [Value.oneCell']) (by unfold maxLen; omega) (by omega) ?_); intro va w1 hSa hza; simp only [List.set_cons_zero, Nat.zero_add, List.nil_append] at hSa; replace hSa := Lib.hid hSa; clear hza)
        | ((refine step_append_sep 0 (by rfl) _ _ 29 (by rfl) 3 i0 (.int .i64 0) 1 8 Try.underlying29 hi hz0 hz1 hz2 rfl (by decide) (hSa.out.alloc (.cells #[.int .i64 (-71)] 3)) va xs.length (xs.map (.int .i64)) (by rfl) (by rfl) ⟨w1.heap.size, 0, none⟩ 1 1 [.int .i64 (-71)] (by rfl) (by rfl) (cell_one_new _ _ _) (by simp [Value.oneCell']) (by decide) (by unfold maxLen; omega) (by omega) ?_); intro g cap w2 hSc hzc; simp only [List.set_cons_zero] at hSc; replace hSc := Lib.hid hSc; clear hzc; obtain ⟨g', cap', e, _, _, hcap, hcm⟩ := hSc.out.sl_form 0 rfl (by omega); cases e; unfold maxLen at hcm; have hcap1 : (xs.length : Int) ≤ (cap : Int) := (by omega); have hcap2 : (cap : Int) ≤ 9223372036854775807 := (by omega))
        | ((refine step_append_any_sep 0 (by rfl) _ _ 29 (by rfl) 3 i0 (.int .i64 0) 1 8 Try.underlying29 hi hz0 hz1 hz2 rfl (by decide) ((hS'.out.lit 3 #[.int .i64 (-71)] (by simp [maxLen])).drew.sl_nil 3 1) (.slice none 0 0) 0 [] (by rfl) (by rfl) (.slice Au xs.length cu) xs.length (xs.map (.int .i64)) (by rfl) (hun'.out.below (hS'.out.alloc _).drew.below) (by simp [Value.oneCell']) (by unfold maxLen; omega) (by omega) ?_); intro va w1 hSa hza; simp only [List.set_cons_zero, Nat.zero_add, List.nil_append] at hSa; replace hSa := Lib.hid hSa; clear hza)
        | ((refine step_append_sep 0 (by rfl) _ _ 29 (by rfl) 3 i0 (.int .i64 0) 1 8 Try.underlying29 hi hz0 hz1 hz2 rfl (by decide) hSa.out va xs.length (xs.map (.int .i64)) (by rfl) (by rfl) ⟨wr.heap.size, 0, none⟩ 1 1 [.int .i64 (-71)] (by rfl) (by rfl) (Rd.news (hSa.out.rd 1 rfl)) (by simp [Value.oneCell']) (by decide) (by unfold maxLen; omega) (by omega) ?_); intro g cap w2 hSc0 hzc; have hSc := Lib.hid (Sep.drop 1 (Sep.sel [1, 0] hSc0 (by decide) (by simp))); clear hSc0 hzc; obtain ⟨g', cap', e, _, _, hcap, hcm⟩ := hSc.out.sl_form 0 rfl (by omega); cases e; unfold maxLen at hcm; have hcap1 : (xs.length : Int) ≤ (cap : Int) := (by omega); have hcap2 : (cap : Int) ≤ 9223372036854775807 := (by omega))
        | ((refine step_append_sep 1 (by rfl) _ _ 22 (by rfl) 29 i1 (.slice none 0 0) 1 24 Try.underlying22 hi1 hz10 hz11 hz12 rfl (by decide) (hSc.out.alloc (.cells #[.slice (some ⟨g, 0, none⟩) xs.length cap] 29)) u3 i vs (by rfl) (by rfl) ⟨w2.heap.size, 0, none⟩ 1 1 [.slice (some ⟨g, 0, none⟩) xs.length cap] (by rfl) (by rfl) (cell_one_new _ _ _) (by simp [Value.oneCell']) (by decide) (by unfold maxLen; omega) (by omega) ?_); intro g2 cap2 w3 hSd hzd; replace hSd := Lib.hid hSd; clear hzd)
        | fail)
    all_goals
      have hSe : Sep w w3 (.sl 29 1 (.slice (some ⟨g2, 0, none⟩) (i + 1) cap2) (i + 1) (vs ++ [.slice (some ⟨g, 0, none⟩) xs.length cap]) :: List.zipWith lentRow (vs ++ [.slice (some ⟨g, 0, none⟩) xs.length cap]) (xss.take (i + 1))) := by
        have e : xss.take (i + 1) = xss.take i ++ [xs] := by rw [List.take_add_one, List.getElem?_eq_getElem hlt, ← hxs'.out]; rfl
        have hl2 : vs.length = (xss.take i).length := by rw [List.length_take]; omega
        rw [e, List.zipWith_append hl2]
        exact hSd.out.perm ((List.Perm.swap _ _ _).trans (.cons _ (List.perm_append_singleton _ _).symm))
      have hSe' := Lib.hid hSe
      clear hSe hSd hSc hSa hcn' hS'
      go_wp2_with fail
      go_roundg (xss.length - (i + 1))
      case measure => rw [hm.out]; omega
      case rel => exact ⟨i + 1, by omega, rfl, by go_num, _, by simp [hvl], hSe'.out⟩
end Go.Proofs.Ytdidkpgdjehodaa
