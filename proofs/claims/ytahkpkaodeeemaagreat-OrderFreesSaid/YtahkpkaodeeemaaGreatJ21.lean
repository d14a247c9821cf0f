/- Floats, ModelWt, laid together. -/
import Derived.Laws.FloatArith
import Derived.Laws.ComplexArith
import Derived.Test.YtahkpkaodeeemaaGreatJ20
import Derived.WalkLawsBesides
namespace Go.Proofs.YtahkpkaodeeemaaGreat
open Ieee
set_option linter.unusedVariables false

theorem cut_exact (neg : Bool) (q d : Nat) (hq : 0 < q) : Toward.even.cut neg (q * 2 ^ d) d = q := by
  have hl : d ≤ (q * 2 ^ d).log2 := by
    rw [Nat.le_log2 (Nat.ne_of_gt (Nat.mul_pos hq (Nat.two_pow_pos d)))]
    exact Nat.le_mul_of_pos_left _ hq
  unfold Toward.cut
  have hm : min d ((q * 2 ^ d).log2 + 2) = d := by omega
  simp only [hm, Nat.one_shiftLeft]
  rw [Nat.mul_div_cancel _ (Nat.two_pow_pos d), Nat.mul_mod_left]
  have := Nat.two_pow_pos d
  simp
theorem log2_shift {m : Nat} (hm : 0 < m) (k : Nat) : (m * 2 ^ k).log2 = m.log2 + k := by
  have h1 : m * 2 ^ k ≠ 0 := Nat.ne_of_gt (Nat.mul_pos hm (Nat.two_pow_pos k))
  apply Nat.le_antisymm
  · have h2 : (m * 2 ^ k).log2 < m.log2 + k + 1 := by
      rw [Nat.log2_lt h1]
      have := (Nat.log2_lt (k := m.log2 + 1) (Nat.ne_of_gt hm)).1 (Nat.lt_succ_self _)
      have e : 2 ^ (m.log2 + k + 1) = 2 ^ (m.log2 + 1) * 2 ^ k := by rw [← Nat.pow_add]; congr 1; omega
      rw [e]
      exact Nat.mul_lt_mul_of_pos_right this (Nat.two_pow_pos k)
    omega
  · rw [Nat.le_log2 h1, Nat.pow_add]
    exact Nat.mul_le_mul_right _ ((Nat.le_log2 (Nat.ne_of_gt hm)).1 (Nat.le_refl _))

/-- The digits that a whole number lacks to be full. -/
def lack (m : Nat) : Nat := 52 - m.log2
theorem near_shift (neg : Bool) (m k : Nat) (hm : 0 < m) (h53 : m < 2 ^ 53) (hk : k ≤ 1074) : double.nearest neg (m * 2 ^ k) (-(k : Int)) = double.word neg (((1074 - lack m : Nat)) * 2 ^ 52 + m * 2 ^ lack m) := by
  have hl : m.log2 ≤ 52 := by
    have := (Nat.log2_lt (k := 53) (Nat.ne_of_gt hm)).2 h53
    omega
  unfold Format.nearest
  rw [if_neg (Nat.ne_of_gt (Nat.mul_pos hm (Nat.two_pow_pos k))), log2_shift hm]
  have e1 : double.leastPlace = -1074 := by decide
  have e2 : double.fractionBits = 52 := rfl
  have e3 : double.binade = 2 ^ 52 := rfl
  have e4 : double.infRung = 2047 * 2 ^ 52 := by decide
  rw [e1, e2, e3, e4]
  have hlast : max (-(k : Int) + ((m.log2 + k : Nat) : Int) - (52 : Nat)) (-1074) = -((lack m : Nat) : Int) := by unfold lack; omega
  rw [hlast]
  dsimp only
  have hL : lack m ≤ 52 := by unfold lack; omega
  have ht : (-((lack m : Nat) : Int) - -1074).toNat = 1074 - lack m := by omega
  rw [ht]
  have hkept : Toward.even.cut neg ((m * 2 ^ k) <<< (-(k : Int) - -((lack m : Nat) : Int)).toNat) (-((lack m : Nat) : Int) - -(k : Int)).toNat = m * 2 ^ lack m := by
    rcases Nat.le_total k (lack m) with h | h
    · have a1 : (-(k : Int) - -((lack m : Nat) : Int)).toNat = lack m - k := by omega
      have a2 : (-((lack m : Nat) : Int) - -(k : Int)).toNat = 0 := by omega
      rw [a1, a2, Nat.shiftLeft_eq]
      have e : m * 2 ^ k * 2 ^ (lack m - k) = m * 2 ^ lack m := by rw [Nat.mul_assoc, ← Nat.pow_add]; congr 2; omega
      rw [e]
      have := cut_exact neg (m * 2 ^ lack m) 0 (Nat.mul_pos hm (Nat.two_pow_pos _))
      simpa using this
    · have a1 : (-(k : Int) - -((lack m : Nat) : Int)).toNat = 0 := by omega
      have a2 : (-((lack m : Nat) : Int) - -(k : Int)).toNat = k - lack m := by omega
      rw [a1, a2, Nat.shiftLeft_zero]
      have e : m * 2 ^ k = m * 2 ^ lack m * 2 ^ (k - lack m) := by rw [Nat.mul_assoc, ← Nat.pow_add]; congr 2; omega
      rw [e]
      exact cut_exact neg _ _ (Nat.mul_pos hm (Nat.two_pow_pos _))
  rw [hkept]
  have hb : m * 2 ^ lack m < 2 ^ 53 := by
    have h1 := (Nat.log2_lt (k := m.log2 + 1) (Nat.ne_of_gt hm)).1 (Nat.lt_succ_self _)
    have h2 : m * 2 ^ lack m < 2 ^ (m.log2 + 1) * 2 ^ lack m := Nat.mul_lt_mul_of_pos_right h1 (Nat.two_pow_pos _)
    rw [← Nat.pow_add] at h2
    have e : m.log2 + 1 + lack m = 53 := by unfold lack; omega
    rwa [e] at h2
  rw [Nat.min_eq_left (by omega)]

/-- A whole number as a word. -/
def fI (n : Int) : Nat := FloatKind.nearest .f64 n
theorem fI_eq (n : Int) : fI n = double.nearest (decide (n < 0)) n.natAbs 0 := rfl
theorem fI_zero : fI 0 = 0 := by decide
/-- Small: a word of 52 digits has it. -/
def SmallI (n : Int) : Prop := n.natAbs < 2 ^ 53
theorem fI_shift {n : Int} (hn : SmallI n) {k : Nat} (hk : k ≤ 1074) : double.nearest (decide (n < 0)) (n.natAbs * 2 ^ k) (-(k : Int)) = fI n := by
  rw [fI_eq]
  rcases Nat.eq_zero_or_pos n.natAbs with h0 | h0
  · rw [h0, Nat.zero_mul]
    simp [Format.nearest]
  · rw [near_shift _ _ _ h0 hn hk]
    have := near_shift (decide (n < 0)) n.natAbs 0 h0 hn (by decide)
    rw [← this]
    simp
theorem zero_form (L : Nat) (h : L = 1074) : double.read (fI 0) = .number (decide ((0 : Int) < 0)) ((0 : Int).natAbs * 2 ^ L) (-(L : Int)) := by
  rw [Int.natAbs_zero, Nat.zero_mul, fI_zero, h]
  decide
set_option maxRecDepth 100000 in
theorem read_fI {n : Int} (hn : SmallI n) : ∃ L : Nat, L ≤ 1074 ∧ double.read (fI n) = .number (decide (n < 0)) (n.natAbs * 2 ^ L) (-(L : Int)) := by
  rcases Nat.eq_zero_or_pos n.natAbs with h0 | h0
  · have : n = 0 := by omega
    subst this
    obtain ⟨L, hL⟩ : ∃ L, L = 1074 := ⟨_, rfl⟩
    exact ⟨L, by omega, zero_form L hL⟩
  · have hl : n.natAbs.log2 ≤ 52 := by
      have := (Nat.log2_lt (k := 53) (Nat.ne_of_gt h0)).2 hn
      omega
    refine ⟨lack n.natAbs, by unfold lack; omega, ?_⟩
    have e := near_shift (decide (n < 0)) n.natAbs 0 h0 hn (by decide)
    have e0 : fI n = double.word (decide (n < 0)) (((1074 - lack n.natAbs : Nat)) * 2 ^ 52 + n.natAbs * 2 ^ lack n.natAbs) := by
      rw [fI_eq, ← e]
      simp
    have hb1 : n.natAbs * 2 ^ lack n.natAbs < 2 ^ 53 := by
      have h1 := (Nat.log2_lt (k := n.natAbs.log2 + 1) (Nat.ne_of_gt h0)).1 (Nat.lt_succ_self _)
      have h2 : n.natAbs * 2 ^ lack n.natAbs < 2 ^ (n.natAbs.log2 + 1) * 2 ^ lack n.natAbs := Nat.mul_lt_mul_of_pos_right h1 (Nat.two_pow_pos _)
      rw [← Nat.pow_add] at h2
      have e : n.natAbs.log2 + 1 + lack n.natAbs = 53 := by unfold lack; omega
      rwa [e] at h2
    have hb2 : 2 ^ 52 ≤ n.natAbs * 2 ^ lack n.natAbs := by
      have h1 := (Nat.le_log2 (k := n.natAbs.log2) (Nat.ne_of_gt h0)).1 (Nat.le_refl _)
      have h2 : 2 ^ n.natAbs.log2 * 2 ^ lack n.natAbs ≤ n.natAbs * 2 ^ lack n.natAbs := Nat.mul_le_mul_right _ h1
      rw [← Nat.pow_add] at h2
      have e : n.natAbs.log2 + lack n.natAbs = 52 := by unfold lack; omega
      rwa [e] at h2
    have hlk : lack n.natAbs ≤ 52 := by unfold lack; omega
    rw [e0]
    generalize n.natAbs * 2 ^ lack n.natAbs = q at hb1 hb2 ⊢
    generalize lack n.natAbs = L at hlk ⊢
    have hr : (1074 - L) * 2 ^ 52 + q < 2 ^ 63 := by omega
    have hd : ((1074 - L) * 2 ^ 52 + q) / 2 ^ 52 = 1074 - L + 1 := by omega
    have hm : ((1074 - L) * 2 ^ 52 + q) % 2 ^ 52 = q - 2 ^ 52 := by omega
    have e1 : double.leastPlace = -1074 := by decide
    have e3 : double.binade = 2 ^ 52 := rfl
    have e4 : double.infRung = 2047 * 2 ^ 52 := by decide
    have e5 : double.signWeight = 2 ^ 63 := rfl
    unfold Format.read Format.word
    rw [e1, e3, e4, e5]
    cases decide (n < 0) with
    | false =>
      have a1 : ((1074 - L) * 2 ^ 52 + q) / 2 ^ 63 % 2 = 0 := by omega
      have a2 : ((1074 - L) * 2 ^ 52 + q) % 2 ^ 63 = (1074 - L) * 2 ^ 52 + q := Nat.mod_eq_of_lt hr
      simp only [Bool.false_eq_true, if_false, a1, a2, hd, hm]
      rw [if_neg (by omega), if_pos (by omega)]
      have z1 : 2 ^ 52 + (q - 2 ^ 52) = q := by omega
      have z2 : (-1074 : Int) + ((1074 - L + 1 - 1 : Nat) : Int) = -(L : Int) := by omega
      rw [z1, z2]
      rfl
    | true =>
      have a1 : (2 ^ 63 + ((1074 - L) * 2 ^ 52 + q)) / 2 ^ 63 % 2 = 1 := by omega
      have a2 : (2 ^ 63 + ((1074 - L) * 2 ^ 52 + q)) % 2 ^ 63 = (1074 - L) * 2 ^ 52 + q := by omega
      simp only [if_true, a1, a2, hd, hm]
      rw [if_neg (by omega), if_pos (by omega)]
      have z1 : 2 ^ 52 + (q - 2 ^ 52) = q := by omega
      have z2 : (-1074 : Int) + ((1074 - L + 1 - 1 : Nat) : Int) = -(L : Int) := by omega
      rw [z1, z2]
      rfl

theorem signed_up (n : Int) (L K : Nat) (h : L ≤ K) : signed (decide (n < 0)) (n.natAbs * 2 ^ L) (-(L : Int) - -(K : Int)).toNat = n * 2 ^ K := by
  have e : (-(L : Int) - -(K : Int)).toNat = K - L := by omega
  rw [e]
  unfold signed
  rw [Nat.shiftLeft_eq, Nat.mul_assoc, ← Nat.pow_add, Nat.add_sub_cancel' h]
  have hc : ((n.natAbs * 2 ^ K : Nat) : Int) = (n.natAbs : Int) * 2 ^ K := by simp
  rw [hc]
  by_cases h0 : n < 0
  · rw [if_pos (by simpa using h0)]
    have : (n.natAbs : Int) = -n := by omega
    rw [this, Int.neg_mul, Int.neg_neg]
  · rw [if_neg (by simpa using h0)]
    have : (n.natAbs : Int) = n := by omega
    rw [this]
theorem min_neg (a b : Nat) : min (-(a : Int)) (-(b : Int)) = -((max a b : Nat) : Int) := by omega
theorem signed_not (s : Bool) (m u : Nat) : signed (!s) m u = -(signed s m u) := by
  unfold signed
  cases s <;> simp
theorem pow_pos_int (K : Nat) : (0 : Int) < 2 ^ K := by
  have := Nat.two_pow_pos K
  have e : ((2 ^ K : Nat) : Int) = 2 ^ K := by simp
  omega
theorem sum_number {a b : Int} {K : Nat} (hs : SmallI (a + b)) (hK : K ≤ 1074) (z : Bool) (hz : a + b = 0 → z = false) :
    double.write (.number (if a * 2 ^ K + b * 2 ^ K = 0 then z else decide (a * 2 ^ K + b * 2 ^ K < 0)) (a * 2 ^ K + b * 2 ^ K).natAbs (-(K : Int))) = fI (a + b) := by
  rw [← Int.add_mul]
  have hp := pow_pos_int K
  have hna : ((a + b) * 2 ^ K).natAbs = (a + b).natAbs * 2 ^ K := by
    rw [Int.natAbs_mul, Int.natAbs_pow]
    rfl
  rw [hna]
  have hneg : (if (a + b) * 2 ^ K = 0 then z else decide ((a + b) * 2 ^ K < 0)) = decide (a + b < 0) := by
    by_cases h0 : a + b = 0
    · rw [h0, Int.zero_mul, if_pos rfl, hz h0]
      rfl
    · have h1 : (a + b) * 2 ^ K ≠ 0 := Int.mul_ne_zero h0 (by omega)
      rw [if_neg h1]
      apply decide_eq_decide.2
      constructor
      · intro h
        rw [Int.mul_comm] at h
        exact Int.neg_of_mul_neg_right h (by omega)
      · intro h
        exact Int.mul_neg_of_neg_of_pos h hp
  rw [hneg]
  exact fI_shift hs hK
theorem add_fI {a b : Int} (ha : SmallI a) (hb : SmallI b) (hs : SmallI (a + b)) : floatBits .add .f64 (fI a) (fI b) = some (fI (a + b)) := by
  obtain ⟨L, hL, ra⟩ := read_fI ha
  obtain ⟨M, hM, rb⟩ := read_fI hb
  show double.add (fI a) (fI b) = _
  unfold Format.add
  rw [ra, rb]
  unfold Datum.sum
  simp only [min_neg, Option.map_some]
  rw [signed_up a L _ (Nat.le_max_left _ _), signed_up b M _ (Nat.le_max_right _ _)]
  congr 1
  refine sum_number hs (by omega) _ fun h => ?_
  by_cases h1 : a < 0
  · have : ¬ b < 0 := by omega
    simp [this]
  · simp [h1]
theorem sub_fI {a b : Int} (ha : SmallI a) (hb : SmallI b) (hs : SmallI (a - b)) : floatBits .sub .f64 (fI a) (fI b) = some (fI (a - b)) := by
  obtain ⟨L, hL, ra⟩ := read_fI ha
  obtain ⟨M, hM, rb⟩ := read_fI hb
  show double.sub (fI a) (fI b) = _
  unfold Format.sub
  rw [ra, rb]
  unfold Datum.opposite Datum.sum
  simp only [min_neg, Option.map_some]
  rw [signed_not, signed_up a L _ (Nat.le_max_left _ _), signed_up b M _ (Nat.le_max_right _ _)]
  congr 1
  rw [← Int.neg_mul]
  refine sum_number (b := -b) (by simpa [Int.sub_eq_add_neg] using hs) (by omega) _ fun h => ?_
  by_cases h1 : a < 0
  · have : b < 0 := by omega
    simp [this]
  · simp [h1]
theorem order_fI {a b : Int} (ha : SmallI a) (hb : SmallI b) : double.order (fI a) (fI b) = some (compare a b) := by
  obtain ⟨L, hL, ra⟩ := read_fI ha
  obtain ⟨M, hM, rb⟩ := read_fI hb
  unfold Format.order
  rw [ra, rb]
  unfold Datum.order
  simp only [min_neg]
  rw [signed_up a L _ (Nat.le_max_left _ _), signed_up b M _ (Nat.le_max_right _ _)]
  congr 1
  have hp := pow_pos_int (max L M)
  rcases Int.lt_trichotomy a b with h | h | h
  · rw [Int.compare_eq_lt.2 h, Int.compare_eq_lt]
    exact Int.mul_lt_mul_of_pos_right h hp
  · subst h
    rw [Int.compare_eq_eq.2 rfl]
    exact (Int.compare_eq_eq.2 rfl).symm
  · rw [Int.compare_eq_gt.2 h, Int.compare_eq_gt]
    exact Int.mul_lt_mul_of_pos_right h hp
end Go.Proofs.YtahkpkaodeeemaaGreat

namespace Go.Proofs.YtahkpkaodeeemaaGreat
open Go.RowKit
set_option linter.unusedVariables false

def dvLen : Value → Nat
  | .slice _ n _ => n
  | _ => 0
/-- The blocks of a file of so many bytes. -/
def fileB (n : Nat) : Int := if 8 < ((n : Int) + 512 - 1) / 512 then ((n : Int) + 512 - 1) / 512 + 1 else ((n : Int) + 512 - 1) / 512
theorem fileB_le {n : Nat} (h : n ≤ 8192) : 0 ≤ fileB n ∧ fileB n ≤ 17 := by
  unfold fileB
  split <;> omega
def wB : List FEnt → Int
  | [] => 0
  | f :: Fs => fileB (dvLen f.dv) + wB Fs
def DvOk (Fs : List FEnt) : Prop := ∀ f ∈ Fs, ∃ A n c, f.dv = .slice A n c ∧ n ≤ 8192
def cplx (b i : Int) : Value := .complex .f64 (fI b) (fI i)
theorem fI_one : fI 1 = 4607182418800017408 := by decide
theorem wB_le {Fs : List FEnt} (h : DvOk Fs) : 0 ≤ wB Fs ∧ wB Fs ≤ 17 * Fs.length := by
  induction Fs with
  | nil => simp [wB]
  | cons f Fs ih =>
    obtain ⟨i1, i2⟩ := ih fun g hg => h g (List.mem_cons_of_mem _ hg)
    obtain ⟨A, n, c, e, hn⟩ := h f (by simp)
    have := fileB_le hn
    unfold wB
    rw [e]
    simp only [dvLen, List.length_cons]
    omega
/-- A file is taken out of the sum. -/
theorem wB_out {Gs : List FEnt} (hk : Gs.Pairwise fun a b => a.id ≠ b.id) {f : FEnt} (hf : f ∈ Gs) :
    wB Gs = fileB (dvLen f.dv) + wB (Gs.filter fun g => !(decide (g.id = f.id))) ∧ Gs.length = (Gs.filter fun g => !(decide (g.id = f.id))).length + 1 := by
  induction Gs with
  | nil => cases hf
  | cons g Gs ih =>
    obtain ⟨h1, h2⟩ := List.pairwise_cons.1 hk
    rcases List.mem_cons.1 hf with rfl | hm
    · have e : Gs.filter (fun g => !(decide (g.id = f.id))) = Gs := List.filter_eq_self.2 fun g hg => by
        have := h1 g hg
        simp
        omega
      rw [List.filter_cons]
      simp only [decide_true, Bool.not_true, Bool.false_eq_true, if_false, e]
      exact ⟨rfl, rfl⟩
    · obtain ⟨i1, i2⟩ := ih h2 hm
      have hne : (decide (g.id = f.id)) = false := by
        have := h1 f hm
        simpa using this
      rw [List.filter_cons]
      simp only [hne, Bool.not_false, if_true]
      unfold wB
      rw [i1, List.length_cons, List.length_cons, i2]
      refine ⟨by omega, rfl⟩
theorem filesL_del (Gs : List FEnt) (id : Nat) : delM (filesL Gs) (.int .i64 id) = filesL (Gs.filter fun g => !(decide (g.id = id))) := by
  unfold delM filesL
  rw [List.filter_map]
  congr 1
  refine List.filter_congr fun g _ => ?_
  simp [Lit.sameKey]
  omega
theorem ids_ne {Fs : List FEnt} (h : KeysM (filesL Fs)) : Fs.Pairwise fun a b => a.id ≠ b.id := by
  have := h.ne
  unfold filesL at this
  rw [List.pairwise_map] at this
  refine this.imp fun {a b} hab e => hab ?_
  show Lit.int .i64 _ = Lit.int .i64 _
  rw [e]

theorem run_csum (t : TypeId) (a b c d : Int) (ha : SmallI a) (hb : SmallI b) (hc : SmallI c) (hd : SmallI d) (h1 : SmallI (a + c)) (h2 : SmallI (b + d)) (w : World) :
    (binOp .add t (cplx a b) (cplx c d)).run Tryz.prog w = .ok (cplx (a + c) (b + d)) w := by
  refine run_complex_sum (P := Tryz.prog) (w := w) .add (.inl rfl) t .f64 (fI a) (fI b) (fI c) (fI d) (fI (a + c)) (fI (b + d)) ?_
  unfold cSumBits
  rw [add_fI ha hc h1, add_fI hb hd h2]
  rfl

set_option maxRecDepth 100000 in
set_option maxHeartbeats 2000000 in
theorem weight_any {w0 w : World} {W bn bf bk next : Nat} {Ns : List NEnt} {Fs : List FEnt} {Lk : List (Lit × Value)} {R : List Asn} (hS : Sep w0 w (wAs W bn bf bk next Ns Fs Lk R)) (hd : DvOk Fs) (hl : Fs.length ≤ 1000) {k : Nat} (hk : (getM Lk (.string [])).getD (.int .i64 0) = .int .i64 k) (hk9 : k ≤ 16) :
    Calls Tryz.prog 37 #[.pointer (some ⟨W, 0, none⟩)] w fun e w' => e = .returned (cplx (1 + wB Fs) (1 + Fs.length)) ∧ Sep w0 w' (wAs W bn bf bk next Ns Fs Lk R) := by
  have d0 := hS.box_cell 0 rfl 0
  have d2 := hS.box_cell 0 rfl 2
  have hlk := hS.gm_look 3 rfl keyed_str Tryz.underlying68 (zero_int' _) (keyOf_strV [] (by simp))
  rw [hk] at hlk
  simp only [worldCells, List.getElem?_toArray, List.getElem?_cons_zero, List.getElem?_cons_succ, strV] at d0 d2 hlk
  have hpa := fun W => parts_any (k : Int) 16 (by omega) (by omega) (by omega) (by omega) W
  have hmx : max (1 : Int) (((k : Int) + 16 - 1) / 16) = 1 := by omega
  have hpa' := Lib.hid hpa
  have hS' := Lib.hid hS
  have hd' := Lib.hid hd
  obtain ⟨w1, hrg, hS1, hsz⟩ := hS.gm_range 1 rfl keyed_str Tryz.underlying105
  have hS1' := Lib.hid hS1
  clear hS hS1 hpa hd hk
  go_enter Tryz.func37, Tryz.ntmps37
  go_wp2_with (first
    | (go_at_call 54; refine (hpa'.out _).mono ?_; rintro e w9 ⟨rfl, hw9⟩; subst hw9)
    | fail)
  have hf1 : floatOfInt .f64 1 = fI 1 := rfl
  go_loopg [3] (nodesL Ns).length (fun g i3 wr => ∃ left, Hid (g = left.length) ∧ i3 = .complex .f64 (floatOfInt .f64 1) 4607182418800017408 ∧ left.Sublist (nodesL Ns) ∧ Sep w0 wr ((wAs W bn bf bk next Ns Fs Lk R).set 1 (grangeR 9 bn w9.heap.size (nodesL Ns).length (nodesL Ns) left)))
  case atStart => exact ⟨_, rfl, rfl, List.Sublist.refl _, hS1'.out⟩
  case round =>
    obtain ⟨left, hg, rfl, hsub, hS⟩ := hrel
    rcases hS.grange_next 1 rfl keyed_str 0 with ⟨rfl, hnx⟩ | ⟨key, v, kl, w3, hkey, hmem, hnx, hS3, hsz3, hen⟩
    · have hSe := hS.gm_end 1 rfl
      have f1 := hSe.box_cell 0 rfl 1
      simp only [worldCells, List.getElem?_toArray, List.getElem?_cons_zero, List.getElem?_cons_succ] at f1
      obtain ⟨w2, hrg2, hS2, hsz2⟩ := hSe.gm_range 2 rfl keyed_int' Tryz.underlying106
      have hS2' := Lib.hid hS2
      clear hS hSe hS2 hS1' hS'
      go_wp2_with fail
      go_loopg [3] (filesL Fs).length (fun g i3 wr3 => ∃ Gs : List FEnt, Hid (g = Gs.length) ∧ (∃ B I : Int, i3 = cplx B I ∧ 0 ≤ B ∧ 0 ≤ I ∧ B + wB Gs = 1 + wB Fs ∧ I + Gs.length = 1 + Fs.length) ∧ Gs.Sublist Fs ∧ Sep w0 wr3 ((wAs W bn bf bk next Ns Fs Lk R).set 2 (grangeR 3 bf wr.heap.size (filesL Fs).length (filesL Fs) (filesL Gs))))
      case atStart => exact ⟨Fs, Lib.hid (by simp [filesL]), ⟨1, 1, by rw [hf1, cplx, fI_one], by omega, by omega, rfl, rfl⟩, List.Sublist.refl _, hS2'.out⟩
      case round =>
        clear hS2'
        obtain ⟨Gs, hg, ⟨B, I, rfl, hB0, hI0, hB, hI⟩, hsub, hS⟩ := hrel
        rcases hS.grange_next 2 rfl keyed_int' 0 with ⟨hnil, hnx⟩ | ⟨key, v, kl, w3, hkey, hmem, hnx, hS3, hsz3, hen⟩
        · have : Gs = [] := by simpa [filesL] using hnil
          subst this
          have hSe := hS.gm_end 2 rfl
          have hSe' := Lib.hid hSe
          have e1 : B = 1 + wB Fs := by simpa [wB] using hB
          have e2 : I = 1 + (Fs.length : Int) := by simpa using hI
          subst e1 e2
          clear hS hSe
          go_wp2_with fail
          go_ret
          exact ⟨rfl, hSe'.out⟩
        · unfold filesL at hmem
          obtain ⟨f, hfm, hff⟩ := List.mem_map.1 hmem
          cases hff
          have hk2 := keyed_int'.key hkey
          have hkm := (hS.gm_end 2 rfl).gm_keys 2 rfl
          have hids := (ids_ne hkm).sublist hsub
          obtain ⟨ho1, ho2⟩ := wB_out hids hfm
          rw [filesL_del] at hS3
          obtain ⟨A, n, c, hdv, hn⟩ := hd'.out f (hsub.subset hfm)
          obtain ⟨j, hj⟩ := List.mem_iff_getElem?.1 (hsub.subset hfm)
          have hfi : ((wAs W bn bf bk next Ns Fs Lk R).set 2 (grangeR 3 bf wr.heap.size (filesL Fs).length (filesL Fs) (filesL (Gs.filter fun g => !(decide (g.id = f.id))))))[j + 4]? = some (fileBox f) := by
            show (Fs.map fileBox ++ R)[j]? = _
            have hj2 := (List.getElem?_eq_some_iff.1 hj).1
            rw [List.getElem?_append_left (by simpa using hj2), List.getElem?_map, hj]
            rfl
          have f2 := hS3.box_cell (j + 4) hfi 2
          simp only [List.getElem?_toArray, List.getElem?_cons_zero, List.getElem?_cons_succ] at f2
          rw [hdv] at f2
          have hd2 := fileB_le hn
          obtain ⟨hg1, hg2⟩ := wB_le (Fs := Gs.filter fun g => !(decide (g.id = f.id))) (fun g hg => hd'.out g (hsub.subset (List.mem_filter.1 hg).1))
          have hpb := Lib.hid (fun W => parts_any (n : Int) 512 (by omega) (by omega) (by omega) (by omega) W)
          obtain ⟨q, hq⟩ : ∃ q : Int, ((n : Int) + 512 - 1) / 512 = q := ⟨_, rfl⟩
          have hq0 : 0 ≤ q ∧ q ≤ 16 := by omega
          rw [hq] at hpb
          rw [hdv] at ho1
          have hS3' := Lib.hid hS3
          have hfin := Lib.hid (And.intro hg ho2)
          have hwF := wB_le hd'.out
          clear hg hS hS3 hids hkm hd' hfi
          by_cases h8 : 8 < q
          · have hfb : fileB n = q + 1 := by unfold fileB; rw [hq, if_pos h8]
            simp only [dvLen] at ho1
            rw [hfb] at ho1
            have hcs := run_csum 58 B I (q + 1) 1 (by unfold SmallI; omega) (by unfold SmallI; omega) (by unfold SmallI; omega) (by unfold SmallI; omega) (by unfold SmallI; omega) (by unfold SmallI; omega) w3
            have hq1 : IntKind.i64.wrap (q + 1) = q + 1 := IntWalk.i64_in _ (by omega)
            unfold cplx at hcs ⊢
            rw [fI_one, show fI (q + 1) = floatOfInt .f64 (q + 1) from rfl] at hcs
            go_wp2_with (first
              | (go_at_call 54; refine (hpb.out _).mono ?_; rintro e w7 ⟨rfl, hw7⟩; (have hw8 := hw7.symm); clear hw7; subst hw8)
              | fail)
            go_roundg ((Gs.filter fun g => !(decide (g.id = f.id))).length)
            case rel => exact ⟨_, rfl, ⟨B + (q + 1), I + 1, rfl, by omega, by omega, by omega, by have := hfin.out.2; omega⟩, List.filter_sublist.trans hsub, hS3'.out⟩
            case measure =>
              obtain ⟨h1, h2⟩ := hfin.out
              have h3 : _ = Gs.length := h1.out
              omega
          · have hfb : fileB n = q := by unfold fileB; rw [hq, if_neg h8]
            simp only [dvLen] at ho1
            rw [hfb] at ho1
            have hcs := run_csum 58 B I (q) 1 (by unfold SmallI; omega) (by unfold SmallI; omega) (by unfold SmallI; omega) (by unfold SmallI; omega) (by unfold SmallI; omega) (by unfold SmallI; omega) w3
            unfold cplx at hcs ⊢
            rw [fI_one, show fI (q) = floatOfInt .f64 (q) from rfl] at hcs
            go_wp2_with (first
              | (go_at_call 54; refine (hpb.out _).mono ?_; rintro e w7 ⟨rfl, hw7⟩; (have hw8 := hw7.symm); clear hw7; subst hw8)
              | fail)
            go_roundg ((Gs.filter fun g => !(decide (g.id = f.id))).length)
            case rel => exact ⟨_, rfl, ⟨B + (q), I + 1, rfl, by omega, by omega, by omega, by have := hfin.out.2; omega⟩, List.filter_sublist.trans hsub, hS3'.out⟩
            case measure =>
              obtain ⟨h1, h2⟩ := hfin.out
              have h3 : _ = Gs.length := h1.out
              omega
    · have hm := hsub.subset hmem
      unfold nodesL at hm
      obtain ⟨nd, _, hnd⟩ := List.mem_map.1 hm
      cases hnd
      have q0 : (0 : Int) ≤ (nd.id : Int) := by omega
      have hS4 := (hS3.box_new 110 #[.int .i64 nd.id, .int .i64 0])
      have hlt : (delM left (.string nd.path)).length < left.length := by
        have := delM_len ((hS.gm_end 1 rfl).gm_keys 1 rfl |>.sub hsub) (k := .string nd.path) (by exact keyed_str.key hkey)
        rw [getM_mem ((hS.gm_end 1 rfl).gm_keys 1 rfl |>.sub hsub) hmem] at this
        simp at this
        omega
      have hS4' := Lib.hid hS4
      have hg' := Lib.hid hg
      have hlt' := Lib.hid hlt
      clear hS hS3 hS4 hS1' hS' hg hlt
      go_wp2_with fail
      go_roundg ((delM left (.string nd.path)).length)
      case rel => exact ⟨delM left (.string nd.path), rfl, rfl, List.filter_sublist.trans hsub, by (have h9 := Sep.drop 1 hS4'.out); exact h9⟩
      case measure =>
        have h1 := hlt'.out
        have h2 : _ = left.length := hg'.out
        omega
end Go.Proofs.YtahkpkaodeeemaaGreat
