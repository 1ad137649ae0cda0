/- Proved: of a float from -2^63 up to below 2^63, that it equals its own truncation just if it equals the floor that is reckoned through an int64; and that all steps on the way have one answer. Condition: the float's word has 64 bits. -/
import Derived.Test.YtclploookcjcbaaDoorFlt
set_option linter.unusedVariables false
namespace Go.Proofs.YtclploookcjcbaaDoorW.FltL
open Go Go.RowKit Go.Proofs.YtclploookcjcbaaDoorW.PrintWords
open Ieee (Datum Format)

/-- What Trunc gives of a float that is no NaN. -/
def fok_trunc_ (a : Nat) : Bool := !(FloatKind.f64.decode a).isNaN
def fv_trunc_ (a : Nat) : Nat := FloatKind.f64.encode ((FloatKind.f64.decode a).integral .zero)
/-! ### numbers -/
theorem log2_mul (M p : Nat) (h : M ≠ 0) : (M * 2 ^ p).log2 = M.log2 + p := by
  have h1 := Nat.log2_self_le h
  have h2 := Nat.lt_log2_self (n := M)
  have hp : 0 < 2 ^ p := Nat.two_pow_pos p
  refine (Nat.log2_eq_iff (Nat.mul_ne_zero h (by omega))).2 ⟨?_, ?_⟩
  · rw [Nat.pow_add]; exact Nat.mul_le_mul_right _ h1
  · rw [show M.log2 + p + 1 = (M.log2 + 1) + p by omega, Nat.pow_add]; exact Nat.mul_lt_mul_of_pos_right h2 hp

theorem cut_exact (way : Ieee.Toward) (s : Bool) (K d : Nat) (hK : 0 < K) : way.cut s (K * 2 ^ d) d = K := by
  have hl : (K * 2 ^ d).log2 = K.log2 + d := log2_mul K d (by omega)
  have hd : 0 < 2 ^ d := Nat.two_pow_pos d
  unfold Ieee.Toward.cut
  dsimp only
  rw [hl, Nat.min_eq_left (by omega), Nat.one_shiftLeft, Nat.mul_div_cancel _ hd, Nat.mul_mod_left]
  cases way <;> simp <;> omega

theorem parts52 (L K R : Nat) (h : (L + 1022) * 4503599627370496 + K = R) (h1 : 4503599627370496 ≤ K) (h2 : K < 9007199254740992) : 4503599627370496 + R % 4503599627370496 = K ∧ R / 4503599627370496 = L + 1023 := by
  omega

theorem place52 (L : Nat) : (-1074 : Int) + ((L + 1023 - 1 : Nat) : Int) = (L : Int) - 52 := by omega

/-- A number of at most 53 binary digits is written as it is, and read again. -/
theorem readback (N : Nat) (hN : 1100 ≤ N) (s : Bool) (M p : Nat) (h0 : 0 < M) (h63 : M.log2 ≤ 63) (hdiv : ∃ q j, M = q * 2 ^ j ∧ q < 2 ^ 53) :
    ∃ (K : Nat) (e : Int), Format.read Ieee.double (Format.nearest Ieee.double s (M * 2 ^ p) (-(p : Int))) = .number s K e ∧ -1074 ≤ e ∧ K * 2 ^ (e + N).toNat = M * 2 ^ N := by
  have h1 := Nat.log2_self_le (show M ≠ 0 by omega)
  have h2 := Nat.lt_log2_self (n := M)
  generalize hL : M.log2 = L at *
  -- the digits that are kept
  obtain ⟨K, hK1, hK2, hKa, hKb⟩ : ∃ K, 2 ^ 52 ≤ K ∧ K < 2 ^ 53 ∧ (∀ n, 52 ≤ n + L → K * 2 ^ (n + L - 52) = M * 2 ^ n) ∧ (L < 52 → K = M * 2 ^ (52 - L)) := by
    by_cases c : L ≤ 52
    · refine ⟨M * 2 ^ (52 - L), ?_, ?_, ?_, fun _ => rfl⟩
      · calc 2 ^ 52 = 2 ^ L * 2 ^ (52 - L) := by rw [← Nat.pow_add]; congr 1; omega
          _ ≤ _ := Nat.mul_le_mul_right _ h1
      · calc M * 2 ^ (52 - L) < 2 ^ (L + 1) * 2 ^ (52 - L) := Nat.mul_lt_mul_of_pos_right h2 (Nat.two_pow_pos _)
          _ = 2 ^ 53 := by rw [← Nat.pow_add]; congr 1; omega
      · intro n hn
        rw [Nat.mul_assoc, ← Nat.pow_add]
        congr 2
        omega
    · obtain ⟨q, j, hq, hq53⟩ := hdiv
      have hj : L - 52 ≤ j := by
        have : 2 ^ L < 2 ^ (53 + j) := by
          calc 2 ^ L ≤ M := h1
            _ = q * 2 ^ j := hq
            _ < 2 ^ 53 * 2 ^ j := Nat.mul_lt_mul_of_pos_right hq53 (Nat.two_pow_pos _)
            _ = 2 ^ (53 + j) := by rw [← Nat.pow_add]
        have := (Nat.pow_lt_pow_iff_right (a := 2) (by omega)).1 this
        omega
      have hM : M = (q * 2 ^ (j - (L - 52))) * 2 ^ (L - 52) := by
        rw [Nat.mul_assoc, ← Nat.pow_add, show j - (L - 52) + (L - 52) = j by omega]; exact hq
      generalize q * 2 ^ (j - (L - 52)) = K at hM
      have hp : 0 < 2 ^ (L - 52) := Nat.two_pow_pos _
      refine ⟨K, ?_, ?_, ?_, fun h => absurd h (by omega)⟩
      · refine Nat.le_of_mul_le_mul_right ?_ hp
        rw [← hM, ← Nat.pow_add, show 52 + (L - 52) = L by omega]; exact h1
      · refine Nat.lt_of_mul_lt_mul_right (a := 2 ^ (L - 52)) ?_
        rw [← hM, ← Nat.pow_add, show 53 + (L - 52) = L + 1 by omega]; exact h2
      · intro n hn
        rw [show n + L - 52 = (L - 52) + n by omega, Nat.pow_add, ← Nat.mul_assoc, ← hM]
  have hK0 : 0 < K := Nat.lt_of_lt_of_le (Nat.two_pow_pos 52) hK1
  have hmag : M * 2 ^ p ≠ 0 := Nat.mul_ne_zero (by omega) (by have := Nat.two_pow_pos p; omega)
  have hlog : (M * 2 ^ p).log2 = L + p := by rw [log2_mul M p (by omega), hL]
  have hlp : Ieee.double.leastPlace = -1074 := by decide
  have hfb : Ieee.double.fractionBits = 52 := rfl
  have hb : Ieee.double.binade = 2 ^ 52 := rfl
  have hinf : Ieee.double.infRung = 2047 * 2 ^ 52 := by decide
  have hsw : Ieee.double.signWeight = 2 ^ 63 := by decide
  -- the word
  have hnear : Format.nearest Ieee.double s (M * 2 ^ p) (-(p : Int)) = Ieee.double.word s ((L + 1022) * 2 ^ 52 + K) := by
    unfold Format.nearest
    rw [if_neg hmag, hlog, hfb, hlp, hb, hinf]
    have hlast : max (-(p : Int) + ((L + p : Nat) : Int) - ((52 : Nat) : Int)) (-1074) = (L : Int) - 52 := by omega
    dsimp only
    rw [hlast]
    have hcut : Ieee.Toward.even.cut s ((M * 2 ^ p) <<< (-(p : Int) - ((L : Int) - 52)).toNat) ((L : Int) - 52 - -(p : Int)).toNat = K := by
      by_cases c : 52 ≤ p + L
      · rw [show (-(p : Int) - ((L : Int) - 52)).toNat = 0 by omega, show ((L : Int) - 52 - -(p : Int)).toNat = p + L - 52 by omega, Nat.shiftLeft_zero, ← hKa p c]
        exact cut_exact _ _ _ _ hK0
      · rw [show (-(p : Int) - ((L : Int) - 52)).toNat = 52 - (p + L) by omega, show ((L : Int) - 52 - -(p : Int)).toNat = 0 by omega, Nat.shiftLeft_eq, Nat.mul_assoc, ← Nat.pow_add,
          show p + (52 - (p + L)) = 52 - L by omega, ← hKb (by omega)]
        have := cut_exact .even s K 0 hK0
        simpa using this
    rw [hcut, show ((L : Int) - 52 - -1074).toNat = L + 1022 by omega, Nat.min_eq_left (by omega)]
  refine ⟨K, (L : Int) - 52, ?_, by omega, ?_⟩
  · rw [hnear]
    have hr : (L + 1022) * 2 ^ 52 + K < 2 ^ 63 := by omega
    generalize hR : (L + 1022) * 2 ^ 52 + K = R at *
    have hw1 : Ieee.double.word s R / 2 ^ 63 % 2 = if s then 1 else 0 := by
      unfold Format.word
      rw [hsw]
      cases s <;> simp <;> omega
    have hw2 : Ieee.double.word s R % 2 ^ 63 = R := by
      unfold Format.word
      rw [hsw]
      cases s <;> simp <;> omega
    unfold Format.read
    rw [hsw, hb, hinf, hlp, hw1, hw2]
    dsimp only
    rw [if_neg (by omega), if_pos (by omega)]
    obtain ⟨e1, e2⟩ := parts52 L K R hR hK1 hK2
    rw [show (2 : Nat) ^ 52 = 4503599627370496 from rfl, e1, e2]
    have e3 : ((if s = true then 1 else 0) == 1) = s := by cases s <;> rfl
    rw [e3, place52]
  · rw [show ((L : Int) - 52 + (N : Int)).toNat = N + L - 52 by omega]
    exact hKa N (by omega)

/-! ### values: a number scaled by 2^N -/
def V (N : Nat) (s : Bool) (m : Nat) (e : Int) : Int := if s then -((m * 2 ^ (e + N).toNat : Nat) : Int) else ((m * 2 ^ (e + N).toNat : Nat) : Int)
theorem compare_scale (x y c : Int) (hc : 0 < c) : compare (x * c) (y * c) = compare x y := by
  simp only [compare, compareOfLessAndEq]
  have h1 : (x * c < y * c) ↔ x < y := ⟨fun h => Int.lt_of_mul_lt_mul_right h (Int.le_of_lt hc), fun h => Int.mul_lt_mul_of_pos_right h hc⟩
  have h2 : (x * c = y * c) ↔ x = y := ⟨fun h => Int.eq_of_mul_eq_mul_right (Int.ne_of_gt hc) h, fun h => by rw [h]⟩
  simp only [h1, h2]
theorem signed_V (N : Nat) (s : Bool) (m : Nat) (e base : Int) (hb : base ≤ e) (hN : 0 ≤ base + N) : Ieee.signed s m (e - base).toNat * ((2 ^ (base + N).toNat : Nat) : Int) = V N s m e := by
  unfold Ieee.signed V
  have hp : (e + N).toNat = (e - base).toNat + (base + N).toNat := by omega
  rw [hp, Nat.pow_add, Nat.shiftLeft_eq]
  cases s <;> simp [Int.natCast_mul, Int.mul_assoc, Int.neg_mul]
theorem order_V (N : Nat) (s t : Bool) (m n : Nat) (e j : Int) (he : 0 ≤ e + N) (hj : 0 ≤ j + N) : Datum.order (.number s m e) (.number t n j) = some (compare (V N s m e) (V N t n j)) := by
  unfold Datum.order
  dsimp only
  rw [← compare_scale _ _ ((2 ^ (min e j + N).toNat : Nat) : Int) (by have := Nat.two_pow_pos (min e j + N).toNat; omega), signed_V N s m e _ (Int.min_le_left _ _) (by omega), signed_V N t n j _ (Int.min_le_right _ _) (by omega)]
theorem compare_eq (x y : Int) : (some (compare x y) == some Ordering.eq) = decide (x = y) := by
  simp only [compare, compareOfLessAndEq]
  by_cases h : x < y
  · rw [if_pos h]; have : ¬ x = y := by omega
    simp [this]
  · rw [if_neg h]
    by_cases h2 : x = y <;> simp [h2]
theorem compare_lt (x y : Int) : (some (compare x y) == some Ordering.lt) = decide (x < y) := by
  simp only [compare, compareOfLessAndEq]
  by_cases h : x < y
  · simp [h]
  · rw [if_neg h]
    by_cases h2 : x = y <;> simp [h2, h]
theorem compare_gt (x y : Int) : (some (compare x y) == some Ordering.gt) = decide (y < x) := by
  simp only [compare, compareOfLessAndEq]
  by_cases h : x < y
  · have : ¬ y < x := by omega
    simp [h, this]
  · rw [if_neg h]
    by_cases h2 : x = y
    · simp [h2]
    · have : y < x := by omega
      simp [h2, this]
/-! ### what a word reads as -/
theorem read_number (a : Nat) {s : Bool} {m : Nat} {e : Int} (h : Ieee.double.read a = .number s m e) : m < 2 ^ 53 ∧ -1074 ≤ e := by
  have hlp : Ieee.double.leastPlace = -1074 := by decide
  have hb : Ieee.double.binade = 2 ^ 52 := rfl
  unfold Format.read at h
  rw [hlp, hb] at h
  dsimp only at h
  split at h
  · cases h; constructor <;> omega
  · split at h
    · cases h; constructor <;> omega
    · split at h <;> cases h

/-! ### cut towards zero -/
theorem trunc_facts (N : Nat) (hN : 1100 ≤ N) (s : Bool) (m : Nat) (e : Int) (hm : m < 2 ^ 53) (he : -1074 ≤ e) :
    ∃ T, Ieee.Toward.zero.cut s (m <<< e.toNat) (-e).toNat = T ∧ T * 2 ^ N ≤ m * 2 ^ (e + N).toNat ∧ m * 2 ^ (e + N).toNat < (T + 1) * 2 ^ N ∧ ((T * 2 ^ N = m * 2 ^ (e + N).toNat ∧ ∃ q j, T = q * 2 ^ j ∧ q < 2 ^ 53) ∨ T < 2 ^ 52) := by
  by_cases c : 0 ≤ e
  · refine ⟨m * 2 ^ e.toNat, ?_, ?_⟩
    · rw [show (-e).toNat = 0 by omega, Nat.shiftLeft_eq]
      unfold Ieee.Toward.cut
      simp
    · have h : m * 2 ^ e.toNat * 2 ^ N = m * 2 ^ (e + N).toNat := by
        rw [Nat.mul_assoc, ← Nat.pow_add, show e.toNat + N = (e + N).toNat by omega]
      refine ⟨Nat.le_of_eq h, ?_, .inl ⟨h, m, e.toNat, rfl, hm⟩⟩
      rw [Nat.add_mul, h]
      have := Nat.two_pow_pos N
      omega
  · obtain ⟨d, rfl⟩ : ∃ d : Nat, e = -(d : Int) := ⟨(-e).toNat, by omega⟩
    have hd0 : 0 < d := by omega
    refine ⟨m / 2 ^ d, ?_, ?_⟩
    · rw [show (-(d : Int)).toNat = 0 by omega, show (-(-(d : Int))).toNat = d by omega, Nat.shiftLeft_zero]
      unfold Ieee.Toward.cut
      dsimp only
      rw [Nat.one_shiftLeft]
      simp only [Bool.toNat_false, Nat.add_zero]
      by_cases c2 : d ≤ m.log2 + 2
      · rw [Nat.min_eq_left c2]
      · rw [Nat.min_eq_right (by omega)]
        have h2 := Nat.lt_log2_self (n := m)
        have h3 : m < 2 ^ (m.log2 + 2) := Nat.lt_of_lt_of_le h2 (Nat.pow_le_pow_right (by omega) (by omega))
        have h4 : m < 2 ^ d := Nat.lt_of_lt_of_le h2 (Nat.pow_le_pow_right (by omega) (by omega))
        rw [Nat.div_eq_of_lt h3, Nat.div_eq_of_lt h4]
    · have hp : 0 < 2 ^ d := Nat.two_pow_pos d
      have hq : 0 < 2 ^ (N - d) := Nat.two_pow_pos _
      have hNd : 2 ^ N = 2 ^ d * 2 ^ (N - d) := by rw [← Nat.pow_add]; congr 1; omega
      rw [show (-(d : Int) + (N : Int)).toNat = N - d by omega, hNd, ← Nat.mul_assoc, ← Nat.mul_assoc]
      refine ⟨Nat.mul_le_mul_right _ (Nat.div_mul_le_self m _), Nat.mul_lt_mul_of_pos_right ?_ hq, .inr ?_⟩
      · rw [Nat.mul_comm]; exact Nat.lt_mul_div_succ m hp
      · rw [Nat.div_lt_iff_lt_mul hp]
        calc m < 2 ^ 53 := hm
          _ = 2 ^ 52 * 2 ^ 1 := by rw [← Nat.pow_add]
          _ ≤ 2 ^ 52 * 2 ^ d := Nat.mul_le_mul_left _ (Nat.pow_le_pow_right (by omega) hd0)
/-- A whole number, written and read again. -/
theorem whole_back (N : Nat) (hN : 1100 ≤ N) (s : Bool) (T : Nat) (h63 : T ≤ 2 ^ 63) (hdiv : ∃ q j, T = q * 2 ^ j ∧ q < 2 ^ 53) :
    ∃ K e, Ieee.double.read (Ieee.double.nearest s T 0) = .number s K e ∧ -1074 ≤ e ∧ K * 2 ^ (e + N).toNat = T * 2 ^ N := by
  by_cases c : T = 0
  · subst c
    refine ⟨0, -1074, ?_, by omega, by simp⟩
    cases s <;> decide
  · have hl : T.log2 ≤ 63 := by
      have h1 := Nat.log2_self_le c
      have : 2 ^ T.log2 < 2 ^ 64 := by omega
      have := (Nat.pow_lt_pow_iff_right (a := 2) (by omega)).1 this
      omega
    obtain ⟨K, e, h1, h2, h3⟩ := readback N hN s T 0 (by omega) hl hdiv
    refine ⟨K, e, ?_, h2, h3⟩
    simpa using h1
theorem word_one : Ieee.double.read 4607182418800017408 = .number false 4503599627370496 (-52) := by decide
theorem word_top : Ieee.double.read 4890909195324358656 = .number false 4503599627370496 11 := by decide
theorem word_bottom : Ieee.double.read 14114281232179134464 = .number true 4503599627370496 11 := by decide
theorem word_zero : Ieee.double.read 0 = .number false 0 (-1074) := by decide
theorem V_top (N : Nat) : V N false 4503599627370496 11 = 9223372036854775808 * ((2 ^ N : Nat) : Int) := by
  unfold V
  rw [show ((11 : Int) + (N : Int)).toNat = 11 + N by omega, Nat.pow_add]
  simp only [Bool.false_eq_true, if_false]
  rw [← Nat.mul_assoc, Int.natCast_mul]
  rfl
theorem V_bottom (N : Nat) : V N true 4503599627370496 11 = -(9223372036854775808 * ((2 ^ N : Nat) : Int)) := by
  rw [← V_top N]; rfl
theorem V_val (N : Nat) (s : Bool) (K T : Nat) (e : Int) (h : K * 2 ^ (e + N).toNat = T * 2 ^ N) : V N s K e = (if s then -(T : Int) else T) * ((2 ^ N : Nat) : Int) := by
  unfold V
  rw [h]
  cases s <;> simp [Int.natCast_mul, Int.neg_mul]
/-! ### the six comparisons by values -/
theorem feq_V (N : Nat) (hN : 1100 ≤ N) {a b : Nat} {s t : Bool} {m n : Nat} {e j : Int} (ha : Ieee.double.read a = .number s m e) (hb : Ieee.double.read b = .number t n j) (he : -1074 ≤ e) (hj : -1074 ≤ j) : feq a b = decide (V N s m e = V N t n j) := by
  unfold feq
  show (Ieee.double.order a b == some .eq) = _
  unfold Format.order
  rw [ha, hb, order_V N s t m n e j (by omega) (by omega), compare_eq]
theorem flt_V (N : Nat) (hN : 1100 ≤ N) {a b : Nat} {s t : Bool} {m n : Nat} {e j : Int} (ha : Ieee.double.read a = .number s m e) (hb : Ieee.double.read b = .number t n j) (he : -1074 ≤ e) (hj : -1074 ≤ j) : flt a b = decide (V N s m e < V N t n j) := by
  unfold flt
  show (Ieee.double.order a b == some .lt) = _
  unfold Format.order
  rw [ha, hb, order_V N s t m n e j (by omega) (by omega), compare_lt]
theorem fgt_V (N : Nat) (hN : 1100 ≤ N) {a b : Nat} {s t : Bool} {m n : Nat} {e j : Int} (ha : Ieee.double.read a = .number s m e) (hb : Ieee.double.read b = .number t n j) (he : -1074 ≤ e) (hj : -1074 ≤ j) : fgt a b = decide (V N t n j < V N s m e) := by
  unfold fgt
  show (Ieee.double.order a b == some .gt) = _
  unfold Format.order
  rw [ha, hb, order_V N s t m n e j (by omega) (by omega), compare_gt]
theorem fge_V (N : Nat) (hN : 1100 ≤ N) {a b : Nat} {s t : Bool} {m n : Nat} {e j : Int} (ha : Ieee.double.read a = .number s m e) (hb : Ieee.double.read b = .number t n j) (he : -1074 ≤ e) (hj : -1074 ≤ j) : fge a b = decide (V N t n j ≤ V N s m e) := by
  have h1 := fgt_V N hN ha hb he hj
  have h2 := feq_V N hN ha hb he hj
  have h3 : fge a b = (fgt a b || feq a b) := rfl
  rw [h3, h1, h2, Bool.eq_iff_iff]
  simp
  omega
theorem fle_V (N : Nat) (hN : 1100 ≤ N) {a b : Nat} {s t : Bool} {m n : Nat} {e j : Int} (ha : Ieee.double.read a = .number s m e) (hb : Ieee.double.read b = .number t n j) (he : -1074 ≤ e) (hj : -1074 ≤ j) : fle a b = decide (V N s m e ≤ V N t n j) := by
  have h1 := flt_V N hN ha hb he hj
  have h2 := feq_V N hN ha hb he hj
  have h3 : fle a b = (flt a b || feq a b) := rfl
  rw [h3, h1, h2, Bool.eq_iff_iff]
  simp
  omega

/-! ### the words' own cases -/
theorem range_number {a : Nat} (h1 : fge a 14114281232179134464 = true) (h2 : flt a 4890909195324358656 = true) : ∃ s m e, Ieee.double.read a = .number s m e := by
  have e1 : fge a 14114281232179134464 = ((Ieee.double.read a).order (Ieee.double.read 14114281232179134464) == some .gt || (Ieee.double.read a).order (Ieee.double.read 14114281232179134464) == some .eq) := rfl
  have e2 : flt a 4890909195324358656 = ((Ieee.double.read a).order (Ieee.double.read 4890909195324358656) == some .lt) := rfl
  rw [e1, word_bottom] at h1
  rw [e2, word_top] at h2
  cases e : Ieee.double.read a with
  | number s m e => exact ⟨_, _, _, rfl⟩
  | nan s t => rw [e] at h2; cases h2
  | infinity s =>
    rw [e] at h1 h2
    cases s
    · cases h2
    · cases h1
/-- A float that is no NaN lies below 2^63 or not, and from -2^63 on or not above it. -/
theorem some_side {a : Nat} (h : feq a a = true) (h1 : fge a 4890909195324358656 = false) (h2 : fle a 14114281232179134464 = false) : fge a 14114281232179134464 = true ∧ flt a 4890909195324358656 = true := by
  have e0 : feq a a = ((Ieee.double.read a).order (Ieee.double.read a) == some .eq) := rfl
  have e1 : fge a 4890909195324358656 = ((Ieee.double.read a).order (Ieee.double.read 4890909195324358656) == some .gt || (Ieee.double.read a).order (Ieee.double.read 4890909195324358656) == some .eq) := rfl
  have e2 : fle a 14114281232179134464 = ((Ieee.double.read a).order (Ieee.double.read 14114281232179134464) == some .lt || (Ieee.double.read a).order (Ieee.double.read 14114281232179134464) == some .eq) := rfl
  cases e : Ieee.double.read a with
  | nan s t => rw [e0, e] at h; cases h
  | infinity s =>
    rw [e1, e, word_top] at h1
    rw [e2, e, word_bottom] at h2
    cases s
    · cases h1
    · cases h2
  | number s m x =>
    obtain ⟨hm, hx⟩ := read_number a e
    rw [fge_V 1100 (by omega) e word_top hx (by omega)] at h1
    rw [fle_V 1100 (by omega) e word_bottom hx (by omega)] at h2
    rw [fge_V 1100 (by omega) e word_bottom hx (by omega), flt_V 1100 (by omega) e word_top hx (by omega)]
    have g1 := of_decide_eq_false h1
    have g2 := of_decide_eq_false h2
    exact ⟨decide_eq_true (by omega), decide_eq_true (by omega)⟩
theorem feq_zero {a : Nat} (h : feq a 0 = true) : ∃ s e, Ieee.double.read a = .number s 0 e ∧ -1074 ≤ e := by
  have e0 : feq a 0 = ((Ieee.double.read a).order (Ieee.double.read 0) == some .eq) := rfl
  cases e : Ieee.double.read a with
  | nan s t => rw [e0, e] at h; cases h
  | infinity s => rw [e0, e, word_zero] at h; cases s <;> cases h
  | number s m x =>
    obtain ⟨hm, hx⟩ := read_number a e
    rw [feq_V 1100 (by omega) e word_zero hx (by omega)] at h
    have g := of_decide_eq_true h
    have hz : V 1100 false 0 (-1074) = 0 := by simp [V]
    rw [hz] at g
    have hm0 : m * 2 ^ (x + (1100 : Nat)).toNat = 0 := by
      unfold V at g
      cases s <;> simp only [Bool.false_eq_true, if_false, if_true] at g <;> omega
    have hp := Nat.two_pow_pos (x + (1100 : Nat)).toNat
    have : m = 0 := by
      rcases Nat.mul_eq_zero.1 hm0 with h | h
      · exact h
      · omega
    subst this
    exact ⟨s, x, rfl, hx⟩
/-- One by a zero is an infinity. -/
theorem quo_zero {a : Nat} (h : feq a 0 = true) : fok_quo 4607182418800017408 a = true := by
  obtain ⟨s, e, hr, _⟩ := feq_zero h
  unfold fok_quo floatBits
  show (Format.div Ieee.double 4607182418800017408 a).isSome = true
  unfold Format.div
  rw [hr, word_one]
  rfl
theorem pow_cancel (x y c : Nat) (h : x * 2 ^ c = y * 2 ^ c) : x = y := Nat.eq_of_mul_eq_mul_right (Nat.two_pow_pos c) h
/-- What is known of a float from -2^63 up to below 2^63. -/
theorem in_range {a : Nat} (h1 : fge a 14114281232179134464 = true) (h2 : flt a 4890909195324358656 = true) :
    fok_int a = true ∧ (fok_trunc_ a = true) ∧
    (fgt (floatOfInt .f64 (fv_int a)) a = true → fok_sub (floatOfInt .f64 (fv_int a)) 4607182418800017408 = true ∧ feq a (fv_sub (floatOfInt .f64 (fv_int a)) 4607182418800017408) = false ∧ feq a (fv_trunc_ a) = false) ∧
    (fgt (floatOfInt .f64 (fv_int a)) a = false → feq a (floatOfInt .f64 (fv_int a)) = feq a (fv_trunc_ a)) ∧
    (feq a 0 = true → feq a (fv_trunc_ a) = true) ∧ (fle a 14114281232179134464 = true → feq a (fv_trunc_ a) = true) := by
  obtain ⟨s, m, e, hr⟩ := range_number h1 h2
  obtain ⟨hm, he⟩ := read_number a hr
  obtain ⟨N, hN⟩ : ∃ N : Nat, 1100 ≤ N := ⟨1100, Nat.le_refl _⟩
  rw [fge_V N hN hr word_bottom he (by omega), V_bottom] at h1
  rw [flt_V N hN hr word_top he (by omega), V_top] at h2
  have g1 := of_decide_eq_true h1
  have g2 := of_decide_eq_true h2
  obtain ⟨T, hT, t1, t2, t3⟩ := trunc_facts N hN s m e hm he
  have hZ : 0 < 2 ^ N := Nat.two_pow_pos N
  have hVa : V N s m e = if s then -((m * 2 ^ (e + N).toNat : Nat) : Int) else ((m * 2 ^ (e + N).toNat : Nat) : Int) := rfl
  have hdiv : ∃ q j, T = q * 2 ^ j ∧ q < 2 ^ 53 := by
    rcases t3 with ⟨_, h⟩ | h
    · exact h
    · exact ⟨T, 0, by simp, by omega⟩
  -- T is no more than 2^63
  have hT63 : (s = true → T ≤ 9223372036854775808) ∧ (s = false → T < 9223372036854775808) := by
    rw [hVa] at g1 g2
    constructor
    · intro hs
      subst hs
      simp only [if_true] at g1
      have : T * 2 ^ N ≤ 9223372036854775808 * 2 ^ N := by omega
      exact Nat.le_of_mul_le_mul_right this hZ
    · intro hs
      subst hs
      simp only [Bool.false_eq_true, if_false] at g2
      have : T * 2 ^ N < 9223372036854775808 * 2 ^ N := by omega
      exact Nat.lt_of_mul_lt_mul_right this
  have hT63' : T ≤ 2 ^ 63 := by
    cases s
    · have := hT63.2 rfl; omega
    · have := hT63.1 rfl; omega
  have hsg : Ieee.signed s T 0 = if s then -(T : Int) else T := by
    unfold Ieee.signed
    simp
  have hval : floatToIntVal .f64 a .i64 = some (Ieee.signed s T 0) := by
    unfold floatToIntVal
    have e1 : (FloatKind.f64.decode a).toInt .zero = some (Ieee.signed s T 0) := by
      show (Ieee.double.read a).toInt .zero = _
      rw [hr]
      unfold Datum.toInt Datum.integral
      dsimp only
      rw [hT]
    rw [e1]
    dsimp only
    rw [if_pos]
    rw [hsg]
    have i1 : IntKind.min .i64 = -9223372036854775808 := by decide
    have i2 : IntKind.max .i64 = 9223372036854775807 := by decide
    rw [i1, i2]
    cases s
    · have := hT63.2 rfl
      simp only [Bool.false_eq_true, if_false]
      omega
    · have := hT63.1 rfl
      simp only [if_true]
      omega
  have hint : fok_int a = true := by unfold fok_int; rw [hval]; rfl
  have hn : fv_int a = if s then -(T : Int) else T := by unfold fv_int; rw [hval, Option.getD_some, hsg]
  have htr : fv_trunc_ a = Ieee.double.nearest s T 0 := by
    show Ieee.double.write ((Ieee.double.read a).integral .zero) = _
    rw [hr]
    unfold Datum.integral
    dsimp only
    rw [hT]
    rfl
  have hok : fok_trunc_ a = true := by
    show (!(Ieee.double.read a).isNaN) = true
    rw [hr]
    rfl
  -- the two ways to write the whole part
  obtain ⟨K1, x1, r1, b1, v1⟩ := whole_back N hN s T hT63' hdiv
  have w1 : feq a (fv_trunc_ a) = decide (V N s m e = (if s then -(T : Int) else T) * ((2 ^ N : Nat) : Int)) := by
    rw [htr, feq_V N hN hr r1 he b1, V_val N s K1 T x1 v1]
  have hfl : floatOfInt .f64 (fv_int a) = Ieee.double.nearest (s && decide (0 < T)) T 0 := by
    show Ieee.double.nearest (decide (fv_int a < 0)) (fv_int a).natAbs 0 = _
    rw [hn]
    cases s
    · simp only [Bool.false_eq_true, if_false, Bool.false_and]
      rw [show ((T : Int)).natAbs = T by omega, decide_eq_false (by omega)]
    · simp only [if_true, Bool.true_and]
      rw [show (-(T : Int)).natAbs = T by omega]
      congr 1
      rw [Bool.eq_iff_iff]
      simp
  obtain ⟨K2, x2, r2, b2, v2⟩ := whole_back N hN (s && decide (0 < T)) T hT63' hdiv
  have hV2 : V N (s && decide (0 < T)) K2 x2 = (if s then -(T : Int) else T) * ((2 ^ N : Nat) : Int) := by
    rw [V_val N _ K2 T x2 v2]
    by_cases c : 0 < T
    · simp [c]
    · have : T = 0 := by omega
      subst this
      simp
  have w2 : feq a (floatOfInt .f64 (fv_int a)) = decide (V N s m e = (if s then -(T : Int) else T) * ((2 ^ N : Nat) : Int)) := by
    rw [hfl, feq_V N hN hr r2 he b2, hV2]
  have w3 : fgt (floatOfInt .f64 (fv_int a)) a = decide (V N s m e < (if s then -(T : Int) else T) * ((2 ^ N : Nat) : Int)) := by
    rw [hfl, fgt_V N hN r2 hr b2 he, hV2]
  refine ⟨hint, hok, ?_, fun _ => by rw [w1, w2], ?_, ?_⟩
  · intro hg
    rw [w3] at hg
    have g := of_decide_eq_true hg
    -- it is negative, and not whole
    have hs : s = true := by
      cases s
      · exfalso
        rw [hVa] at g
        simp only [Bool.false_eq_true, if_false] at g
        have : ((m * 2 ^ (e + N).toNat : Nat) : Int) < ((T * 2 ^ N : Nat) : Int) := by rw [Int.natCast_mul T]; exact g
        omega
      · rfl
    subst hs
    rw [hVa] at g
    simp only [if_true] at g
    have hne : T * 2 ^ N < m * 2 ^ (e + N).toNat := by
      have : -((m * 2 ^ (e + N).toNat : Nat) : Int) < -((T * 2 ^ N : Nat) : Int) := by rw [Int.natCast_mul T, ← Int.neg_mul]; exact g
      omega
    have hT52 : T < 2 ^ 52 := by
      rcases t3 with ⟨h, _⟩ | h
      · omega
      · exact h
    have hf1 : feq a (fv_trunc_ a) = false := by
      rw [w1, hVa]
      simp only [if_true]
      refine decide_eq_false ?_
      intro hh
      have : -((m * 2 ^ (e + N).toNat : Nat) : Int) = -((T * 2 ^ N : Nat) : Int) := by rw [Int.natCast_mul T, ← Int.neg_mul]; exact hh
      omega
    -- the sum
    obtain ⟨p, hp⟩ : ∃ p : Nat, min x2 (-52) = -(p : Int) := ⟨(-(min x2 (-52))).toNat, by omega⟩
    have hpN : p ≤ N := by omega
    have hsum : ∃ tot : Int, Datum.sum (.number (true && decide (0 < T)) K2 x2) (.number true 4503599627370496 (-52)) = some (.number (if tot = 0 then (true && decide (0 < T)) && true else decide (tot < 0)) tot.natAbs (-(p : Int))) ∧ tot * ((2 ^ (N - p) : Nat) : Int) = -(((T + 1) * 2 ^ N : Nat) : Int) := by
      refine ⟨Ieee.signed (true && decide (0 < T)) K2 (x2 - -(p : Int)).toNat + Ieee.signed true 4503599627370496 (-52 - -(p : Int)).toNat, ?_, ?_⟩
      · unfold Datum.sum
        dsimp only
        rw [hp]
      · have q1 := signed_V N (true && decide (0 < T)) K2 x2 (-(p : Int)) (by omega) (by omega)
        have q2 := signed_V N true 4503599627370496 (-52) (-(p : Int)) (by omega) (by omega)
        rw [show (-(p : Int) + (N : Int)).toNat = N - p by omega] at q1 q2
        rw [Int.add_mul, q1, q2, hV2]
        have q3 : V N true 4503599627370496 (-52) = -((2 ^ N : Nat) : Int) := by
          unfold V
          simp only [if_true]
          rw [show ((-52 : Int) + (N : Int)).toNat = N - 52 by omega]
          have : 4503599627370496 * 2 ^ (N - 52) = 2 ^ N := by
            rw [show (4503599627370496 : Nat) = 2 ^ 52 from rfl, ← Nat.pow_add, show 52 + (N - 52) = N by omega]
          rw [this]
        rw [q3]
        simp only [if_true]
        rw [Int.natCast_mul, Int.natCast_add, Int.neg_mul, Int.add_mul]
        omega
    obtain ⟨tot, hs1, hs2⟩ := hsum
    have htot : tot < 0 ∧ tot.natAbs = (T + 1) * 2 ^ p := by
      have hq : 0 < 2 ^ (N - p) := Nat.two_pow_pos _
      have e3 : ((T + 1) * 2 ^ N : Nat) = ((T + 1) * 2 ^ p) * 2 ^ (N - p) := by
        rw [Nat.mul_assoc, ← Nat.pow_add, show p + (N - p) = N by omega]
      rw [e3] at hs2
      have e4 : tot = -(((T + 1) * 2 ^ p : Nat) : Int) := by
        refine Int.eq_of_mul_eq_mul_right (a := ((2 ^ (N - p) : Nat) : Int)) (by omega) ?_
        rw [hs2, Int.natCast_mul ((T + 1) * 2 ^ p), Int.neg_mul]
      have hpos : 0 < (T + 1) * 2 ^ p := Nat.mul_pos (by omega) (Nat.two_pow_pos p)
      constructor <;> omega
    rw [if_neg (by omega), decide_eq_true htot.1, htot.2] at hs1
    have hsub : floatBits .sub .f64 (floatOfInt .f64 (fv_int a)) 4607182418800017408 = some (Ieee.double.nearest true ((T + 1) * 2 ^ p) (-(p : Int))) := by
      rw [hfl]
      show Format.sub Ieee.double _ _ = _
      unfold Format.sub
      rw [r2, word_one]
      show Option.map _ (Datum.sum (.number (true && decide (0 < T)) K2 x2) (.number true 4503599627370496 (-52))) = _
      rw [hs1]
      rfl
    have hM63 : (T + 1).log2 ≤ 63 := by
      have q1 := Nat.log2_self_le (show T + 1 ≠ 0 by omega)
      have : 2 ^ (T + 1).log2 < 2 ^ 64 := by omega
      have := (Nat.pow_lt_pow_iff_right (a := 2) (by omega)).1 this
      omega
    obtain ⟨K3, x3, r3, b3, v3⟩ := readback N hN true (T + 1) p (by omega) hM63 ⟨T + 1, 0, by simp, by omega⟩
    refine ⟨by unfold fok_sub; rw [hsub]; rfl, ?_, hf1⟩
    have : fv_sub (floatOfInt .f64 (fv_int a)) 4607182418800017408 = Ieee.double.nearest true ((T + 1) * 2 ^ p) (-(p : Int)) := by
      unfold fv_sub; rw [hsub]; rfl
    rw [this, feq_V N hN hr r3 he b3, V_val N true K3 (T + 1) x3 v3, hVa]
    simp only [if_true]
    refine decide_eq_false ?_
    intro hh
    have : -((m * 2 ^ (e + N).toNat : Nat) : Int) = -(((T + 1) * 2 ^ N : Nat) : Int) := by rw [Int.natCast_mul (T + 1), ← Int.neg_mul]; exact hh
    omega
  · intro hz
    obtain ⟨s', e', hr', _⟩ := feq_zero hz
    rw [hr] at hr'
    cases hr'
    rw [w1, hVa]
    have : T = 0 := by
      simp only [Nat.zero_mul, Nat.le_zero] at t1
      rcases Nat.mul_eq_zero.1 t1 with h | h
      · exact h
      · omega
    subst this
    simp
  · intro hb
    rw [fle_V N hN hr word_bottom he (by omega), V_bottom] at hb
    have g3 := of_decide_eq_true hb
    have g4 : V N s m e = -(9223372036854775808 * ((2 ^ N : Nat) : Int)) := by omega
    rw [w1, g4]
    have hs : s = true := by
      cases s
      · exfalso
        rw [hVa] at g4
        simp only [Bool.false_eq_true, if_false] at g4
        omega
      · rfl
    subst hs
    rw [hVa] at g4
    simp only [if_true] at g4
    have g5 : m * 2 ^ (e + N).toNat = 9223372036854775808 * 2 ^ N := by omega
    have hT : T = 9223372036854775808 := by
      rw [g5] at t1 t2
      have q1 := Nat.le_of_mul_le_mul_right t1 hZ
      have q2 := Nat.lt_of_mul_lt_mul_right t2
      omega
    rw [hT]
    simp only [if_true]
    exact decide_eq_true (by rw [Int.neg_mul]; rfl)
end Go.Proofs.YtclploookcjcbaaDoorW.FltL
