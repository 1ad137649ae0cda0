/- Proved: at every value the program's KeyOf and the reference's answer alike, in the Lean functions printed for them; and a keyed value equals itself. No condition. -/
import Derived.Test.YtclploookcjcbaaPKeyOfx
import Derived.Test.YtclploookcjcbaaFltL
set_option linter.unusedVariables false
namespace Go.Proofs.Ytclploookcjcbaa.PKeyOf
open Go Go.RowKit Go.Proofs.YtclploookcjcbaaW.PrintWords Go.Proofs.YtclploookcjcbaaW.FltL

theorem valid_same (k : Nat) (x0 x1 : Int) (x2 : Nat) (x3 : ByteArray) (x4 : Int) : ∃ b, spec_ValueOk.f (k + 1) x0 x1 x2 x3 x4 = some b ∧ impl_valid.f (k + 1) x0 x1 x2 x3 x4 = some b := by
  unfold spec_ValueOk.f impl_valid.f
  simp only [spec_ValueOk.j0, impl_valid.j0, spec_l1zero.f]
  by_cases h0 : x0 = 0
  · subst h0
    by_cases h1 : x1 = 0 <;> by_cases h2 : feq x2 0 = true <;> by_cases h3 : x3.toList = ([] : List UInt8) <;> by_cases h4 : x4 = 0 <;> simp [h1, h2, h3, h4]
  by_cases h0 : x0 = 1
  · subst h0
    by_cases h1 : x1 = 0 <;> by_cases h1' : x1 = 1 <;> by_cases h2 : feq x2 0 = true <;> by_cases h3 : x3.toList = ([] : List UInt8) <;> by_cases h4 : x4 = 0 <;> simp [h1, h1', h2, h3, h4]
  by_cases h0 : x0 = 2
  · subst h0
    by_cases h2 : feq x2 0 = true <;> by_cases h3 : x3.toList = ([] : List UInt8) <;> by_cases h4 : x4 = 0 <;> simp [h2, h3, h4]
  by_cases h0 : x0 = 3
  · subst h0
    by_cases h1 : x1 = 0 <;> by_cases h3 : x3.toList = ([] : List UInt8) <;> by_cases h4 : x4 = 0 <;> simp [h1, h3, h4]
  by_cases h0 : x0 = 4
  · subst h0
    by_cases h1 : x1 = 0 <;> by_cases h2 : feq x2 0 = true <;> by_cases h4 : x4 = 0 <;> simp [h1, h2, h4]
  by_cases h0 : x0 = 5
  · subst h0
    by_cases h1 : x1 = 0 <;> by_cases h2 : feq x2 0 = true <;> by_cases h3 : x3.toList = ([] : List UInt8) <;> simp [h1, h2, h3]
  by_cases h0 : x0 = 6
  · subst h0
    by_cases h1 : x1 = 0 <;> by_cases h2 : feq x2 0 = true <;> by_cases h3 : x3.toList = ([] : List UInt8) <;> simp [h1, h2, h3]
  by_cases h0 : x0 = 7
  · subst h0
    by_cases h1 : x1 = 0 <;> by_cases h2 : feq x2 0 = true <;> by_cases h3 : x3.toList = ([] : List UInt8) <;> simp [h1, h2, h3]
  by_cases h0 : x0 = 8
  · subst h0
    by_cases h1 : x1 ≥ 0 <;> by_cases h1' : x1 < 15 <;> by_cases h2 : feq x2 0 = true <;> by_cases h3 : x3.toList = ([] : List UInt8) <;> by_cases h4 : x4 = 0 <;> simp [h1, h1', h2, h3, h4]
  simp [*]

theorem sameFloat_self (k : Nat) (f : Nat) : laws_sameFloat.f (k + 1) f f = some true := by
  unfold laws_sameFloat.f
  simp only [laws_sameFloat.j0]
  by_cases h : feq f f = true
  · by_cases h0 : feq f 0 = true
    · simp [h, h0, quo_zero h0]
    · simp [h, h0]
  · simp [h]
theorem eqValue_self (k : Nat) (x0 x1 : Int) (x2 : Nat) (x3 : ByteArray) (x4 : Int) : laws_eqValue.f (k + 1) x0 x1 x2 x3 x4 x0 x1 x2 x3 x4 = some true := by
  unfold laws_eqValue.f
  simp [sameFloat_self]
theorem eqKeyed_self (k : Nat) (c x0 x1 : Int) (x2 : Nat) (x3 : ByteArray) (x4 : Int) : laws_eqKeyed.f (k + 1) c x0 x1 x2 x3 x4 c x0 x1 x2 x3 x4 = some true := by
  unfold laws_eqKeyed.f
  simp [eqValue_self]

/-- The floor that the reference reckons has one answer; what it equals. -/
theorem floor_some (k : Nat) (f : Nat) (hn : feq f f = true) : ∃ t, spec_l1floor.f (k + 1) f = some t ∧
    (fge f 14114281232179134464 = true → flt f 4890909195324358656 = true → feq f t = feq f (fv_trunc f)) := by
  unfold spec_l1floor.f
  simp only [spec_l1floor.j0, spec_l1nan.f, Option.bind_some, hn, Bool.not_true, if_true]
  rw [if_neg (by simp)]
  by_cases h0 : feq f 0 = true
  · rw [if_pos h0]
    exact ⟨f, rfl, fun h1 h2 => by rw [hn]; exact ((in_range h1 h2).2.2.2.2.1 h0).symm⟩
  rw [if_neg h0]
  by_cases h1 : fge f 4890909195324358656 = true
  · rw [if_pos h1]
    refine ⟨f, rfl, fun h2 h3 => ?_⟩
    exfalso
    obtain ⟨s, m, e, hr⟩ := range_number h2 h3
    obtain ⟨_, he⟩ := read_number f hr
    rw [fge_V 1100 (by omega) hr word_top he (by omega)] at h1
    rw [flt_V 1100 (by omega) hr word_top he (by omega)] at h3
    have := of_decide_eq_true h1
    have := of_decide_eq_true h3
    omega
  rw [if_neg h1]
  by_cases h2 : fle f 14114281232179134464 = true
  · rw [if_pos h2]
    exact ⟨f, rfl, fun h3 h4 => by rw [hn]; exact ((in_range h3 h4).2.2.2.2.2 h2).symm⟩
  rw [if_neg h2]
  obtain ⟨h3, h4⟩ := some_side hn (by simpa using h1) (by simpa using h2)
  obtain ⟨g1, g2, g3, g4, _, _⟩ := in_range h3 h4
  rw [if_pos g1]
  by_cases h5 : fgt (floatOfInt .f64 (fv_int f)) f = true
  · obtain ⟨q1, q2, q3⟩ := g3 h5
    rw [if_pos h5, if_pos q1]
    exact ⟨_, rfl, fun _ _ => by rw [q2]; exact q3.symm⟩
  · rw [if_neg h5]
    exact ⟨_, rfl, fun _ _ => g4 (by simpa using h5)⟩

theorem keyOf_same (k : Nat) (x0 x1 : Int) (x2 : Nat) (x3 : ByteArray) (x4 : Int) : ∃ r, spec_KeyOf.f (k + 2) x0 x1 x2 x3 x4 = some r ∧ impl_KeyOf.f (k + 2) x0 x1 x2 x3 x4 = some r := by
  obtain ⟨b, hs, hi⟩ := valid_same (k + 1) x0 x1 x2 x3 x4
  unfold spec_KeyOf.f impl_KeyOf.f
  rw [hs, hi]
  simp only [Option.bind_some, spec_KeyOf.j0, impl_KeyOf.j0, spec_l1nan.f]
  cases b with
  | false => exact ⟨_, rfl, rfl⟩
  | true =>
    simp only [if_true]
    by_cases h0 : x0 = 0
    · rw [if_pos h0, if_pos h0]
      exact ⟨_, rfl, rfl⟩
    rw [if_neg h0, if_neg h0]
    by_cases h3 : x0 = 3
    · rw [if_pos h3, if_pos h3]
      by_cases hn : feq x2 x2 = true
      · rw [hn]
        simp only [Bool.not_true, if_pos h3, Bool.false_eq_true, if_false]
        obtain ⟨t, ht, hc⟩ := floor_some k x2 hn
        rw [ht]
        simp only [Option.bind_some]
        by_cases g1 : fge x2 14114281232179134464 = true
        · by_cases g2 : flt x2 4890909195324358656 = true
          · obtain ⟨q1, q2, _⟩ := in_range g1 g2
            have e := hc g1 g2
            rw [if_pos g1, if_pos g2, if_pos g1, if_pos g2, if_pos q1, e]
            unfold math_Trunc.f
            rw [if_pos (show fok_trunc x2 = true from q2)]
            simp only [Option.bind_some]
            by_cases g3 : feq x2 (fv_trunc x2) = true
            · rw [if_pos g3, if_pos g3, if_pos q1]
              exact ⟨_, rfl, rfl⟩
            · rw [if_neg g3, if_neg g3]
              exact ⟨_, rfl, rfl⟩
          · rw [if_pos g1, if_neg g2, if_pos g1, if_neg g2]
            split <;> exact ⟨_, rfl, rfl⟩
        · rw [if_neg g1, if_neg g1]
          split <;> exact ⟨_, rfl, rfl⟩
      · have hn' : feq x2 x2 = false := by simpa using hn
        rw [hn']
        simp only [if_pos h3, Bool.not_false, if_true]
        exact ⟨_, rfl, rfl⟩
    · simp only [if_neg h3, Bool.false_eq_true, if_false]
      exact ⟨_, rfl, rfl⟩
theorem law_true (x0 x1 : Int) (x2 : Nat) (x3 : ByteArray) (x4 : Int) : laws_FnExactKeyOf.f 2 x0 x1 x2 x3 x4 = some true := by
  unfold laws_FnExactKeyOf.f laws_szValue.f laws_toValue.f
  obtain ⟨⟨c, y0, y1, y2, y3, y4⟩, hs, hi⟩ := keyOf_same 0 x0 x1 x2 x3 x4
  by_cases h : wrap64 (1048576 - (x3.size : Int)) < 0
  · rw [if_pos h]
    rfl
  · rw [if_neg h]
    simp only [Option.bind_some]
    rw [if_neg h, hs, hi]
    simp only [Option.bind_some]
    rw [eqKeyed_self 1 c y0 y1 y2 y3 y4]
    rfl
end Go.Proofs.Ytclploookcjcbaa.PKeyOf
