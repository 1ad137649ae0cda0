/- Proved: at every act the program's ActOk and the reference's answer alike, in the Lean functions printed for them and the one by hand; the law FnExactActOk, as printed, comes to true. No condition. -/
import Derived.Test.YtclploookcjcbaaDoorPActL
set_option linter.unusedVariables false
set_option linter.unusedSimpArgs false
namespace Go.Proofs.YtclploookcjcbaaDoor.PAct
open Go Go.RowKit Go.Proofs.YtclploookcjcbaaDoorW.PrintWords
theorem valid_same (k : Nat) (x0 x1 : Int) (x2 : Nat) (x3 : ByteArray) (x4 : Int) : ∃ b, spec_ValueOk.f (k + 1) x0 x1 x2 x3 x4 = some b ∧ impl_valid.f (k + 1) x0 x1 x2 x3 x4 = some b := by
  unfold spec_ValueOk.f impl_valid.f
  simp only [spec_ValueOk.j0, impl_valid.j0, spec_l1zero.f]
  by_cases h0 : x0 = 0
  · subst h0
    by_cases h1 : x1 = 0 <;> by_cases h2 : feq x2 0 = true <;> by_cases h3 : x3.toList = ([] : List UInt8) <;> by_cases h4 : x4 = 0 <;> simp [h1, h2, h3, h4]
  by_cases h0 : x0 = 1
  · subst h0
    by_cases h1 : x1 = 0 <;> by_cases h1' : x1 = 1 <;> by_cases h2 : feq x2 0 = true <;> by_cases h3 : x3.toList = ([] : List UInt8) <;> by_cases h4 : x4 = 0 <;> simp [h1, h1', h2, h3, h4]
  by_cases h0 : x0 = 2
  · subst h0
    by_cases h2 : feq x2 0 = true <;> by_cases h3 : x3.toList = ([] : List UInt8) <;> by_cases h4 : x4 = 0 <;> simp [h2, h3, h4]
  by_cases h0 : x0 = 3
  · subst h0
    by_cases h1 : x1 = 0 <;> by_cases h3 : x3.toList = ([] : List UInt8) <;> by_cases h4 : x4 = 0 <;> simp [h1, h3, h4]
  by_cases h0 : x0 = 4
  · subst h0
    by_cases h1 : x1 = 0 <;> by_cases h2 : feq x2 0 = true <;> by_cases h4 : x4 = 0 <;> simp [h1, h2, h4]
  by_cases h0 : x0 = 5
  · subst h0
    by_cases h1 : x1 = 0 <;> by_cases h2 : feq x2 0 = true <;> by_cases h3 : x3.toList = ([] : List UInt8) <;> simp [h1, h2, h3]
  by_cases h0 : x0 = 6
  · subst h0
    by_cases h1 : x1 = 0 <;> by_cases h2 : feq x2 0 = true <;> by_cases h3 : x3.toList = ([] : List UInt8) <;> simp [h1, h2, h3]
  by_cases h0 : x0 = 7
  · subst h0
    by_cases h1 : x1 = 0 <;> by_cases h2 : feq x2 0 = true <;> by_cases h3 : x3.toList = ([] : List UInt8) <;> simp [h1, h2, h3]
  by_cases h0 : x0 = 8
  · subst h0
    by_cases h1 : x1 ≥ 0 <;> by_cases h1' : x1 < 15 <;> by_cases h2 : feq x2 0 = true <;> by_cases h3 : x3.toList = ([] : List UInt8) <;> by_cases h4 : x4 = 0 <;> simp [h1, h1', h2, h3, h4]
  simp [*]

theorem bt_1_1 : (bits BinOp.and IntKind.i64 (tabF 1) 1 == 0) = true := by first | rfl | decide | kernel_rfl
theorem bt_1_2 : (bits BinOp.and IntKind.i64 (tabF 1) 2 == 0) = true := by first | rfl | decide | kernel_rfl
theorem bt_1_4 : (bits BinOp.and IntKind.i64 (tabF 1) 4 == 0) = true := by first | rfl | decide | kernel_rfl
theorem bt_1_8 : (bits BinOp.and IntKind.i64 (tabF 1) 8 == 0) = true := by first | rfl | decide | kernel_rfl
theorem bt_1_16 : (bits BinOp.and IntKind.i64 (tabF 1) 16 == 0) = true := by first | rfl | decide | kernel_rfl
theorem bt_2_1 : (bits BinOp.and IntKind.i64 (tabF 2) 1 == 0) = false := by first | rfl | decide | kernel_rfl
theorem bt_2_2 : (bits BinOp.and IntKind.i64 (tabF 2) 2 == 0) = true := by first | rfl | decide | kernel_rfl
theorem bt_2_4 : (bits BinOp.and IntKind.i64 (tabF 2) 4 == 0) = true := by first | rfl | decide | kernel_rfl
theorem bt_2_8 : (bits BinOp.and IntKind.i64 (tabF 2) 8 == 0) = false := by first | rfl | decide | kernel_rfl
theorem bt_2_16 : (bits BinOp.and IntKind.i64 (tabF 2) 16 == 0) = false := by first | rfl | decide | kernel_rfl
theorem bt_3_1 : (bits BinOp.and IntKind.i64 (tabF 3) 1 == 0) = false := by first | rfl | decide | kernel_rfl
theorem bt_3_2 : (bits BinOp.and IntKind.i64 (tabF 3) 2 == 0) = true := by first | rfl | decide | kernel_rfl
theorem bt_3_4 : (bits BinOp.and IntKind.i64 (tabF 3) 4 == 0) = true := by first | rfl | decide | kernel_rfl
theorem bt_3_8 : (bits BinOp.and IntKind.i64 (tabF 3) 8 == 0) = false := by first | rfl | decide | kernel_rfl
theorem bt_3_16 : (bits BinOp.and IntKind.i64 (tabF 3) 16 == 0) = true := by first | rfl | decide | kernel_rfl
theorem bt_4_1 : (bits BinOp.and IntKind.i64 (tabF 4) 1 == 0) = false := by first | rfl | decide | kernel_rfl
theorem bt_4_2 : (bits BinOp.and IntKind.i64 (tabF 4) 2 == 0) = true := by first | rfl | decide | kernel_rfl
theorem bt_4_4 : (bits BinOp.and IntKind.i64 (tabF 4) 4 == 0) = false := by first | rfl | decide | kernel_rfl
theorem bt_4_8 : (bits BinOp.and IntKind.i64 (tabF 4) 8 == 0) = true := by first | rfl | decide | kernel_rfl
theorem bt_4_16 : (bits BinOp.and IntKind.i64 (tabF 4) 16 == 0) = true := by first | rfl | decide | kernel_rfl
theorem bt_5_1 : (bits BinOp.and IntKind.i64 (tabF 5) 1 == 0) = false := by first | rfl | decide | kernel_rfl
theorem bt_5_2 : (bits BinOp.and IntKind.i64 (tabF 5) 2 == 0) = true := by first | rfl | decide | kernel_rfl
theorem bt_5_4 : (bits BinOp.and IntKind.i64 (tabF 5) 4 == 0) = true := by first | rfl | decide | kernel_rfl
theorem bt_5_8 : (bits BinOp.and IntKind.i64 (tabF 5) 8 == 0) = true := by first | rfl | decide | kernel_rfl
theorem bt_5_16 : (bits BinOp.and IntKind.i64 (tabF 5) 16 == 0) = true := by first | rfl | decide | kernel_rfl
theorem bt_6_1 : (bits BinOp.and IntKind.i64 (tabF 6) 1 == 0) = false := by first | rfl | decide | kernel_rfl
theorem bt_6_2 : (bits BinOp.and IntKind.i64 (tabF 6) 2 == 0) = true := by first | rfl | decide | kernel_rfl
theorem bt_6_4 : (bits BinOp.and IntKind.i64 (tabF 6) 4 == 0) = true := by first | rfl | decide | kernel_rfl
theorem bt_6_8 : (bits BinOp.and IntKind.i64 (tabF 6) 8 == 0) = true := by first | rfl | decide | kernel_rfl
theorem bt_6_16 : (bits BinOp.and IntKind.i64 (tabF 6) 16 == 0) = true := by first | rfl | decide | kernel_rfl
theorem bt_7_1 : (bits BinOp.and IntKind.i64 (tabF 7) 1 == 0) = true := by first | rfl | decide | kernel_rfl
theorem bt_7_2 : (bits BinOp.and IntKind.i64 (tabF 7) 2 == 0) = true := by first | rfl | decide | kernel_rfl
theorem bt_7_4 : (bits BinOp.and IntKind.i64 (tabF 7) 4 == 0) = true := by first | rfl | decide | kernel_rfl
theorem bt_7_8 : (bits BinOp.and IntKind.i64 (tabF 7) 8 == 0) = false := by first | rfl | decide | kernel_rfl
theorem bt_7_16 : (bits BinOp.and IntKind.i64 (tabF 7) 16 == 0) = true := by first | rfl | decide | kernel_rfl
theorem bt_8_1 : (bits BinOp.and IntKind.i64 (tabF 8) 1 == 0) = false := by first | rfl | decide | kernel_rfl
theorem bt_8_2 : (bits BinOp.and IntKind.i64 (tabF 8) 2 == 0) = false := by first | rfl | decide | kernel_rfl
theorem bt_8_4 : (bits BinOp.and IntKind.i64 (tabF 8) 4 == 0) = true := by first | rfl | decide | kernel_rfl
theorem bt_8_8 : (bits BinOp.and IntKind.i64 (tabF 8) 8 == 0) = true := by first | rfl | decide | kernel_rfl
theorem bt_8_16 : (bits BinOp.and IntKind.i64 (tabF 8) 16 == 0) = true := by first | rfl | decide | kernel_rfl
theorem bt_9_1 : (bits BinOp.and IntKind.i64 (tabF 9) 1 == 0) = false := by first | rfl | decide | kernel_rfl
theorem bt_9_2 : (bits BinOp.and IntKind.i64 (tabF 9) 2 == 0) = false := by first | rfl | decide | kernel_rfl
theorem bt_9_4 : (bits BinOp.and IntKind.i64 (tabF 9) 4 == 0) = true := by first | rfl | decide | kernel_rfl
theorem bt_9_8 : (bits BinOp.and IntKind.i64 (tabF 9) 8 == 0) = true := by first | rfl | decide | kernel_rfl
theorem bt_9_16 : (bits BinOp.and IntKind.i64 (tabF 9) 16 == 0) = false := by first | rfl | decide | kernel_rfl
theorem l1none_eq (k : Nat) (x0 x1 : Int) (x2 : Nat) (x3 : ByteArray) (x4 : Int) (b : Bool) (h : spec_ValueOk.f k x0 x1 x2 x3 x4 = some b) : spec_l1none.f k x0 x1 x2 x3 x4 = some (x0 == 0 && b) := by
  unfold spec_l1none.f
  rw [h]
  by_cases h0 : x0 = 0 <;> simp [h0]
def bareB (T S N kk kv : Int) (bK bV : Bool) (a1 a2 a3 a4 a5 : Bool) : Bool := (a1 || T == 0) && ((a2 || S == 0) && ((a3 || N == 0) && ((a4 || (kk == 0 && bK)) && (a5 || (kv == 0 && bV)))))
theorem bare_eq (k : Nat) (x0 x1 x2 x3 x4 x5 : Int) (x6 : Nat) (x7 : ByteArray) (x8 x9 x10 : Int) (x11 : Nat) (x12 : ByteArray) (x13 : Int) (bK bV : Bool) (hK : spec_ValueOk.f k x4 x5 x6 x7 x8 = some bK) (hV : spec_ValueOk.f k x9 x10 x11 x12 x13 = some bV) (a1 a2 a3 a4 a5 : Bool) :
    spec_l4bare.f k x0 x1 x2 x3 x4 x5 x6 x7 x8 x9 x10 x11 x12 x13 a1 a2 a3 a4 a5 = some (bareB x1 x2 x3 x4 x9 bK bV a1 a2 a3 a4 a5) := by
  unfold spec_l4bare.f bareB
  rw [l1none_eq k x4 x5 x6 x7 x8 bK hK, l1none_eq k x9 x10 x11 x12 x13 bV hV]
  simp only [Option.bind_some]
  generalize (x4 == 0 && bK) = p
  generalize (x9 == 0 && bV) = q
  have e1 : ∀ (c : Int) (y z : Option Bool), (if c = 0 then y else z) = if (c == 0) = true then y else z := fun c y z => by by_cases hc : c = 0 <;> simp [hc]
  simp only [e1]
  generalize (x1 == 0) = u1
  generalize (x2 == 0) = u2
  generalize (x3 == 0) = u3
  revert a1 a2 a3 a4 a5 p q u1 u2 u3
  decide +kernel
def tailB (op T S N kk kv : Int) (bK bV : Bool) : Bool :=
  if op = 1 then bareB T S N kk kv bK bV false false false false false else if op = 2 then bareB T S N kk kv bK bV true false false true true else if op = 3 then bareB T S N kk kv bK bV true false false true false
  else if op = 4 then bareB T S N kk kv bK bV true false true false false else if op = 5 then bareB T S N kk kv bK bV true false false false false else if op = 6 then bareB T S N kk kv bK bV true false false false false
  else if op = 7 then bareB T S N kk kv bK bV false false false true false && kk == 4 else if op = 8 then bareB T S N kk kv bK bV true true false false false else if op = 9 then bareB T S N kk kv bK bV true true false false true else false
theorem spec_tail (k : Nat) (x0 x1 x2 x3 x4 x5 : Int) (x6 : Nat) (x7 : ByteArray) (x8 x9 x10 : Int) (x11 : Nat) (x12 : ByteArray) (x13 : Int) (bK bV : Bool) (hK : ∀ j, spec_ValueOk.f (k + 1 + j) x4 x5 x6 x7 x8 = some bK) (hV : ∀ j, spec_ValueOk.f (k + 1 + j) x9 x10 x11 x12 x13 = some bV) :
    spec_ActOk.j0 (k + 3) false x0 x1 x2 x3 x4 x5 x6 x7 x8 x9 x10 x11 x12 x13 = some (tailB x0 x1 x2 x3 x4 x9 bK bV) := by
  have b1 := bare_eq (k + 1) x0 x1 x2 x3 x4 x5 x6 x7 x8 x9 x10 x11 x12 x13 bK bV (hK 0) (hV 0)
  have b2 := bare_eq (k + 1 + 1) x0 x1 x2 x3 x4 x5 x6 x7 x8 x9 x10 x11 x12 x13 bK bV (hK 1) (hV 1)
  unfold tailB
  rw [show k + 3 = (k + 1 + 1) + 1 from rfl]
  simp only [spec_ActOk.j0, Bool.false_eq_true, if_false, b2, Option.bind_some]
  by_cases h1 : x0 = 1
  · rw [if_pos h1, if_pos h1]
  rw [if_neg h1, if_neg h1]
  by_cases h2 : x0 = 2
  · rw [if_pos h2, if_pos h2]
  rw [if_neg h2, if_neg h2]
  by_cases h3 : x0 = 3
  · rw [if_pos h3, if_pos h3]
  rw [if_neg h3, if_neg h3]
  by_cases h4 : x0 = 4
  · rw [if_pos h4, if_pos h4]
  rw [if_neg h4, if_neg h4]
  by_cases h5 : x0 = 5
  · rw [if_pos h5, if_pos h5]
    simp only [spec_ActOk.j1, b1, Option.bind_some]
    rw [if_pos (by simpa using h5)]
  rw [if_neg h5, if_neg h5]
  simp only [spec_ActOk.j1, b1, Option.bind_some]
  by_cases h6 : x0 = 6
  · rw [if_pos (by simpa using h6), if_pos h6]
  rw [if_neg (by simpa using h6), if_neg h6]
  by_cases h7 : x0 = 7
  · rw [if_pos h7, if_pos h7]
    cases bareB x1 x2 x3 x4 x9 bK bV false false false true false <;> rfl
  rw [if_neg h7, if_neg h7]
  by_cases h8 : x0 = 8
  · rw [if_pos h8, if_pos h8]
  rw [if_neg h8, if_neg h8]
  by_cases h9 : x0 = 9
  · rw [if_pos h9, if_pos h9]
  rw [if_neg h9, if_neg h9]
theorem spec_true (k : Nat) (x0 x1 x2 x3 x4 x5 : Int) (x6 : Nat) (x7 : ByteArray) (x8 x9 x10 : Int) (x11 : Nat) (x12 : ByteArray) (x13 : Int) : spec_ActOk.j0 (k + 1) true x0 x1 x2 x3 x4 x5 x6 x7 x8 x9 x10 x11 x12 x13 = some false := by
  simp [spec_ActOk.j0]
def inR (n most : Int) : Bool := decide (0 ≤ n) && decide (n ≤ most)
theorem spec_form (k : Nat) (x0 x1 x2 x3 x4 x5 : Int) (x6 : Nat) (x7 : ByteArray) (x8 x9 x10 : Int) (x11 : Nat) (x12 : ByteArray) (x13 : Int) (bK bV : Bool) (hK : ∀ j, spec_ValueOk.f (k + 1 + j) x4 x5 x6 x7 x8 = some bK) (hV : ∀ j, spec_ValueOk.f (k + 1 + j) x9 x10 x11 x12 x13 = some bV) :
    spec_ActOk.f (k + 3) x0 x1 x2 x3 x4 x5 x6 x7 x8 x9 x10 x11 x12 x13 = some (inR x1 99 && (inR x2 49 && (inR x3 1000000000000 && (bK && (bV && tailB x0 x1 x2 x3 x4 x9 bK bV))))) := by
  unfold spec_ActOk.f
  rw [show spec_ActOk.j0 (k + 3) true x0 x1 x2 x3 x4 x5 x6 x7 x8 x9 x10 x11 x12 x13 = some false from spec_true (k + 2) x0 x1 x2 x3 x4 x5 x6 x7 x8 x9 x10 x11 x12 x13, show spec_ValueOk.f (k + 3) x4 x5 x6 x7 x8 = some bK from hK 2, show spec_ValueOk.f (k + 3) x9 x10 x11 x12 x13 = some bV from hV 2]
  simp only [Option.bind_some]
  unfold inR
  by_cases h1 : x1 < 0
  · rw [if_pos h1, decide_eq_false (show ¬ 0 ≤ x1 by omega)]; simp
  rw [if_neg h1, decide_eq_true (show 0 ≤ x1 by omega)]
  by_cases h2 : x1 ≥ 100
  · rw [if_pos h2, decide_eq_false (show ¬ x1 ≤ 99 by omega)]; simp
  rw [if_neg h2, decide_eq_true (show x1 ≤ 99 by omega)]
  by_cases h3 : x2 < 0
  · rw [if_pos h3, decide_eq_false (show ¬ 0 ≤ x2 by omega)]; simp
  rw [if_neg h3, decide_eq_true (show 0 ≤ x2 by omega)]
  by_cases h4 : x2 ≥ 50
  · rw [if_pos h4, decide_eq_false (show ¬ x2 ≤ 49 by omega)]; simp
  rw [if_neg h4, decide_eq_true (show x2 ≤ 49 by omega)]
  by_cases h5 : x3 < 0
  · rw [if_pos h5, decide_eq_false (show ¬ 0 ≤ x3 by omega)]; simp
  rw [if_neg h5, decide_eq_true (show 0 ≤ x3 by omega)]
  by_cases h6 : x3 > 1000000000000
  · rw [if_pos h6, decide_eq_false (show ¬ x3 ≤ 1000000000000 by omega)]; simp
  rw [if_neg h6, decide_eq_true (show x3 ≤ 1000000000000 by omega)]
  cases bK with
  | false => simp
  | true =>
    cases bV with
    | false => simp [spec_true (k + 2) x0 x1 x2 x3 x4 x5 x6 x7 x8 x9 x10 x11 x12 x13]
    | true =>
      have := spec_tail k x0 x1 x2 x3 x4 x5 x6 x7 x8 x9 x10 x11 x12 x13 true true hK hV
      simp [this]
theorem numF_eq (f n most bit : Int) (hm : 0 ≤ most) : numF f n most bit = (inR n most && (!(bits BinOp.and IntKind.i64 f bit == 0) || n == 0)) := by
  unfold numF inR
  by_cases h : (bits BinOp.and IntKind.i64 f bit == 0) = true
  · rw [if_pos h, h]
    by_cases h0 : n = 0
    · subst h0; simp [hm]
    · simp [h0]
  · rw [if_neg h]
    have h' : (bits BinOp.and IntKind.i64 f bit == 0) = false := by simpa using h
    rw [h']
    simp
theorem act_same (k : Nat) (x0 x1 x2 x3 x4 x5 : Int) (x6 : Nat) (x7 : ByteArray) (x8 x9 x10 : Int) (x11 : Nat) (x12 : ByteArray) (x13 : Int) : ∃ r, spec_ActOk.f (k + 3) x0 x1 x2 x3 x4 x5 x6 x7 x8 x9 x10 x11 x12 x13 = some r ∧ impl_ActOk.f (k + 3) x0 x1 x2 x3 x4 x5 x6 x7 x8 x9 x10 x11 x12 x13 = some r := by
  obtain ⟨bK, hK, iK⟩ := valid_same k x4 x5 x6 x7 x8
  obtain ⟨bV, hV, iV⟩ := valid_same k x9 x10 x11 x12 x13
  have hKj : ∀ j, spec_ValueOk.f (k + 1 + j) x4 x5 x6 x7 x8 = some bK := by
    intro j; induction j with
    | zero => exact hK
    | succ j ih => exact spec_ValueOk.mono _ _ _ _ _ _ _ ih
  have hVj : ∀ j, spec_ValueOk.f (k + 1 + j) x9 x10 x11 x12 x13 = some bV := by
    intro j; induction j with
    | zero => exact hV
    | succ j ih => exact spec_ValueOk.mono _ _ _ _ _ _ _ ih
  have iK3 : impl_valid.f (k + 3) x4 x5 x6 x7 x8 = some bK := impl_valid.mono _ _ _ _ _ _ _ (impl_valid.mono _ _ _ _ _ _ _ iK)
  have iV3 : impl_valid.f (k + 3) x9 x10 x11 x12 x13 = some bV := impl_valid.mono _ _ _ _ _ _ _ (impl_valid.mono _ _ _ _ _ _ _ iV)
  refine ⟨_, spec_form k x0 x1 x2 x3 x4 x5 x6 x7 x8 x9 x10 x11 x12 x13 bK bV hKj hVj, ?_⟩
  unfold impl_ActOk.f
  rw [iK3, iV3]
  simp only [Option.bind_some]
  by_cases h1 : x0 < 1
  · rw [if_pos h1]
    unfold tailB
    rw [if_neg (by omega), if_neg (by omega), if_neg (by omega), if_neg (by omega), if_neg (by omega), if_neg (by omega), if_neg (by omega), if_neg (by omega), if_neg (by omega)]
    simp
  rw [if_neg h1]
  by_cases h2 : x0 > 9
  · rw [if_pos h2]
    unfold tailB
    rw [if_neg (by omega), if_neg (by omega), if_neg (by omega), if_neg (by omega), if_neg (by omega), if_neg (by omega), if_neg (by omega), if_neg (by omega), if_neg (by omega)]
    simp
  rw [if_neg h2, numF_eq _ _ _ _ (by omega), numF_eq _ _ _ _ (by omega), numF_eq _ _ _ _ (by omega)]
  unfold valF
  congr 1
  generalize inR x1 99 = r1
  generalize inR x2 49 = r2
  generalize inR x3 1000000000000 = r3
  have hc : x0 = 1 ∨ x0 = 2 ∨ x0 = 3 ∨ x0 = 4 ∨ x0 = 5 ∨ x0 = 6 ∨ x0 = 7 ∨ x0 = 8 ∨ x0 = 9 := by omega
  unfold tailB bareB
  generalize (x4 == 4) = u4
  clear hK iK hV iV hKj hVj iK3 iV3
  rcases hc with rfl | rfl | rfl | rfl | rfl | rfl | rfl | rfl | rfl
  · rw [bt_1_1, bt_1_2, bt_1_4, bt_1_8, bt_1_16]
    simp only [if_true, Int.reduceEq, if_false, bne_self_eq_false, Bool.false_or]
    generalize (x1 == 0) = u1
    generalize (x2 == 0) = u2
    generalize (x3 == 0) = u3
    generalize (x4 == 0) = u5
    generalize (x9 == 0) = u6
    revert r1 r2 r3 bK bV u1 u2 u3 u4 u5 u6
    decide +kernel
  · rw [bt_2_1, bt_2_2, bt_2_4, bt_2_8, bt_2_16]
    simp only [if_true, Int.reduceEq, if_false, bne_self_eq_false, Bool.false_or]
    generalize (x1 == 0) = u1
    generalize (x2 == 0) = u2
    generalize (x3 == 0) = u3
    generalize (x4 == 0) = u5
    generalize (x9 == 0) = u6
    revert r1 r2 r3 bK bV u1 u2 u3 u4 u5 u6
    decide +kernel
  · rw [bt_3_1, bt_3_2, bt_3_4, bt_3_8, bt_3_16]
    simp only [if_true, Int.reduceEq, if_false, bne_self_eq_false, Bool.false_or]
    generalize (x1 == 0) = u1
    generalize (x2 == 0) = u2
    generalize (x3 == 0) = u3
    generalize (x4 == 0) = u5
    generalize (x9 == 0) = u6
    revert r1 r2 r3 bK bV u1 u2 u3 u4 u5 u6
    decide +kernel
  · rw [bt_4_1, bt_4_2, bt_4_4, bt_4_8, bt_4_16]
    simp only [if_true, Int.reduceEq, if_false, bne_self_eq_false, Bool.false_or]
    generalize (x1 == 0) = u1
    generalize (x2 == 0) = u2
    generalize (x3 == 0) = u3
    generalize (x4 == 0) = u5
    generalize (x9 == 0) = u6
    revert r1 r2 r3 bK bV u1 u2 u3 u4 u5 u6
    decide +kernel
  · rw [bt_5_1, bt_5_2, bt_5_4, bt_5_8, bt_5_16]
    simp only [if_true, Int.reduceEq, if_false, bne_self_eq_false, Bool.false_or]
    generalize (x1 == 0) = u1
    generalize (x2 == 0) = u2
    generalize (x3 == 0) = u3
    generalize (x4 == 0) = u5
    generalize (x9 == 0) = u6
    revert r1 r2 r3 bK bV u1 u2 u3 u4 u5 u6
    decide +kernel
  · rw [bt_6_1, bt_6_2, bt_6_4, bt_6_8, bt_6_16]
    simp only [if_true, Int.reduceEq, if_false, bne_self_eq_false, Bool.false_or]
    generalize (x1 == 0) = u1
    generalize (x2 == 0) = u2
    generalize (x3 == 0) = u3
    generalize (x4 == 0) = u5
    generalize (x9 == 0) = u6
    revert r1 r2 r3 bK bV u1 u2 u3 u4 u5 u6
    decide +kernel
  · rw [bt_7_1, bt_7_2, bt_7_4, bt_7_8, bt_7_16]
    simp only [if_true, Int.reduceEq, if_false, bne_self_eq_false, Bool.false_or]
    generalize (x1 == 0) = u1
    generalize (x2 == 0) = u2
    generalize (x3 == 0) = u3
    generalize (x4 == 0) = u5
    generalize (x9 == 0) = u6
    revert r1 r2 r3 bK bV u1 u2 u3 u4 u5 u6
    decide +kernel
  · rw [bt_8_1, bt_8_2, bt_8_4, bt_8_8, bt_8_16]
    simp only [if_true, Int.reduceEq, if_false, bne_self_eq_false, Bool.false_or]
    generalize (x1 == 0) = u1
    generalize (x2 == 0) = u2
    generalize (x3 == 0) = u3
    generalize (x4 == 0) = u5
    generalize (x9 == 0) = u6
    revert r1 r2 r3 bK bV u1 u2 u3 u4 u5 u6
    decide +kernel
  · rw [bt_9_1, bt_9_2, bt_9_4, bt_9_8, bt_9_16]
    simp only [if_true, Int.reduceEq, if_false, bne_self_eq_false, Bool.false_or]
    generalize (x1 == 0) = u1
    generalize (x2 == 0) = u2
    generalize (x3 == 0) = u3
    generalize (x4 == 0) = u5
    generalize (x9 == 0) = u6
    revert r1 r2 r3 bK bV u1 u2 u3 u4 u5 u6
    decide +kernel
theorem law_true (x0 x1 x2 x3 x4 x5 : Int) (x6 : Nat) (x7 : ByteArray) (x8 x9 x10 : Int) (x11 : Nat) (x12 : ByteArray) (x13 : Int) : laws_FnExactActOk.f 3 x0 x1 x2 x3 x4 x5 x6 x7 x8 x9 x10 x11 x12 x13 = some true := by
  obtain ⟨r, h1, h2⟩ := act_same 0 x0 x1 x2 x3 x4 x5 x6 x7 x8 x9 x10 x11 x12 x13
  unfold laws_FnExactActOk.f laws_toAct.f laws_toValue.f
  simp only [Option.bind_some]
  rw [h1, h2]
  simp only [Option.bind_some, bne_self_eq_false]
  unfold laws_szAct.f laws_szValue.f
  split
  · simp
  · simp only [Option.bind_some]
    split
    · simp
    · split
      · simp
      · simp only [Option.bind_some]
        split <;> simp_all
end Go.Proofs.YtclploookcjcbaaDoor.PAct
