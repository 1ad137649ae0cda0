/- Proved: the law FnExactFieldAt, as printed, comes to true at every forest, shape and name that a program can hold. No condition beyond that. -/
import Derived.Test.YtclploookcjcbaaPForL7
import Derived.Test.YtclploookcjcbaaFieldPure
set_option linter.unusedVariables false
namespace Go.Proofs.Ytclploookcjcbaa.PFor
open Go Go.RowKit Go.Proofs.YtclploookcjcbaaW.PrintWords Go.Proofs.Ytclploookcjcbaa.Ev
theorem at_same (x : List ByteArray) (s : ByteArray) (hx : x.length < 4611686018427387904) : ∀ d j, j + d = x.length → ∃ r, Co (fun k => spec_l2at.l0 k s x (x.length : Int) j) r ∧ Co (fun k => slices_Index_string_string.l0 k x s (x.length : Int) j) r
  | 0, j, hd => ⟨-1, Co.step_const fun k => by simp only [spec_l2at.l0]; rw [if_neg (by omega)], Co.step_const fun k => by simp only [slices_Index_string_string.l0]; rw [if_neg (by omega)]⟩
  | d + 1, j, hd => by
    by_cases h : (rdOf ByteArray.empty x (j : Int)).toList = s.toList
    · refine ⟨(j : Int), Co.step_const fun k => ?_, Co.step_const fun k => ?_⟩
      · simp only [spec_l2at.l0]
        rw [if_pos (by omega), if_pos (by omega), if_pos (by omega), if_pos h]
      · simp only [slices_Index_string_string.l0]
        rw [if_pos (by omega), if_pos (by omega), if_pos (by omega), if_pos h.symm]
    · obtain ⟨r, h1, h2⟩ := at_same x s hx d (j + 1) (by omega)
      refine ⟨r, Co.step (fun k => ?_) h1, Co.step (fun k => ?_) h2⟩
      · simp only [spec_l2at.l0]
        rw [if_pos (by omega), if_pos (by omega), if_pos (by omega), if_neg h, w1 j (by omega)]
      · simp only [slices_Index_string_string.l0]
        rw [if_pos (by omega), if_pos (by omega), if_pos (by omega), if_neg (fun q => h q.symm), w1 j (by omega)]
theorem fieldAt_same (l : List S75) (a : Int) (s : ByteArray) : ∃ r, Co (fun k => spec_FieldAt.f k l a s) r ∧ Co (fun k => impl_FieldAt.f k l a s) r := by
  by_cases h : code l = 0 ∧ 0 ≤ a ∧ a < (l.length : Int)
  · have g := (code_zero l).1 h.1
    have hlen : (K l a.toNat).reverse.length < 4611686018427387904 := by
      have := g.count_le a.toNat (by omega)
      rw [List.length_reverse]; omega
    obtain ⟨r, h1, h2⟩ := at_same (K l a.toNat).reverse s hlen _ 0 (Nat.zero_add _)
    refine ⟨r, ?_, ?_⟩
    · refine Co.bind (spec_code l) (Co.of_eq (fun k => if_pos h.1) (Co.bindc (l2shape_eq l a) ?_))
      rw [decide_eq_true h.2]
      have hf := l2fields_co l g a.toNat (by omega)
      rw [Int.toNat_of_nonneg h.2.1] at hf
      exact Co.of_eq (fun k => if_pos rfl) (Co.bind (Co.bind hf h1) (Co.const _))
    · have hi := impl_Fields_co l a
      unfold fieldsOf at hi
      rw [if_pos h] at hi
      exact Co.bind hi (Co.bind h2 (Co.const _))
  · refine ⟨-1, ?_, ?_⟩
    · refine Co.bind (spec_code l) ?_
      by_cases h0 : code l = 0
      · refine Co.of_eq (fun k => if_pos h0) (Co.bindc (l2shape_eq l a) ?_)
        rw [decide_eq_false (fun q => h ⟨h0, q⟩)]
        exact Co.of_eq (fun k => if_neg (by simp)) (Co.const _)
      · exact Co.of_eq (fun k => if_neg h0) (Co.const _)
    · have hi := impl_Fields_co l a
      unfold fieldsOf at hi
      rw [if_neg h] at hi
      refine Co.bind hi (Co.bind (g := fun _ t => some t) ?_ (Co.const _))
      refine Co.step_const (f := fun k => slices_Index_string_string.f k [] s) fun k => ?_
      simp [slices_Index_string_string.f, slices_Index_string_string.l0]
theorem law_FieldAt (l : List S123) (a : Int) (s : ByteArray) (hl : l.length ≤ maxLen) (_ha : (Lit.int .i64 a).wf = true) (_hs : s.size ≤ maxLen) : ∃ k, laws_FnExactFieldAt.f k l a s = some true := by
  refine Co.ex (f := fun k => laws_FnExactFieldAt.f k l a s) ?_
  unfold laws_FnExactFieldAt.f
  by_cases hz : (s.size : Int) > 1048576
  · exact Co.of_eq (fun k => if_pos hz) (Co.const _)
  refine Co.of_eq (fun k => if_neg hz) ?_
  obtain ⟨r, hr, hle⟩ := szForest_co l hl 1048576 (by omega)
  refine Co.bind hr ?_
  by_cases h : r < 0
  · exact Co.of_eq (fun k => if_pos h) (Co.const _)
  · have hn := hle h
    have hlen : (l.map cv).length < 4611686018427387904 := by rw [List.length_map]; omega
    refine Co.of_eq (fun k => if_neg h) ?_
    obtain ⟨c, h1, h2⟩ := fieldAt_same (l.map cv) a s
    refine Co.bind (toForest_co l (by omega)) (Co.bind h1 (Co.bind (toForest_co l (by omega)) (Co.bind h2 ?_)))
    refine Co.of_eq (fun k => if_pos rfl) (Co.bind (toForest_co l (by omega)) (Co.bind (eqForest_co _ hlen) (Co.of_eq (fun k => if_pos rfl) (Co.const _))))
end Go.Proofs.Ytclploookcjcbaa.PFor
