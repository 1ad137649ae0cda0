/- Proved: the fields of a good forest's shape, as the reference and the program read them, are one list; the law FnExactFieldAt's answer is true. No condition beyond those each theorem states. -/
import Derived.Test.YtclploookcjcbaaPForD
import Derived.Test.YtclploookcjcbaaForLaw
set_option linter.unusedVariables false
namespace Go.Proofs.Ytclploookcjcbaa.PFor
open Go Go.RowKit Go.Proofs.YtclploookcjcbaaW.PrintWords Go.Proofs.Ytclploookcjcbaa.Ev
theorem Good.par {l : List S75} (g : Good l) : Par l := par_of l g.ok
theorem Good.cnt {l : List S75} (g : Good l) : Cnt l := cnt_of l g.le g.par g.r2 g.ok
theorem Good.count_le {l : List S75} (g : Good l) (i : Nat) (hi : i < l.length) : (K l i).length ≤ 12 := by
  by_cases h : i = 0
  · subst h; simp [K_zero]
  · have hb := g.ok i (by omega) hi
    unfold bad at hb
    simp only [not_or] at hb
    have := g.cnt i hi
    omega
theorem set_drop (x : List ByteArray) (n : Nat) (b : ByteArray) (h : n < x.length) : (x.set n b).drop n = b :: x.drop (n + 1) := by
  rw [List.drop_eq_getElem_cons (by rw [List.length_set]; exact h), List.getElem_set_self, List.drop_set_of_lt (by omega)]
theorem l2fields_l0 (l : List S75) (g : Good l) : ∀ p, p < l.length → ∀ x : List ByteArray, (K l p).length ≤ x.length → Co (fun k => spec_l2fields.l0 k ((K l p).length : Int) x p l) ((K l p).reverse ++ x.drop (K l p).length) := by
  intro p
  induction p using Nat.strongRecOn with
  | _ p ih =>
    intro hp x hx
    have hP := g.par
    have hle := g.le
    by_cases h0 : p = 0
    · subst h0
      rw [K_zero]
      refine Co.step_const fun k => ?_
      simp only [spec_l2fields.l0]
      rw [if_neg (by omega)]
      rfl
    · have hh := hP p (by omega) hp
      have hK := K_pos l hP p (by omega) hp
      have hc := g.count_le p hp
      rw [hK] at hx hc ⊢
      rw [List.length_cons] at hx hc
      have hw : wrap64 ((((el l p).f1 :: K l (el l p).f0.toNat).length : Int) - 1) = ((K l (el l p).f0.toNat).length : Int) := by
        rw [List.length_cons, IntWalk.wrap64_in _ ⟨by omega, by omega⟩]
        omega
      have hi := ih (el l p).f0.toNat (by omega) (by omega) (x.set (K l (el l p).f0.toNat).length (el l p).f1) (by rw [List.length_set]; omega)
      rw [set_drop _ _ _ (by omega)] at hi
      rw [List.reverse_cons, List.append_assoc, List.length_cons]
      refine Co.step (fun k => ?_) hi
      rw [List.length_cons] at hw
      simp only [spec_l2fields.l0]
      rw [if_pos (by omega), if_pos (by omega), if_pos (by omega), hw, if_pos (by omega), if_pos (by omega), rd_nat, Int.toNat_of_nonneg hh.1, Int.toNat_natCast]
theorem l2fields_co (l : List S75) (g : Good l) (p : Nat) (hp : p < l.length) : Co (fun k => spec_l2fields.f k l p) (K l p).reverse := by
  have hc := g.cnt p hp
  have hle := g.count_le p hp
  have h := l2fields_l0 l g p hp (List.replicate (K l p).length (⟨#[]⟩ : ByteArray)) (by rw [List.length_replicate]; exact Nat.le_refl _)
  rw [List.drop_of_length_le (by rw [List.length_replicate]; exact Nat.le_refl _), List.append_nil] at h
  refine Co.of_eq (fun k => ?_) h
  simp only [spec_l2fields.f]
  rw [if_pos (by omega), if_pos (by omega), rd_nat, hc, if_pos (by omega), if_pos (by omega), Int.toNat_natCast]
open Classical in
/-- What both come to: the fields, or none. -/
noncomputable def fieldsOf (l : List S75) (a : Int) : List ByteArray := if code l = 0 ∧ 0 ≤ a ∧ a < (l.length : Int) then (K l a.toNat).reverse else []
theorem has_co (l : List S75) (a : Int) : Co (fun k => impl_Forest_has.f k l a) (decide (code l = 0 ∧ 0 ≤ a ∧ a < (l.length : Int))) := by
  refine Co.bind (g := fun _ t => if t = 0 then (if a ≥ 0 then (some (decide (a < (l.length : Int)))) else (some false)) else (some false)) (impl_code l) (Co.of_eq (g := fun _ => some _) (fun k => ?_) (Co.const _))
  by_cases h : code l = 0 <;> by_cases h1 : a ≥ 0 <;> by_cases h2 : a < (l.length : Int) <;> simp [h, h1, h2] <;> omega
theorem impl_Fields_co (l : List S75) (a : Int) : Co (fun k => impl_Fields.f k l a) (fieldsOf l a) := by
  refine Co.bind (has_co l a) ?_
  unfold fieldsOf
  by_cases h : code l = 0 ∧ 0 ≤ a ∧ a < (l.length : Int)
  · rw [if_pos h, decide_eq_true h]
    have g := (code_zero l).1 h.1
    have hf := fields_ev l g.le g.par a.toNat (by omega)
    rw [Int.toNat_of_nonneg h.2.1] at hf
    refine Co.of_eq (fun k => if_pos rfl) (Co.bind hf (Co.const _))
  · rw [if_neg h, decide_eq_false h]
    exact Co.of_eq (fun k => if_neg (by simp)) (Co.const _)
theorem l2shape_eq (l : List S75) (a : Int) : spec_l2shape.f l a = some (decide (0 ≤ a ∧ a < (l.length : Int))) := by
  unfold spec_l2shape.f
  by_cases h1 : a ≥ 0 <;> by_cases h2 : a < (l.length : Int) <;> simp [h1, h2] <;> omega
theorem spec_Fields_co (l : List S75) (a : Int) : Co (fun k => spec_Fields.f k l a) (fieldsOf l a) := by
  refine Co.bind (spec_code l) ?_
  unfold fieldsOf
  by_cases h0 : code l = 0
  · refine Co.of_eq (fun k => if_pos h0) (Co.bindc (l2shape_eq l a) ?_)
    by_cases h : 0 ≤ a ∧ a < (l.length : Int)
    · rw [if_pos ⟨h0, h⟩, decide_eq_true h]
      have hf := l2fields_co l ((code_zero l).1 h0) a.toNat (by omega)
      rw [Int.toNat_of_nonneg h.1] at hf
      exact Co.of_eq (fun k => if_pos rfl) (Co.bind hf (Co.const _))
    · rw [if_neg (fun q => h q.2), decide_eq_false h]
      exact Co.of_eq (fun k => if_neg (by simp)) (Co.const _)
  · rw [if_neg (fun q => h0 q.1)]
    exact Co.of_eq (fun k => if_neg h0) (Co.const _)
end Go.Proofs.Ytclploookcjcbaa.PFor
