/- Proved: what the laws' helpers come to at a forest: the size, the copy, the comparison. Conditions: those each theorem states. -/
import Derived.Test.YtclploookcjcbaaForPure
set_option linter.unusedVariables false
namespace Go.Proofs.Ytclploookcjcbaa.PGro
open Go Go.RowKit Go.Proofs.YtclploookcjcbaaW.PrintWords Go.Proofs.Ytclploookcjcbaa.Ev
def cv (x : S123) : S75 := ⟨x.f0, x.f1, x.f2⟩
theorem rd123 (l : List S123) (j : Nat) : rd_T123 l (j : Int) = l.getD j z123 := by simp [rd_T123]
/-! the size -/
theorem szShape_some (a : Int) (b : ByteArray) (c t : Int) : ∃ r, laws_szShape.f a b c t = some r := by
  unfold laws_szShape.f
  split
  · exact ⟨_, rfl⟩
  · exact ⟨_, rfl⟩
theorem szShapeS_l0 (l : List S123) (hl : l.length < 4611686018427387904) : ∀ d j t, j + d = l.length → ∃ r, Co (fun k => laws_szShapeS.l0 k l t j) r
  | 0, j, t, hd => ⟨t, Co.step_const fun k => by simp only [laws_szShapeS.l0]; rw [if_neg (by omega)]⟩
  | d + 1, j, t, hd => by
    obtain ⟨r, hr⟩ := szShape_some (rd_T123 l j).f0 (rd_T123 l j).f1 (rd_T123 l j).f2 t
    by_cases h : r < 0
    · refine ⟨-1, Co.step_const fun k => ?_⟩
      simp only [laws_szShapeS.l0]
      rw [if_pos (by omega), if_pos (by omega), hr, Option.bind_some, if_pos h]
    · obtain ⟨q, hq⟩ := szShapeS_l0 l hl d (j + 1) r (by omega)
      refine ⟨q, Co.step (fun k => ?_) hq⟩
      simp only [laws_szShapeS.l0]
      rw [if_pos (by omega), if_pos (by omega), hr, Option.bind_some, if_neg h, w1 j (by omega)]
/-- The size is reckoned; where something is left of it, the row is short. -/
theorem szForest_co (l : List S123) (hl : l.length ≤ maxLen) (s : Int) (hs : 0 ≤ s ∧ s ≤ 1048576) : ∃ r, Co (fun k => laws_szForest.f k l s) r ∧ (¬ r < 0 → (l.length : Int) ≤ s) := by
  have hm : maxLen = 9223372036854775807 := by unfold maxLen; omega
  have hw : wrap64 (s - (l.length : Int)) = s - (l.length : Int) := IntWalk.wrap64_in _ ⟨by omega, by omega⟩
  by_cases h : s - (l.length : Int) < 0
  · refine ⟨-1, ⟨0, fun k _ => ?_⟩, fun h' => absurd h' (by omega)⟩
    simp only [laws_szForest.f, laws_szShapeS.f]
    rw [hw, if_pos h]
    rfl
  · obtain ⟨r, hr⟩ := szShapeS_l0 l (by omega) l.length 0 (s - (l.length : Int)) (by omega)
    have hr' : Co (fun k => laws_szShapeS.f k l s) r := Co.of_eq (fun k => by simp only [laws_szShapeS.f]; rw [hw, if_neg h]; rfl) hr
    by_cases h2 : r < 0
    · exact ⟨-1, Co.bind (g := fun _ t => if t < 0 then some (-1) else some t) hr' (Co.of_eq (fun k => if_pos h2) (Co.const _)), fun _ => by omega⟩
    · exact ⟨r, Co.bind (g := fun _ t => if t < 0 then some (-1) else some t) hr' (Co.of_eq (fun k => if_neg h2) (Co.const _)), fun _ => by omega⟩
/-! the copy -/
theorem toShapeS_l0 (l : List S123) (hl : l.length < 4611686018427387904) : ∀ d j (y : List S75), j + d = l.length → y.length = l.length → (∀ m, m < j → y[m]? = (l.map cv)[m]?) → Co (fun k => laws_toShapeS.l0 k l y j) (l.map cv)
  | 0, j, y, hd, hy, hm => Co.step_const fun k => by
      simp only [laws_toShapeS.l0]
      rw [if_neg (by omega)]
      refine congrArg some (List.ext_getElem? fun m => ?_)
      by_cases q : m < j
      · exact hm m q
      · rw [List.getElem?_eq_none (by omega), List.getElem?_eq_none (by rw [List.length_map]; omega)]
  | d + 1, j, y, hd, hy, hm => by
    refine Co.step (g := fun k => laws_toShapeS.l0 k l (y.set j (cv (l.getD j z123))) ((j + 1 : Nat) : Int)) (fun k => ?_) (toShapeS_l0 l hl d (j + 1) _ (by omega) (by rw [List.length_set, hy]) (fun m h => ?_))
    · simp only [laws_toShapeS.l0, laws_toShape.f, Option.bind_some]
      rw [if_pos (by omega), if_pos (by omega), if_pos (by omega), w1 j (by omega), rd123]
      rfl
    · rw [List.getElem?_set]
      by_cases q : j = m
      · subst q
        rw [if_pos rfl, if_pos (by omega), List.getElem?_map, List.getD_eq_getElem?_getD, List.getElem?_eq_getElem (by omega)]
        rfl
      · rw [if_neg q]
        exact hm m (by omega)
theorem toForest_co (l : List S123) (hl : l.length ≤ 1048576) : Co (fun k => laws_toForest.f k l) (l.map cv) := by
  refine Co.bind (g := fun _ t => some t) ?_ (Co.const _)
  refine Co.of_eq (fun k => ?_) (toShapeS_l0 l (by omega) l.length 0 (List.replicate ((l.length : Int)).toNat z75) (by omega) (by rw [List.length_replicate]; omega) (fun m h => absurd h (by omega)))
  simp only [laws_toShapeS.f]
  rw [if_pos (by omega), if_pos (by omega)]
  rfl
/-! the comparison -/
theorem eqShape_self (a : Int) (b : ByteArray) (c : Int) : laws_eqShape.f a b c a b c = some true := by simp [laws_eqShape.f]
theorem eqShapeS_l0 (l : List S75) (hl : l.length < 4611686018427387904) : ∀ d j, j + d = l.length → Co (fun k => laws_eqShapeS.l0 k l l j) true
  | 0, j, hd => Co.step_const fun k => by simp only [laws_eqShapeS.l0]; rw [if_neg (by omega)]
  | d + 1, j, hd => by
    refine Co.step (fun k => ?_) (eqShapeS_l0 l hl d (j + 1) (by omega))
    simp only [laws_eqShapeS.l0, eqShape_self, Option.bind_some]
    rw [if_pos (by omega), if_pos (by omega), if_pos (by omega), if_pos trivial, w1 j (by omega)]
theorem eqForest_co (l : List S75) (hl : l.length < 4611686018427387904) : Co (fun k => laws_eqForest.f k l l) true := by
  refine Co.bind (g := fun _ t => if t = true then some true else some false) ?_ (Co.of_eq (fun k => if_pos rfl) (Co.const _))
  refine Co.of_eq (fun k => ?_) (eqShapeS_l0 l hl l.length 0 (by omega))
  simp only [laws_eqShapeS.f]
  rw [if_pos trivial]
  rfl
end Go.Proofs.Ytclploookcjcbaa.PGro
