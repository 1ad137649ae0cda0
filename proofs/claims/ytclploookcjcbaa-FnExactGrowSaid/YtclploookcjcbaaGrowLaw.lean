/- Proved: the law FnExactGrow, as printed, comes to true at every forest, shape and name that a program can hold. -/
import Derived.Test.YtclploookcjcbaaPGroL
import Derived.Test.YtclploookcjcbaaGrowPure
set_option linter.unusedVariables false
namespace Go.Proofs.Ytclploookcjcbaa.PGro
open Go Go.RowKit Go.Proofs.YtclploookcjcbaaW.PrintWords Go.Proofs.Ytclploookcjcbaa.Ev
theorem one_size (c : Int) : (strOfNums [c]).size = 1 := by
  rfl
theorem markText_l0 : ∀ n : Nat, ∀ (a : Int) (s : ByteArray), a.toNat = n → 0 ≤ a → s.size + n ≤ 4611686018427387904 → ∃ b, Co (fun k => laws_markText.l0 k a s) b := by
  intro n
  induction n using Nat.strongRecOn with
  | _ n ih =>
    intro a s hn ha hs
    by_cases h : a > 0
    · have ed : Int.tdiv a 10 = a / 10 := Int.tdiv_eq_ediv_of_nonneg ha
      have hw : wrap64 (Int.tdiv a 10) = a / 10 := by rw [ed]; exact IntWalk.wrap64_in _ ⟨by omega, by omega⟩
      have hs1 := one_size ((wrap64 (48 + (Int.tmod a 10))) % 256)
      obtain ⟨b, hb⟩ := ih (a / 10).toNat (by omega) (a / 10) ((strOfNums [(wrap64 (48 + (Int.tmod a 10))) % 256]) ++ s) rfl (by omega) (by rw [ByteArray.size_append, hs1]; omega)
      refine ⟨b, Co.step (fun k => ?_) hb⟩
      simp only [laws_markText.l0, Option.bind_some]
      rw [if_pos h, if_pos (by rw [hs1]; omega), hw]
    · refine ⟨(⟨#[109]⟩ : ByteArray) ++ s, Co.step_const fun k => ?_⟩
      simp only [laws_markText.l0]
      rw [if_neg h, if_pos (by omega)]
/-- The mark's text, whatever it is. -/
theorem markText_ex : ∃ mt : Int → ByteArray, ∀ a : Int, a ≤ 2305843009213693952 → Co (fun k => laws_markText.f k a) (mt a) := by
  have h : ∀ a : Int, a ≤ 2305843009213693952 → ∃ b, Co (fun k => laws_markText.f k a) b := by
    intro a ha
    by_cases h0 : a ≤ 0
    · exact ⟨_, Co.of_eq (fun k => by simp only [laws_markText.f]; rw [if_pos h0]) (Co.const _)⟩
    · obtain ⟨b, hb⟩ := markText_l0 a.toNat a (⟨#[]⟩ : ByteArray) rfl (by omega) (by show 0 + _ ≤ _; omega)
      exact ⟨b, Co.of_eq (fun k => by simp only [laws_markText.f]; rw [if_neg h0]) hb⟩
  refine ⟨fun a => if q : a ≤ 2305843009213693952 then Classical.choose (h a q) else ByteArray.empty, fun a q => ?_⟩
  simp only [dif_pos q]
  exact Classical.choose_spec (h a q)
theorem wadd (m : Int) (h : 0 ≤ m ∧ m < 2305843009213693952) : wrap64 (m + 1) = m + 1 := IntWalk.wrap64_in _ ⟨by omega, by omega⟩
def mk1 (x : List S75) (j : Nat) (m : Int) : List S75 := x.set j (⟨m, (rd_T75 x (j : Int)).f1, (rd_T75 x (j : Int)).f2⟩ : S75)
def mk2 (x : List S75) (j : Nat) (m : Int) (t : ByteArray) : List S75 := (mk1 x j m).set j (⟨(rd_T75 (mk1 x j m) (j : Int)).f0, t, (rd_T75 (mk1 x j m) (j : Int)).f2⟩ : S75)
/-- A shape is marked. -/
def mk3 (x : List S75) (j : Nat) (m : Int) (t : ByteArray) : List S75 := (mk2 x j m t).set j (⟨(rd_T75 (mk2 x j m t) (j : Int)).f0, (rd_T75 (mk2 x j m t) (j : Int)).f1, m + 1 + 1⟩ : S75)
theorem el_set (x : List S75) (j : Nat) (b : S75) (i : Nat) (hi : i < x.length) : el (x.set j b) i = if j = i then b else el x i := by
  unfold el
  rw [List.getD_eq_getElem?_getD, List.getElem?_set, List.getD_eq_getElem?_getD]
  by_cases h : j = i
  · subst h; simp [hi]
  · simp [h]
theorem mk3_len (x : List S75) (j : Nat) (m : Int) (t : ByteArray) : (mk3 x j m t).length = x.length := by simp [mk3, mk2, mk1]
theorem mk3_at (x : List S75) (j : Nat) (m : Int) (t : ByteArray) (hj : j < x.length) (i : Nat) (hi : i < x.length) : el (mk3 x j m t) i = if j = i then ⟨m, t, m + 1 + 1⟩ else el x i := by
  have e1 : el (mk1 x j m) j = ⟨m, (rd_T75 x (j : Int)).f1, (rd_T75 x (j : Int)).f2⟩ := by unfold mk1; rw [el_set _ _ _ _ hj, if_pos rfl]
  have l1 : (mk1 x j m).length = x.length := by simp [mk1]
  have e2 : el (mk2 x j m t) j = ⟨m, t, (rd_T75 x (j : Int)).f2⟩ := by unfold mk2; rw [el_set _ _ _ _ (by omega), if_pos rfl, rd_nat, e1]
  have l2 : (mk2 x j m t).length = x.length := by simp [mk2, mk1]
  unfold mk3
  rw [el_set _ _ _ _ (by omega), rd_nat, e2]
  by_cases h : j = i
  · rw [if_pos h, if_pos h]
  · rw [if_neg h, if_neg h]
    unfold mk2
    rw [el_set _ _ _ _ (by omega), if_neg h]
    unfold mk1
    rw [el_set _ _ _ _ hi, if_neg h]
theorem markShapeS_l0 (mt : Int → ByteArray) (hmt : ∀ a : Int, a ≤ 2305843009213693952 → Co (fun k => laws_markText.f k a) (mt a)) : ∀ d j (x : List S75) (m : Int), j + d = x.length → x.length ≤ 1048577 → 0 ≤ m → m + 3 * d ≤ 4000000 →
    ∃ y : List S75, Co (fun k => laws_markShapeS.l0 k x m j) (m + 3 * d, y) ∧ y.length = x.length ∧ (∀ i, i < j → el y i = el x i) ∧ ∀ i, j ≤ i → i < x.length → el y i = ⟨m + 3 * (i - j), mt (m + 3 * (i - j) + 1), m + 3 * (i - j) + 1 + 1⟩
  | 0, j, x, m, hd, hl, h0, hm => by
    refine ⟨x, Co.step_const fun k => ?_, rfl, fun _ _ => rfl, fun i q1 q2 => absurd q2 (by omega)⟩
    simp only [laws_markShapeS.l0]
    rw [if_neg (by omega)]
    simp
  | d + 1, j, x, m, hd, hl, h0, hm => by
    have hml := mk3_len x j m (mt (m + 1))
    obtain ⟨y, hy, hyl, hlow, hhigh⟩ := markShapeS_l0 mt hmt d (j + 1) (mk3 x j m (mt (m + 1))) (m + 1 + 1 + 1) (by omega) (by omega) (by omega) (by omega)
    have e : m + 1 + 1 + 1 + 3 * (d : Int) = m + 3 * ((d + 1 : Nat) : Int) := by omega
    rw [e] at hy
    refine ⟨y, Co.step (g := fun k => (laws_markText.f k (m + 1)).bind fun t229 => laws_markShapeS.l0 k (mk3 x j m t229) (m + 1 + 1 + 1) ((j + 1 : Nat) : Int)) (fun k => ?_) (Co.bind (hmt (m + 1) (by omega)) hy), by omega, fun i q => ?_, fun i q1 q2 => ?_⟩
    · simp only [laws_markShapeS.l0, Option.bind_some]
      rw [if_pos (by omega), if_pos (by omega), wadd m ⟨h0, by omega⟩, wadd (m + 1) ⟨by omega, by omega⟩, wadd (m + 1 + 1) ⟨by omega, by omega⟩, w1 j (by omega), Int.toNat_natCast]
      rfl
    · rw [hlow i (by omega), mk3_at x j m _ (by omega) i (by omega), if_neg (by omega)]
    · rcases Nat.lt_or_ge j i with q | q
      · rw [hhigh i (by omega) (by omega)]
        have e2 : m + 1 + 1 + 1 + 3 * ((i : Int) - ((j + 1 : Nat) : Int)) = m + 3 * ((i : Int) - (j : Int)) := by omega
        rw [e2]
      · obtain rfl : i = j := by omega
        rw [hlow i (by omega), mk3_at x i m _ (by omega) i q2, if_pos rfl]
        simp
theorem heldShapeS_l0 (mt : Int → ByteArray) (hmt : ∀ a : Int, a ≤ 2305843009213693952 → Co (fun k => laws_markText.f k a) (mt a)) (y : List S75) (hl : y.length ≤ 1048577) : ∀ d j (m : Int), j + d = y.length → 0 ≤ m → m + 3 * d ≤ 4000000 →
    (∀ i, j ≤ i → i < y.length → el y i = ⟨m + 3 * (i - j), mt (m + 3 * (i - j) + 1), m + 3 * (i - j) + 1 + 1⟩) → Co (fun k => laws_heldShapeS.l0 k y m j) (m + 3 * d)
  | 0, j, m, hd, h0, hm, hy => by
    refine Co.step_const fun k => ?_
    simp only [laws_heldShapeS.l0]
    rw [if_neg (by omega)]
    simp
  | d + 1, j, m, hd, h0, hm, hy => by
    have hi := heldShapeS_l0 mt hmt y hl d (j + 1) (m + 1 + 1 + 1) (by omega) (by omega) (by omega) (fun i q1 q2 => by
      rw [hy i (by omega) q2]
      have e2 : m + 1 + 1 + 1 + 3 * ((i : Int) - ((j + 1 : Nat) : Int)) = m + 3 * ((i : Int) - (j : Int)) := by omega
      rw [e2])
    have e : m + 1 + 1 + 1 + 3 * (d : Int) = m + 3 * ((d + 1 : Nat) : Int) := by omega
    rw [e] at hi
    have hj : el y j = ⟨m, mt (m + 1), m + 1 + 1⟩ := by rw [hy j (by omega) (by omega)]; simp
    refine Co.step (g := fun k => (laws_markText.f k (m + 1)).bind fun t218 => (if (mt (m + 1)).toList = t218.toList then (laws_heldShapeS.l0 k y (m + 1 + 1 + 1) ((j + 1 : Nat) : Int)) else (some (-1)))) (fun k => ?_) (Co.bind (hmt (m + 1) (by omega)) (Co.of_eq (fun k => if_pos rfl) hi))
    simp only [laws_heldShapeS.l0]
    rw [if_pos (by omega), if_pos (by omega), rd_nat, hj, if_pos rfl, wadd m ⟨h0, by omega⟩, wadd (m + 1) ⟨by omega, by omega⟩, wadd (m + 1 + 1) ⟨by omega, by omega⟩, w1 j (by omega)]
    simp only [if_true]
theorem eqGrown_co (l : List S75) (a : Int) (hl : l.length < 4611686018427387904) : Co (fun k => laws_eqGrown.f k l a l a) true :=
  Co.bind (eqForest_co l hl) (Co.of_eq (fun k => if_pos rfl) (Co.of_eq (fun k => if_pos rfl) (Co.const _)))
theorem held_co (y : List S75) (m a : Int) (h0 : 0 ≤ m) (h : Co (fun k => laws_heldShapeS.f k y 1) m) : Co (fun k => laws_heldGrown.f k y a 1) m :=
  Co.bind (Co.bind h (Co.of_eq (fun k => if_neg (by omega)) (Co.const _))) (Co.of_eq (fun k => if_neg (by omega)) (Co.const _))
theorem law_Grow (l : List S123) (a : Int) (s : ByteArray) (hl : l.length ≤ maxLen) (_ha : (Lit.int .i64 a).wf = true) (_hs : s.size ≤ maxLen) : ∃ k, laws_FnExactGrow.f k l a s = some true := by
  refine Co.ex (f := fun k => laws_FnExactGrow.f k l a s) ?_
  unfold laws_FnExactGrow.f
  by_cases hz : (s.size : Int) > 1048576
  · exact Co.of_eq (fun k => if_pos hz) (Co.const _)
  refine Co.of_eq (fun k => if_neg hz) ?_
  obtain ⟨r, hr, hle⟩ := szForest_co l hl 1048576 (by omega)
  refine Co.bind hr ?_
  by_cases h : r < 0
  · exact Co.of_eq (fun k => if_pos h) (Co.const _)
  have hn := hle h
  have hlen : (l.map cv).length < 4611686018427387904 := by rw [List.length_map]; omega
  obtain ⟨mt, hmt⟩ := markText_ex
  have hto := toForest_co l (by omega)
  obtain ⟨⟨gl, gi⟩, hS, hI, hgl⟩ := grow_same (l.map cv) a s
  simp only at hgl
  have hE := eqGrown_co gl gi (by omega)
  obtain ⟨y, hy, _, _, _⟩ := markShapeS_l0 mt hmt (l.map cv).length 0 (l.map cv) 1 (by omega) (by rw [List.length_map]; omega) (by omega) (by rw [List.length_map]; omega)
  obtain ⟨z, hz', hzl, _, hz2⟩ := markShapeS_l0 mt hmt gl.length 0 gl 1 (by omega) (by omega) (by omega) (by omega)
  have hH : Co (fun k => laws_heldGrown.f k z gi 1) (1 + 3 * (gl.length : Int)) := held_co z _ gi (by omega) (heldShapeS_l0 mt hmt z (by omega) gl.length 0 1 (by omega) (by omega) (by omega) (fun i q1 q2 => hz2 i q1 (by omega)))
  refine Co.of_eq (fun k => if_neg h) ?_
  refine Co.bind hto (Co.bind hS (Co.bind hto (Co.bind hI (Co.bind hE (Co.of_eq (fun k => if_pos rfl) (Co.bind hto (Co.bind (eqForest_co _ hlen) (Co.of_eq (fun k => if_pos rfl) (Co.bind (Co.bind hy (Co.const _)) ?_)))))))))
  refine Co.of_eq (fun k => if_neg (by omega)) (Co.bind hE ?_)
  refine Co.step (g := fun k => (laws_markGrown.f k gl gi 1).bind fun bt251 => ((laws_heldGrown.f k bt251.2 gi 1).bind fun t253 => (if t253 < 0 then (none) else (if t253 = bt251.1 then ((laws_toForest.f k l).bind fun t254 => ((impl_Grow.f k t254 a s).bind fun bt257 => ((laws_eqGrown.f k bt257.1 bt257.2 gl gi).bind fun t262 => (if t262 = true then ((laws_heldGrown.f k bt251.2 gi 1).bind fun t263 => (if t263 < 0 then (none) else (if t263 = bt251.1 then (some true) else (none)))) else (none))))) else (none))))) (fun k => ?_) ?_
  · simp only [laws_FnExactGrow.j0]
    rw [if_neg (by simp)]
  · refine Co.bind (Co.bind (Co.bind hz' (Co.const _)) (Co.const _)) (Co.bind hH (Co.of_eq (fun k => if_neg (by omega)) (Co.of_eq (fun k => if_pos rfl) (Co.bind hto (Co.bind hI (Co.bind hE (Co.of_eq (fun k => if_pos rfl) (Co.bind hH (Co.of_eq (fun k => if_neg (by omega)) (Co.of_eq (fun k => if_pos rfl) (Co.const _)))))))))))
end Go.Proofs.Ytclploookcjcbaa.PGro
