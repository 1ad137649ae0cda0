/- Proved: the law FnExactFields, as printed, comes to true at every forest and shape that a program can hold. No condition beyond that. -/
import Derived.Test.YtclploookcjcbaaPForL8
import Derived.Test.YtclploookcjcbaaFieldPure
set_option linter.unusedVariables false
namespace Go.Proofs.Ytclploookcjcbaa.PFor
open Go Go.RowKit Go.Proofs.YtclploookcjcbaaW.PrintWords Go.Proofs.Ytclploookcjcbaa.Ev
theorem one_size (c : Int) : (strOfNums [c]).size = 1 := by
  rfl
theorem markText_l0 : ∀ n : Nat, ∀ (a : Int) (s : ByteArray), a.toNat = n → 0 ≤ a → s.size + n ≤ 4611686018427387904 → ∃ b, Co (fun k => laws_markText.l0 k a s) b := by
  intro n
  induction n using Nat.strongRecOn with
  | _ n ih =>
    intro a s hn ha hs
    by_cases h : a > 0
    · have ed : Int.tdiv a 10 = a / 10 := Int.tdiv_eq_ediv_of_nonneg ha
      have hw : wrap64 (Int.tdiv a 10) = a / 10 := by rw [ed]; exact IntWalk.wrap64_in _ ⟨by omega, by omega⟩
      have hs1 := one_size ((wrap64 (48 + (Int.tmod a 10))) % 256)
      obtain ⟨b, hb⟩ := ih (a / 10).toNat (by omega) (a / 10) ((strOfNums [(wrap64 (48 + (Int.tmod a 10))) % 256]) ++ s) rfl (by omega) (by rw [ByteArray.size_append, hs1]; omega)
      refine ⟨b, Co.step (fun k => ?_) hb⟩
      simp only [laws_markText.l0, Option.bind_some]
      rw [if_pos h, if_pos (by rw [hs1]; omega), hw]
    · refine ⟨(⟨#[109]⟩ : ByteArray) ++ s, Co.step_const fun k => ?_⟩
      simp only [laws_markText.l0]
      rw [if_neg h, if_pos (by omega)]
/-- The mark's text, whatever it is. -/
theorem markText_ex : ∃ mt : Int → ByteArray, ∀ a : Int, a ≤ 2305843009213693952 → Co (fun k => laws_markText.f k a) (mt a) := by
  have h : ∀ a : Int, a ≤ 2305843009213693952 → ∃ b, Co (fun k => laws_markText.f k a) b := by
    intro a ha
    by_cases h0 : a ≤ 0
    · exact ⟨_, Co.of_eq (fun k => by simp only [laws_markText.f]; rw [if_pos h0]) (Co.const _)⟩
    · obtain ⟨b, hb⟩ := markText_l0 a.toNat a (⟨#[]⟩ : ByteArray) rfl (by omega) (by show 0 + _ ≤ _; omega)
      exact ⟨b, Co.of_eq (fun k => by simp only [laws_markText.f]; rw [if_neg h0]) hb⟩
  refine ⟨fun a => if q : a ≤ 2305843009213693952 then Classical.choose (h a q) else ByteArray.empty, fun a q => ?_⟩
  simp only [dif_pos q]
  exact Classical.choose_spec (h a q)
theorem wadd (m : Int) (h : 0 ≤ m ∧ m < 2305843009213693952) : wrap64 (m + 1) = m + 1 := IntWalk.wrap64_in _ ⟨by omega, by omega⟩
theorem markStringS_l0 (mt : Int → ByteArray) (hmt : ∀ a : Int, a ≤ 2305843009213693952 → Co (fun k => laws_markText.f k a) (mt a)) : ∀ d j (x : List ByteArray) (m : Int), j + d = x.length → x.length ≤ 1000000 → 0 ≤ m → m + d ≤ 2000000 →
    ∃ y : List ByteArray, Co (fun k => laws_markStringS.l0 k x m j) (m + d, y) ∧ y.length = x.length ∧ (∀ i, i < j → y.getD i ByteArray.empty = x.getD i ByteArray.empty) ∧ ∀ i, j ≤ i → i < x.length → y.getD i ByteArray.empty = mt (m + i - j)
  | 0, j, x, m, hd, hl, h0, hm => by
    refine ⟨x, Co.step_const fun k => ?_, rfl, fun _ _ => rfl, fun i q1 q2 => absurd q2 (by omega)⟩
    simp only [laws_markStringS.l0]
    rw [if_neg (by omega)]
    simp
  | d + 1, j, x, m, hd, hl, h0, hm => by
    obtain ⟨y, hy, hyl, hlow, hhigh⟩ := markStringS_l0 mt hmt d (j + 1) (x.set j (mt m)) (m + 1) (by rw [List.length_set]; omega) (by rw [List.length_set]; exact hl) (by omega) (by omega)
    rw [List.length_set] at hyl hhigh
    refine ⟨y, ?_, hyl, fun i q => ?_, fun i q1 q2 => ?_⟩
    · have e : (m + ((d + 1 : Nat) : Int), y) = (m + 1 + (d : Int), y) := by congr 1; omega
      rw [e]
      refine Co.step (g := fun k => (laws_markText.f k m).bind fun t235 => (if 0 ≤ (j : Int) then (laws_markStringS.l0 k (x.set (j : Int).toNat t235) (wrap64 (m + 1)) (wrap64 ((j : Int) + 1))) else (none))) (fun k => ?_) (Co.bind (hmt m (by omega)) (Co.of_eq (fun k => ?_) hy))
      · simp only [laws_markStringS.l0]
        rw [if_pos (by omega)]
      · rw [if_pos (by omega), wadd m ⟨h0, by omega⟩, w1 j (by omega), Int.toNat_natCast]
    · rw [hlow i (by omega), getD_set _ _ _ _ (by omega), if_neg (by omega)]
    · rcases Nat.lt_or_ge j i with q | q
      · rw [hhigh i (by omega) q2]
        congr 1
        omega
      · obtain rfl : i = j := by omega
        rw [hlow i (by omega), getD_set _ _ _ _ q2, if_pos rfl]
        congr 1
        omega
theorem heldStringS_l0 (mt : Int → ByteArray) (hmt : ∀ a : Int, a ≤ 2305843009213693952 → Co (fun k => laws_markText.f k a) (mt a)) (y : List ByteArray) (hl : y.length ≤ 1000000) : ∀ d j (m : Int), j + d = y.length → 0 ≤ m → m + d ≤ 2000000 → (∀ i, j ≤ i → i < y.length → y.getD i ByteArray.empty = mt (m + i - j)) →
    Co (fun k => laws_heldStringS.l0 k y m j) (m + d)
  | 0, j, m, hd, h0, hm, hy => by
    refine Co.step_const fun k => ?_
    simp only [laws_heldStringS.l0]
    rw [if_neg (by omega)]
    simp
  | d + 1, j, m, hd, h0, hm, hy => by
    have hi := heldStringS_l0 mt hmt y hl d (j + 1) (m + 1) (by omega) (by omega) (by omega) (fun i q1 q2 => by rw [hy i (by omega) q2]; congr 1; omega)
    have e : (m + ((d + 1 : Nat) : Int)) = (m + 1 + (d : Int)) := by omega
    rw [e]
    have hj : rdOf ByteArray.empty y (j : Int) = mt m := by rw [rdOf_nat, hy j (by omega) (by omega)]; congr 1; omega
    refine Co.step (g := fun k => (laws_markText.f k m).bind fun t238 => (if (rdOf ByteArray.empty y (j : Int)).toList = t238.toList then (laws_heldStringS.l0 k y (wrap64 (m + 1)) (wrap64 ((j : Int) + 1))) else (some (-1)))) (fun k => ?_) (Co.bind (hmt m (by omega)) (Co.of_eq (fun k => ?_) hi))
    · simp only [laws_heldStringS.l0]
      rw [if_pos (by omega), if_pos (by omega)]
    · rw [if_pos (by rw [hj]), wadd m ⟨h0, by omega⟩, w1 j (by omega)]
def mk1 (x : List S75) (j : Nat) (m : Int) : List S75 := x.set j (⟨m, (rd_T75 x (j : Int)).f1, (rd_T75 x (j : Int)).f2⟩ : S75)
def mk2 (x : List S75) (j : Nat) (m : Int) (t : ByteArray) : List S75 := (mk1 x j m).set j (⟨(rd_T75 (mk1 x j m) (j : Int)).f0, t, (rd_T75 (mk1 x j m) (j : Int)).f2⟩ : S75)
/-- A shape is marked. -/
def mk3 (x : List S75) (j : Nat) (m : Int) (t : ByteArray) : List S75 := (mk2 x j m t).set j (⟨(rd_T75 (mk2 x j m t) (j : Int)).f0, (rd_T75 (mk2 x j m t) (j : Int)).f1, m + 1 + 1⟩ : S75)
theorem markShapeS_l0 (mt : Int → ByteArray) (hmt : ∀ a : Int, a ≤ 2305843009213693952 → Co (fun k => laws_markText.f k a) (mt a)) : ∀ d j (x : List S75) (m : Int), j + d = x.length → x.length ≤ 1048576 → 0 ≤ m → m + 3 * d ≤ 4000000 → ∃ y : List S75, Co (fun k => laws_markShapeS.l0 k x m j) (m + 3 * d, y)
  | 0, j, x, m, hd, hl, h0, hm => by
    refine ⟨x, Co.step_const fun k => ?_⟩
    simp only [laws_markShapeS.l0]
    rw [if_neg (by omega)]
    simp
  | d + 1, j, x, m, hd, hl, h0, hm => by
    have key : ∀ z : List S75, z.length = x.length → ∃ y : List S75, Co (fun k => laws_markShapeS.l0 k z (m + 1 + 1 + 1) ((j + 1 : Nat) : Int)) (m + 3 * ((d + 1 : Nat) : Int), y) := by
      intro z hz
      obtain ⟨y, hy⟩ := markShapeS_l0 mt hmt d (j + 1) z (m + 1 + 1 + 1) (by omega) (by omega) (by omega) (by omega)
      have e : m + 1 + 1 + 1 + 3 * (d : Int) = m + 3 * ((d + 1 : Nat) : Int) := by omega
      rw [e] at hy
      exact ⟨y, hy⟩
    obtain ⟨y, hy⟩ := key (mk3 x j m (mt (m + 1))) (by simp [mk3, mk2, mk1])
    refine ⟨y, Co.step (g := fun k => (laws_markText.f k (m + 1)).bind fun t229 => laws_markShapeS.l0 k (mk3 x j m t229) (m + 1 + 1 + 1) ((j + 1 : Nat) : Int)) (fun k => ?_) (Co.bind (hmt (m + 1) (by omega)) hy)⟩
    simp only [laws_markShapeS.l0, Option.bind_some]
    rw [if_pos (by omega), if_pos (by omega), wadd m ⟨h0, by omega⟩, wadd (m + 1) ⟨by omega, by omega⟩, wadd (m + 1 + 1) ⟨by omega, by omega⟩, w1 j (by omega), Int.toNat_natCast]
    rfl
theorem eqStringS_l0 (l : List ByteArray) (hl : l.length < 4611686018427387904) : ∀ d j, j + d = l.length → Co (fun k => laws_eqStringS.l0 k l l j) true
  | 0, j, hd => Co.step_const fun k => by simp only [laws_eqStringS.l0]; rw [if_neg (by omega)]
  | d + 1, j, hd => by
    refine Co.step (fun k => ?_) (eqStringS_l0 l hl d (j + 1) (by omega))
    simp only [laws_eqStringS.l0]
    rw [if_pos (by omega), if_pos (by omega), if_pos (by omega), if_pos trivial, w1 j (by omega)]
theorem eqStringS_co (l : List ByteArray) (hl : l.length < 4611686018427387904) : Co (fun k => laws_eqStringS.f k l l) true := by
  refine Co.of_eq (fun k => ?_) (eqStringS_l0 l hl l.length 0 (by omega))
  simp only [laws_eqStringS.f]
  rw [if_pos trivial]
  rfl
theorem fieldsOf_len (l : List S75) (a : Int) : (fieldsOf l a).length ≤ 12 := by
  unfold fieldsOf
  split
  · rename_i h
    have g := (code_zero l).1 h.1
    rw [List.length_reverse]
    exact g.count_le a.toNat (by omega)
  · simp
theorem law_Fields (l : List S123) (a : Int) (hl : l.length ≤ maxLen) (_ha : (Lit.int .i64 a).wf = true) : ∃ k, laws_FnExactFields.f k l a = some true := by
  refine Co.ex (f := fun k => laws_FnExactFields.f k l a) ?_
  unfold laws_FnExactFields.f
  obtain ⟨r, hr, hle⟩ := szForest_co l hl 1048576 (by omega)
  refine Co.bind hr ?_
  by_cases h : r < 0
  · exact Co.of_eq (fun k => if_pos h) (Co.const _)
  have hn := hle h
  have hlen : (l.map cv).length < 4611686018427387904 := by rw [List.length_map]; omega
  have hfl := fieldsOf_len (l.map cv) a
  obtain ⟨mt, hmt⟩ := markText_ex
  have hto := toForest_co l (by omega)
  have hI := impl_Fields_co (l.map cv) a
  have hS := spec_Fields_co (l.map cv) a
  have hE := eqStringS_co (fieldsOf (l.map cv) a) (by omega)
  obtain ⟨y, hy⟩ := markShapeS_l0 mt hmt (l.map cv).length 0 (l.map cv) 1 (by omega) (by rw [List.length_map]; omega) (by omega) (by rw [List.length_map]; omega)
  obtain ⟨z, hz, hzl, _, hz2⟩ := markStringS_l0 mt hmt (fieldsOf (l.map cv) a).length 0 (fieldsOf (l.map cv) a) 1 (by omega) (by omega) (by omega) (by omega)
  have hH := heldStringS_l0 mt hmt z (by omega) (fieldsOf (l.map cv) a).length 0 1 (by omega) (by omega) (by omega) (fun i q1 q2 => hz2 i q1 (by omega))
  refine Co.of_eq (fun k => if_neg h) ?_
  refine Co.bind hto (Co.bind hS (Co.bind hto (Co.bind hI (Co.bind hE (Co.of_eq (fun k => if_pos rfl) (Co.bind hto (Co.bind (eqForest_co _ hlen) (Co.of_eq (fun k => if_pos rfl) (Co.bind (Co.bind hy (Co.const _)) ?_)))))))))
  refine Co.of_eq (fun k => if_neg (by omega)) (Co.bind hE ?_)
  refine Co.step (g := fun k => (laws_markStringS.f k (fieldsOf (l.map cv) a) 1).bind fun bt262 => ((laws_heldStringS.f k bt262.2 1).bind fun t264 => (if t264 < 0 then (none) else (if t264 = bt262.1 then ((laws_toForest.f k l).bind fun t265 => ((impl_Fields.f k t265 a).bind fun t268 => ((laws_eqStringS.f k t268 (fieldsOf (l.map cv) a)).bind fun t271 => (if t271 = true then ((laws_heldStringS.f k bt262.2 1).bind fun t272 => (if t272 < 0 then (none) else (if t272 = bt262.1 then (some true) else (none)))) else (none))))) else (none))))) (fun k => ?_) ?_
  · simp only [laws_FnExactFields.j0]
    rw [if_neg (by simp)]
  · refine Co.bind hz (Co.bind hH (Co.of_eq (fun k => if_neg (by omega)) (Co.of_eq (fun k => if_pos rfl) (Co.bind hto (Co.bind hI (Co.bind hE (Co.of_eq (fun k => if_pos rfl) (Co.bind hH (Co.of_eq (fun k => if_neg (by omega)) (Co.of_eq (fun k => if_pos rfl) (Co.const _)))))))))))
end Go.Proofs.Ytclploookcjcbaa.PFor
