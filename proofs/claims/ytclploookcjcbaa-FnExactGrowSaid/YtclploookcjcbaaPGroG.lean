/- Proved: each Go function that is named below comes to the answers of the Lean function printed for it. Printed by a changed copy of the kit's print program (wip/mkpk.py), for this claim. -/
import Derived.Test.YtclploookcjcbaaPGrox0
import Derived.Test.YtclploookcjcbaaPGroD
namespace Go.Proofs.Ytclploookcjcbaa.PGro
open Go.RowKit Go.Proofs.YtclploookcjcbaaW.PrintWords Go.Proofs.YtclploookcjcbaaW.PrintLast Go.Proofs.YtclploookcjcbaaW.PrintMore
attribute [local go_sem] max2_int min2_int max_two min_two max_three min_three max_four min_four   -- for this text's walks alone
set_option linter.unusedVariables false
set_option linter.unusedSimpArgs false

/-! ### impl_Grow: function 35 -/
mutual
def impl_Grow.j0 : Nat → Int → ByteArray → Bool → List (S75) → Option ((List (S75)) × Int)
 | 0, _, _, _, _ => none
 | k + 1, x1, x2, x25, x157000 => if x25 = true then (some (([] : List (S75)), (-1))) else ((impl_Shape.f x157000).bind fun t163 => (impl_Grow.l0 k x1 x2 x157000 (x157000.length : Int) 0 x157000 t163 (-1)))
def impl_Grow.l0 : Nat → Int → ByteArray → List (S75) → Int → Int → List (S75) → List (S75) → Int → Option ((List (S75)) × Int)
 | 0, _, _, _, _, _, _, _, _ => none
 | k + 1, x1, x2, x33, x34, x35, x157000, x167000, x167001 => if x35 < x34 then (if 0 ≤ x35 then (if x35 < (x33.length : Int) then (if x35 > 0 then (if ((rd_T75 x33 x35).f0) = x1 then (if ((rd_T75 x33 x35).f1).toList = x2.toList then (some (x167000, x35)) else (impl_Grow.l0 k x1 x2 x33 x34 (wrap64 (x35 + 1)) x157000 x167000 x167001)) else (impl_Grow.l0 k x1 x2 x33 x34 (wrap64 (x35 + 1)) x157000 x167000 x167001)) else (impl_Grow.l0 k x1 x2 x33 x34 (wrap64 (x35 + 1)) x157000 x167000 x167001)) else (none)) else (none)) else (if 0 ≤ x1 then (if x1 < (x157000.length : Int) then (if ((rd_T75 x157000 x1).f2) < 12 then (if (x157000.length : Int) < 200 then (if x167000.length < 4398046511104 then (some ((x167000 ++ [(⟨x1, x2, wrap64 (((rd_T75 x157000 x1).f2) + 1)⟩ : S75)]), (x157000.length : Int))) else (none)) else (some (x167000, x167001))) else (some (x167000, x167001))) else (none)) else (none))
end
def impl_Grow.f (k : Nat) (l0_0 : List (S75)) (a1 : Int) (a2 : ByteArray) : Option ((List (S75)) × Int) := (impl_Forest_has.f k l0_0 a1).bind fun t158 => (if t158 = true then (if (a2.size : Int) > 4000 then (impl_Grow.j0 k a1 a2 true l0_0) else ((impl_Forest_fields.f k l0_0 a1).bind fun t159 => ((slices_Contains_string_string.f k t159 a2).bind fun t162 => (impl_Grow.j0 k a1 a2 t162 l0_0)))) else (impl_Grow.j0 k a1 a2 true l0_0))
theorem impl_Grow.mono_l : ∀ k, (∀ y0 y1 y2 y3, LeO (impl_Grow.j0 k y0 y1 y2 y3) (impl_Grow.j0 (k + 1) y0 y1 y2 y3)) ∧ (∀ y0 y1 y2 y3 y4 y5 y6 y7, LeO (impl_Grow.l0 k y0 y1 y2 y3 y4 y5 y6 y7) (impl_Grow.l0 (k + 1) y0 y1 y2 y3 y4 y5 y6 y7))
 | 0 => ⟨fun _ _ _ _ r h => by simp [impl_Grow.j0] at h, fun _ _ _ _ _ _ _ _ r h => by simp [impl_Grow.l0] at h⟩
 | k + 1 => by
  obtain ⟨ih0, ih1⟩ := impl_Grow.mono_l k
  refine ⟨?_, ?_⟩
  ·intro y0 y1 y2 y3
   unfold impl_Grow.j0
   repeat' first
   | (with_reducible exact ih0 _ _ _ _)
   | (with_reducible exact ih1 _ _ _ _ _ _ _ _)
   | (with_reducible exact impl_Forest_fields.mono _ _ _)
   | (with_reducible exact impl_Forest_has.mono _ _ _)
   | (with_reducible exact slices_Contains_string_string.mono _ _ _)
   | (with_reducible exact LeO.refl _)
   | (with_reducible exact LeO.none _)
   | (with_reducible refine LeO.ite ?_ ?_)
   | (with_reducible refine LeO.bind ?_ (fun _ => ?_))
   | exact ih0 _ _ _ _
   | exact ih1 _ _ _ _ _ _ _ _
   | exact impl_Forest_fields.mono _ _ _
   | exact impl_Forest_has.mono _ _ _
   | exact slices_Contains_string_string.mono _ _ _
   | exact LeO.none _
   | refine LeO.ite ?_ ?_
   | refine LeO.bind ?_ (fun _ => ?_)
  ·intro y0 y1 y2 y3 y4 y5 y6 y7
   unfold impl_Grow.l0
   repeat' first
   | (with_reducible exact ih0 _ _ _ _)
   | (with_reducible exact ih1 _ _ _ _ _ _ _ _)
   | (with_reducible exact impl_Forest_fields.mono _ _ _)
   | (with_reducible exact impl_Forest_has.mono _ _ _)
   | (with_reducible exact slices_Contains_string_string.mono _ _ _)
   | (with_reducible exact LeO.refl _)
   | (with_reducible exact LeO.none _)
   | (with_reducible refine LeO.ite ?_ ?_)
   | (with_reducible refine LeO.bind ?_ (fun _ => ?_))
   | exact ih0 _ _ _ _
   | exact ih1 _ _ _ _ _ _ _ _
   | exact impl_Forest_fields.mono _ _ _
   | exact impl_Forest_has.mono _ _ _
   | exact slices_Contains_string_string.mono _ _ _
   | exact LeO.none _
   | refine LeO.ite ?_ ?_
   | refine LeO.bind ?_ (fun _ => ?_)
theorem impl_Grow.mono : ∀ a0 a1 a2 k, LeO (impl_Grow.f k a0 a1 a2) (impl_Grow.f (k + 1) a0 a1 a2) := by
 intro a0 a1 a2 k
 obtain ⟨ih0, ih1⟩ := impl_Grow.mono_l k
 unfold impl_Grow.f
 repeat' first
   | (with_reducible exact ih0 _ _ _ _)
   | (with_reducible exact ih1 _ _ _ _ _ _ _ _)
   | (with_reducible exact impl_Forest_fields.mono _ _ _)
   | (with_reducible exact impl_Forest_has.mono _ _ _)
   | (with_reducible exact slices_Contains_string_string.mono _ _ _)
   | (with_reducible exact LeO.refl _)
   | (with_reducible exact LeO.none _)
   | (with_reducible refine LeO.ite ?_ ?_)
   | (with_reducible refine LeO.bind ?_ (fun _ => ?_))
   | exact ih0 _ _ _ _
   | exact ih1 _ _ _ _ _ _ _ _
   | exact impl_Forest_fields.mono _ _ _
   | exact impl_Forest_has.mono _ _ _
   | exact slices_Contains_string_string.mono _ _ _
   | exact LeO.none _
   | refine LeO.ite ?_ ?_
   | refine LeO.bind ?_ (fun _ => ?_)
def impl_Grow.T13 : Bool × List (List Nat × List Nat) := (true, [([], []), ([0], [0]), ([1], [1]), ([], []), ([], []), ([], []), ([5], [5]), ([], []), ([6, 7], [6, 7]), ([8], [8]), ([9], [9]), ([10], [10]), ([3, 4, 11], [3, 4, 11]), ([12], [12]), ([2, 13], [2, 13]), ([0, 1, 2, 3, 4, 5, 6, 7, 8, 9, 10, 11, 12, 13, 14], []), ([15, 0, 1, 2, 3, 4, 5, 6, 7, 8, 9, 10, 11, 12, 13, 14], [15]), ([16, 14, 14, 0, 1, 2, 3, 4, 5, 6, 7, 8, 9, 10, 11, 12, 13, 14], [14, 16])])
def impl_Grow.B13 : List Nat := [0, 1, 3, 0, 0, 0, 32, 0, 224, 480, 992, 2016, 4088, 8184, 16383, 32767, 65535, 131071]
theorem impl_Grow.tab13 : rtab .any (opsOf Try.f35 13) = impl_Grow.T13 := by kernel_rfl
theorem impl_Grow.bits13 : waitsOk impl_Grow.T13.2 impl_Grow.B13 = true := by kernel_rfl
set_option maxHeartbeats 8000000 in
set_option maxRecDepth 100000 in
theorem impl_Grow.calls (k : Nat) (A0_0 : Option Addr) (c0_0 : Nat) (l0_0 : List (S75)) (a1 : Int) (a2 : ByteArray) (r1 : List (S75)) (r2 : Int) (w : World) (hr0_0 : Kd.C k75 w A0_0 l0_0.length l0_0) (hc0_0 : l0_0.length ≤ c0_0) (h : impl_Grow.f k l0_0 a1 a2 = some (r1, r2)) :
  Calls Try.prog 35 #[.agg #[.slice A0_0 l0_0.length c0_0], .int .i64 a1, .string a2] w fun e w' => ∃ v0_ : Value, e = .returned (.agg #[v0_, .int .i64 r2]) ∧ Kd.R k75 75 w' w.heap.size (fun _ => True) v0_ r1 ∧ Below w.heap.size w w' := by
 have hu36 := Try.underlying36
 have hu64 := Try.underlying64
 have hu75 := Try.underlying75
 have HR0_0 := A0_.mk hr0_0
 have HC0_0 := A0_.mk hc0_0
 clear hr0_0 hc0_0
 have HB := A0_.mk (Below.refl w.heap.size w)
 have H : ((impl_Forest_has.f k l0_0 a1).bind fun t158 => (if t158 = true then (if (a2.size : Int) > 4000 then (impl_Grow.j0 k a1 a2 true l0_0) else ((impl_Forest_fields.f k l0_0 a1).bind fun t159 => ((slices_Contains_string_string.f k t159 a2).bind fun t162 => (impl_Grow.j0 k a1 a2 t162 l0_0)))) else (impl_Grow.j0 k a1 a2 true l0_0))) = some (r1, r2) := h
 clear h
 have HC4 := A0_.mk H
 clear H
 go_enter Try.func35, Try.ntmps35
 go_upto_region 1 with (first | ((with_reducible refine gate_dst (N := 3) rfl ?_); (try (refine gate_guard (by rfl) ?_; dsimp only)); refine box_event ?hg (N := 3) ?hd (cs := #[.slice A0_0 l0_0.length c0_0]) (t := 36) ?hr ?_; (case hd => rfl); (case hg => rfl); (case hr => first | (go_simp; done) | (go_simp; rfl)); intro gb156 hg w5 hbox hb; have n0_ := A0_.mk (below_step (by repeat (first | (with_reducible first | exact HB.out | apply bal | apply pdN | apply bdr) | exact HB.out)) hb); have n1_ := A0_.mk (hbox); have n2_ := A0_.mk ((by rw [hg]; exact (below_size (by repeat (first | (with_reducible first | exact HB.out | apply bal | apply pdN | apply bdr) | exact HB.out))) : w.heap.size ≤ gb156)); have n3_ := A0_.mk ((by rw [hg]; exact (below_size (by repeat (first | (with_reducible first | exact HB.out | apply bal | apply pdN | apply bdr) | exact HB.out))) : w.heap.size ≤ gb156)); clear HB; have HB := n0_; have BK156 := n1_; have GW156 := n2_; have GE156 := n3_; clear n0_ n1_ n2_ n3_; clear hb hbox hg) | ((with_reducible refine gate_dst (N := 6) rfl ?_); (try (refine gate_guard (by rfl) ?_; dsimp only)); refine box_event ?hg (N := 6) ?hd (cs := #[.slice none 0 0, .int .i64 0]) (t := 64) ?hr ?_; (case hd => rfl); (case hg => rfl); (case hr => first | (go_simp; done) | (go_simp; rfl)); intro gb157 hg w6 hbox hb; have n0_ := A0_.mk (blk_below (g := gb156) (o := .cells #[.slice A0_0 l0_0.length c0_0] 36 (0, 0)) (by (with_reducible repeat (first | refine bkN ?_ _ | refine bkD ?_ | refine bkA ?_ _)); exact BK156.out) hb); have n1_ := A0_.mk (below_step (by repeat (first | (with_reducible first | exact HB.out | apply bal | apply pdN | apply bdr | refine bst ?_ GE156.out) | exact HB.out)) hb); have n2_ := A0_.mk (hbox); have n3_ := A0_.mk ((by rw [hg]; exact (below_size (by repeat (first | (with_reducible first | exact HB.out | apply bal | apply pdN | apply bdr | refine bst ?_ GE156.out) | exact HB.out))) : w.heap.size ≤ gb157)); have n4_ := A0_.mk ((by rw [hg]; exact (below_size (by repeat (first | (with_reducible first | exact HB.out | apply bal | apply pdN | apply bdr | refine bst ?_ GE156.out) | exact HB.out))) : w.heap.size ≤ gb157)); have n5_ := A0_.mk ((by rw [hg]; exact Nat.ne_of_lt (blk_lt (g := gb156) (o := .cells #[.slice A0_0 l0_0.length c0_0] 36 (0, 0)) (by (with_reducible repeat (first | refine bkN ?_ _ | refine bkD ?_ | refine bkA ?_ _)); exact BK156.out)) : gb156 ≠ gb157)); have n6_ := A0_.mk ((by rw [hg]; exact Nat.ne_of_gt (blk_lt (g := gb156) (o := .cells #[.slice A0_0 l0_0.length c0_0] 36 (0, 0)) (by (with_reducible repeat (first | refine bkN ?_ _ | refine bkD ?_ | refine bkA ?_ _)); exact BK156.out)) : gb157 ≠ gb156)); clear BK156; clear HB; have BK156 := n0_; have HB := n1_; have BK157 := n2_; have GW157 := n3_; have GE157 := n4_; have NB156_157 := n5_; have NB157_156 := n6_; clear n0_ n1_ n2_ n3_ n4_ n5_ n6_; clear hb hbox hg))
 (try simp only [Act.put, List.setIfInBounds_toArray, List.set_cons_zero, List.set_cons_succ])
 go_cut [25] (fun v25 wc => ∃ (kq : Nat) (x25_3 : Bool), v25 = .bool x25_3 ∧ A0_ (impl_Grow.j0 kq a1 a2 x25_3 l0_0 = some (r1, r2)) ∧ A0_ (kq ≤ k) ∧ A0_ (wc.heap[gb156]? = some (.cells #[(.slice A0_0 l0_0.length c0_0)] 36 (0, 0))) ∧ A0_ (wc.heap[gb157]? = some (.cells #[(.slice none 0 0), .int .i64 0] 64 (0, 0))) ∧ A0_ (Below w.heap.size w wc))
 case first =>
  have H := HC4.out
  clear HC4
  replace H := Option.bind_eq_some_iff.mp H
  obtain ⟨t158, A70, H⟩ := H
  replace H : (if t158 = true then (if (a2.size : Int) > 4000 then (impl_Grow.j0 k a1 a2 true l0_0) else ((impl_Forest_fields.f k l0_0 a1).bind fun t159 => ((slices_Contains_string_string.f k t159 a2).bind fun t162 => (impl_Grow.j0 k a1 a2 t162 l0_0)))) else (impl_Grow.j0 k a1 a2 true l0_0)) = some (r1, r2) := H
  have A7 := A0_.mk A70
  clear A70
  by_cases c8 : t158 = true
  ·subst c8
   have H1 : (if (a2.size : Int) > 4000 then (impl_Grow.j0 k a1 a2 true l0_0) else ((impl_Forest_fields.f k l0_0 a1).bind fun t159 => ((slices_Contains_string_string.f k t159 a2).bind fun t162 => (impl_Grow.j0 k a1 a2 t162 l0_0)))) = some (r1, r2) := by rw [if_pos rfl] at H; exact H
   clear H
   have H := H1
   clear H1
   by_cases c9 : (a2.size : Int) > 4000
   ·rw [if_pos c9] at H
    have c9b0 : decide (4000 < (a2.size : Int)) = true := decide_eq_true c9
    have c9b1 : decide (4000 < a2.size) = true := decide_eq_true (by omega)
    clear c9
    (first | rw [c9b0] | (simp only [i64_w, i32_w]; rw [c9b0]) | skip)
    have H' := A0_.mk H
    clear H
    have hnb10 := NB156_157.out
    have hnc10 := NB157_156.out
    have hcz11_0 : w6.cell? ⟨gb156, 0, none⟩ = some (.slice A0_0 l0_0.length c0_0) := (bkC BK156.out 0).trans rfl
    have hfz11_0 := bkF BK156.out 0
    go_wp2_with (first | ((with_reducible refine gate_callee (f := 65) rfl ?_); refine goesL_ (some 12) rfl rfl Try.func65 (by kernel_rfl) rfl #[.agg #[.slice A0_0 l0_0.length c0_0], .int .i64 a1] rfl (by (try simp only [List.map_toArray, List.map_cons, List.map_nil]); first | done | rfl | (simp only [List.length_drop, List.length_take]; rfl)) ?_; (with_reducible refine (impl_Forest_has.calls k _ _ l0_0 a1 true _ ?side1 ?side2 A7.out).mono ?_); (case side1 => repeat (first | exact (Kd.C_below HR0_0.out HB.out) | (with_reducible refine Kd.C_alloc ?_ _) | (with_reducible refine Kd.C_drewN ?_ _) | (with_reducible refine Kd.C_drew ?_))); (case side2 => exact HC0_0.out); rintro e w12 ⟨rfl, hb⟩; refine ⟨_, rfl, ?_⟩; have n0_ := A0_.mk (blk_below (g := gb156) (o := .cells #[.slice A0_0 l0_0.length c0_0] 36 (0, 0)) (by (with_reducible repeat (first | refine bkN ?_ _ | refine bkD ?_ | refine bkA ?_ _)); exact BK156.out) hb); have n1_ := A0_.mk (blk_below (g := gb157) (o := .cells #[.slice none 0 0, .int .i64 0] 64 (0, 0)) (by (with_reducible repeat (first | refine bkN ?_ _ | refine bkD ?_ | refine bkA ?_ _)); exact BK157.out) hb); have n2_ := A0_.mk (below_step (by repeat (first | (with_reducible first | exact HB.out | apply bal | apply pdN | apply bdr | refine bst ?_ GE156.out | refine bst ?_ GE157.out) | exact HB.out)) hb); clear BK156; clear BK157; clear HB; have BK156 := n0_; have BK157 := n1_; have HB := n2_; clear n0_ n1_ n2_; (try clear hb); (try clear hb2); (try clear hk); (try clear hi)))
    go_meet
    case rel => exact ⟨_, (true), (by first | rfl | (simp; done) | (simp [*]; done)), H', ⟨by first | omega | exact Nat.le_refl _⟩, ⟨by (with_reducible repeat (first | refine bkN ?_ _ | refine bkD ?_ | refine bkA ?_ _)); exact BK156.out⟩, ⟨by (with_reducible repeat (first | refine bkN ?_ _ | refine bkD ?_ | refine bkA ?_ _)); exact BK157.out⟩, ⟨by repeat (first | (with_reducible first | exact HB.out | apply bal | apply pdN | apply bdr | refine bst ?_ GE156.out | refine bst ?_ GE157.out) | exact HB.out)⟩⟩
   ·rw [if_neg c9] at H
    have c9b0 : decide (4000 < (a2.size : Int)) = false := decide_eq_false c9
    have c9b1 : decide (4000 < a2.size) = false := decide_eq_false (by omega)
    clear c9
    (first | rw [c9b0] | (simp only [i64_w, i32_w]; rw [c9b0]) | skip)
    replace H := Option.bind_eq_some_iff.mp H
    obtain ⟨t159, A130, H⟩ := H
    replace H : ((slices_Contains_string_string.f k t159 a2).bind fun t162 => (impl_Grow.j0 k a1 a2 t162 l0_0)) = some (r1, r2) := H
    have A13 := A0_.mk A130
    clear A130
    replace H := Option.bind_eq_some_iff.mp H
    obtain ⟨t162, A140, H⟩ := H
    replace H : (impl_Grow.j0 k a1 a2 t162 l0_0) = some (r1, r2) := H
    have A14 := A0_.mk A140
    clear A140
    have H' := A0_.mk H
    clear H
    have hnb15 := NB156_157.out
    have hnc15 := NB157_156.out
    have hcz16_0 : w6.cell? ⟨gb156, 0, none⟩ = some (.slice A0_0 l0_0.length c0_0) := (bkC BK156.out 0).trans rfl
    have hfz16_0 := bkF BK156.out 0
    go_wp2_with (first | ((with_reducible refine gate_callee (f := 65) rfl ?_); refine goesL_ (some 12) rfl rfl Try.func65 (by kernel_rfl) rfl #[.agg #[.slice A0_0 l0_0.length c0_0], .int .i64 a1] rfl (by (try simp only [List.map_toArray, List.map_cons, List.map_nil]); first | done | rfl | (simp only [List.length_drop, List.length_take]; rfl)) ?_; (with_reducible refine (impl_Forest_has.calls k _ _ l0_0 a1 true _ ?side1 ?side2 A7.out).mono ?_); (case side1 => repeat (first | exact (Kd.C_below HR0_0.out HB.out) | (with_reducible refine Kd.C_alloc ?_ _) | (with_reducible refine Kd.C_drewN ?_ _) | (with_reducible refine Kd.C_drew ?_))); (case side2 => exact HC0_0.out); rintro e w17 ⟨rfl, hb⟩; refine ⟨_, rfl, ?_⟩; have n0_ := A0_.mk (blk_below (g := gb156) (o := .cells #[.slice A0_0 l0_0.length c0_0] 36 (0, 0)) (by (with_reducible repeat (first | refine bkN ?_ _ | refine bkD ?_ | refine bkA ?_ _)); exact BK156.out) hb); have n1_ := A0_.mk (blk_below (g := gb157) (o := .cells #[.slice none 0 0, .int .i64 0] 64 (0, 0)) (by (with_reducible repeat (first | refine bkN ?_ _ | refine bkD ?_ | refine bkA ?_ _)); exact BK157.out) hb); have n2_ := A0_.mk (below_step (by repeat (first | (with_reducible first | exact HB.out | apply bal | apply pdN | apply bdr | refine bst ?_ GE156.out | refine bst ?_ GE157.out) | exact HB.out)) hb); clear BK156; clear BK157; clear HB; have BK156 := n0_; have BK157 := n1_; have HB := n2_; clear n0_ n1_ n2_; (try clear hb); (try clear hb2); (try clear hk); (try clear hi); have hcz18_0 : w17.cell? ⟨gb156, 0, none⟩ = some (.slice A0_0 l0_0.length c0_0) := (bkC BK156.out 0).trans rfl; have hfz18_0 := bkF BK156.out 0) | (go_at_call 57; (with_reducible refine (impl_Forest_fields.calls k _ _ l0_0 a1 t159 _ ?side1 ?side2 A13.out).mono ?_); (case side1 => repeat (first | exact (Kd.C_below HR0_0.out HB.out) | (with_reducible refine Kd.C_alloc ?_ _) | (with_reducible refine Kd.C_drewN ?_ _) | (with_reducible refine Kd.C_drew ?_))); (case side2 => exact HC0_0.out); rintro e w19 ⟨v160, rfl, ho0, hb⟩; have n0_ := A0_.mk (Kd.R_lower ho0 (below_size (by repeat (first | (with_reducible first | exact HB.out | apply bal | apply pdN | apply bdr | refine bst ?_ GE156.out | refine bst ?_ GE157.out) | exact HB.out)))); have n1_ := A0_.mk (blk_below (g := gb156) (o := .cells #[.slice A0_0 l0_0.length c0_0] 36 (0, 0)) (by (with_reducible repeat (first | refine bkN ?_ _ | refine bkD ?_ | refine bkA ?_ _)); exact BK156.out) hb); have n2_ := A0_.mk (blk_below (g := gb157) (o := .cells #[.slice none 0 0, .int .i64 0] 64 (0, 0)) (by (with_reducible repeat (first | refine bkN ?_ _ | refine bkD ?_ | refine bkA ?_ _)); exact BK157.out) hb); have n3_ := A0_.mk (below_step (by repeat (first | (with_reducible first | exact HB.out | apply bal | apply pdN | apply bdr | refine bst ?_ GE156.out | refine bst ?_ GE157.out) | exact HB.out)) hb); clear BK156; clear BK157; clear HB; have HO161 := n0_; have BK156 := n1_; have BK157 := n2_; have HB := n3_; clear n0_ n1_ n2_ n3_; (try clear hb); (try clear hb2); (try clear hk); (try clear hi); (try clear ho0); obtain ⟨Ao20, co20, eo20⟩ := Kd.R_slice HO161.out; subst eo20) | (go_at_call 72; (with_reducible refine (slices_Contains_string_string.calls k _ _ t159 a2 t162 _ ?side1 ?side2 A14.out).mono ?_); (case side1 => repeat (first | exact (Kd.R_reads' HO161.out).2.2 | (with_reducible refine Kd.C_alloc ?_ _) | (with_reducible refine Kd.C_drewN ?_ _) | (with_reducible refine Kd.C_drew ?_))); (case side2 => exact (Kd.R_reads' HO161.out).2.1); rintro e w' ⟨rfl, ⟨nd, rfl⟩⟩))
    go_meet
    case rel => exact ⟨_, (t162), (by first | rfl | (simp; done) | (simp [*]; done)), H', ⟨by first | omega | exact Nat.le_refl _⟩, ⟨by (with_reducible repeat (first | refine bkN ?_ _ | refine bkD ?_ | refine bkA ?_ _)); exact BK156.out⟩, ⟨by (with_reducible repeat (first | refine bkN ?_ _ | refine bkD ?_ | refine bkA ?_ _)); exact BK157.out⟩, ⟨by repeat (first | (with_reducible first | exact HB.out | apply bal | apply pdN | apply bdr | refine bst ?_ GE156.out | refine bst ?_ GE157.out) | exact HB.out)⟩⟩
  ·replace c8 := Bool.eq_false_iff.mpr c8
   subst c8
   have H1 : (impl_Grow.j0 k a1 a2 true l0_0) = some (r1, r2) := by rw [if_neg (show ¬ (false = true) by decide)] at H; exact H
   clear H
   have H := H1
   clear H1
   have H' := A0_.mk H
   clear H
   have hnb21 := NB156_157.out
   have hnc21 := NB157_156.out
   have hcz22_0 : w6.cell? ⟨gb156, 0, none⟩ = some (.slice A0_0 l0_0.length c0_0) := (bkC BK156.out 0).trans rfl
   have hfz22_0 := bkF BK156.out 0
   go_wp2_with (first | ((with_reducible refine gate_callee (f := 65) rfl ?_); refine goesL_ (some 12) rfl rfl Try.func65 (by kernel_rfl) rfl #[.agg #[.slice A0_0 l0_0.length c0_0], .int .i64 a1] rfl (by (try simp only [List.map_toArray, List.map_cons, List.map_nil]); first | done | rfl | (simp only [List.length_drop, List.length_take]; rfl)) ?_; (with_reducible refine (impl_Forest_has.calls k _ _ l0_0 a1 false _ ?side1 ?side2 A7.out).mono ?_); (case side1 => repeat (first | exact (Kd.C_below HR0_0.out HB.out) | (with_reducible refine Kd.C_alloc ?_ _) | (with_reducible refine Kd.C_drewN ?_ _) | (with_reducible refine Kd.C_drew ?_))); (case side2 => exact HC0_0.out); rintro e w23 ⟨rfl, hb⟩; refine ⟨_, rfl, ?_⟩; have n0_ := A0_.mk (blk_below (g := gb156) (o := .cells #[.slice A0_0 l0_0.length c0_0] 36 (0, 0)) (by (with_reducible repeat (first | refine bkN ?_ _ | refine bkD ?_ | refine bkA ?_ _)); exact BK156.out) hb); have n1_ := A0_.mk (blk_below (g := gb157) (o := .cells #[.slice none 0 0, .int .i64 0] 64 (0, 0)) (by (with_reducible repeat (first | refine bkN ?_ _ | refine bkD ?_ | refine bkA ?_ _)); exact BK157.out) hb); have n2_ := A0_.mk (below_step (by repeat (first | (with_reducible first | exact HB.out | apply bal | apply pdN | apply bdr | refine bst ?_ GE156.out | refine bst ?_ GE157.out) | exact HB.out)) hb); clear BK156; clear BK157; clear HB; have BK156 := n0_; have BK157 := n1_; have HB := n2_; clear n0_ n1_ n2_; (try clear hb); (try clear hb2); (try clear hk); (try clear hi)))
   go_meet
   case rel => exact ⟨_, (true), (by first | rfl | (simp; done) | (simp [*]; done)), H', ⟨by first | omega | exact Nat.le_refl _⟩, ⟨by (with_reducible repeat (first | refine bkN ?_ _ | refine bkD ?_ | refine bkA ?_ _)); exact BK156.out⟩, ⟨by (with_reducible repeat (first | refine bkN ?_ _ | refine bkD ?_ | refine bkA ?_ _)); exact BK157.out⟩, ⟨by repeat (first | (with_reducible first | exact HB.out | apply bal | apply pdN | apply bdr | refine bst ?_ GE156.out | refine bst ?_ GE157.out) | exact HB.out)⟩⟩
 case rest =>
  clear HC4
  try clear c1
  try clear c2
  try clear p2
  try clear c3
  try clear c6
  try clear c8
  try clear c9
  try clear c9b0
  try clear c9b1
  try clear c10
  try clear c15
  try clear c21
  try clear hcz11_0
  try clear hcz16_0
  try clear hcz18_0
  try clear hcz22_0
  try clear hfz11_0
  try clear hfz16_0
  try clear hfz18_0
  try clear hfz22_0
  obtain ⟨kq, x25_3, rfl, HA, HJ3, BK156, BK157, HB⟩ := hcut
  cases kq with
  | zero => exact absurd HA.out (by simp [impl_Grow.j0])
  | succ kj3 =>
   have H := HA.out
   clear HA
   simp only [impl_Grow.j0] at H
   by_cases c24 : x25_3 = true
   ·subst c24
    have H1 : (some (([] : List (S75)), (-1))) = some (r1, r2) := by rw [if_pos rfl] at H; exact H
    clear H
    have H := H1
    clear H1
    simp only [Option.some.injEq, Prod.mk.injEq] at H
    obtain ⟨rfl, rfl⟩ := H
    have hnb25 := NB157_156.out
    have hnc25 := NB156_157.out
    have hcz26_0 : wc.cell? ⟨gb157, 0, none⟩ = some (.slice none 0 0) := (bkC BK157.out 0).trans rfl
    have hcz26_1 : wc.cell? ⟨gb157, 1, none⟩ = some (.int .i64 0) := (bkC BK157.out 1).trans rfl
    have hfz26_0 := bkF BK157.out 0
    have hfz26_1 := bkF BK157.out 1
    go_wp2
    refine bodyPost_ret (results_cell_row rfl _ _ gb157 64 #[.slice none 0 0, .int .i64 (-1)] (0, 0) _ rfl (by (with_reducible repeat (first | refine bkN ?_ _ | refine bkD ?_ | refine bkA ?_ _)); refine blk_put (cs := #[.slice none 0 0, .int .i64 0]) ?_ 1 _ rfl; (with_reducible repeat (first | refine bkN ?_ _ | refine bkD ?_ | refine bkA ?_ _)); refine blk_put (cs := #[.slice none 0 0, .int .i64 0]) ?_ 0 _ rfl; (with_reducible repeat (first | refine bkN ?_ _ | refine bkD ?_ | refine bkA ?_ _)); exact BK157.out) Try.underlying64 rfl (by kernel_rfl)) rfl ?_
    exact ⟨_, by first | rfl | (simp [errW_none, errW_some] <;> rfl) | (simp [*, errW_none, errW_some] <;> rfl), by first | exact Kd.R_nil _ _ _ _ _ | exact Kd.N_nil _ _ _ _ _ | exact Kd.V_nil _ _ _ _ _ | exact Kd.Q_nil _ _ _ _ _ | exact Kd.S_nil _ _ _ _ _, by repeat (first | (with_reducible first | exact HB.out | apply bal | apply pdN | apply bdr | refine bst ?_ GE156.out | refine bst ?_ GE157.out) | exact HB.out)⟩
   ·replace c24 := Bool.eq_false_iff.mpr c24
    subst c24
    have H1 : ((impl_Shape.f l0_0).bind fun t163 => (impl_Grow.l0 kj3 a1 a2 l0_0 (l0_0.length : Int) 0 l0_0 t163 (-1))) = some (r1, r2) := by rw [if_neg (show ¬ (false = true) by decide)] at H; exact H
    clear H
    have H := H1
    clear H1
    replace H := Option.bind_eq_some_iff.mp H
    obtain ⟨t163, A270, H⟩ := H
    replace H : (impl_Grow.l0 kj3 a1 a2 l0_0 (l0_0.length : Int) 0 l0_0 t163 (-1)) = some (r1, r2) := H
    have A27 := A0_.mk A270
    clear A270
    have H' := A0_.mk H
    clear H
    have hnb28 := NB156_157.out
    have hnc28 := NB157_156.out
    have hcz29_0 : wc.cell? ⟨gb156, 0, none⟩ = some (.slice A0_0 l0_0.length c0_0) := (bkC BK156.out 0).trans rfl
    have hfz29_0 := bkF BK156.out 0
    go_wp2_with (first | ((with_reducible refine gate_callee (f := 73) rfl ?_); refine goesL_ (some 29) rfl rfl Try.func73 (by kernel_rfl) rfl #[.slice A0_0 l0_0.length c0_0] rfl (by (try simp only [List.map_toArray, List.map_cons, List.map_nil]); first | done | rfl | (simp only [List.length_drop, List.length_take]; rfl)) ?_; (with_reducible refine (impl_Shape.calls _ _ l0_0 t163 _ ?side1 ?side2 A27.out).mono ?_); (case side1 => repeat (first | exact (Kd.C_below HR0_0.out HB.out) | (with_reducible refine Kd.C_alloc ?_ _) | (with_reducible refine Kd.C_drewN ?_ _) | (with_reducible refine Kd.C_drew ?_))); (case side2 => exact HC0_0.out); rintro e w30 ⟨v164, rfl, ho0, hb⟩; refine ⟨_, rfl, ?_⟩; have n0_ := A0_.mk (Kd.R_lower ho0 (below_size (by repeat (first | (with_reducible first | exact HB.out | apply bal | apply pdN | apply bdr | refine bst ?_ GE156.out | refine bst ?_ GE157.out) | exact HB.out)))); have n1_ := A0_.mk (blk_below (g := gb156) (o := .cells #[.slice A0_0 l0_0.length c0_0] 36 (0, 0)) (by (with_reducible repeat (first | refine bkN ?_ _ | refine bkD ?_ | refine bkA ?_ _)); exact BK156.out) hb); have n2_ := A0_.mk (blk_below (g := gb157) (o := .cells #[.slice none 0 0, .int .i64 0] 64 (0, 0)) (by (with_reducible repeat (first | refine bkN ?_ _ | refine bkD ?_ | refine bkA ?_ _)); exact BK157.out) hb); have n3_ := A0_.mk (below_step (by repeat (first | (with_reducible first | exact HB.out | apply bal | apply pdN | apply bdr | refine bst ?_ GE156.out | refine bst ?_ GE157.out) | exact HB.out)) hb); clear BK156; clear BK157; clear HB; have HO165 := n0_; have BK156 := n1_; have BK157 := n2_; have HB := n3_; clear n0_ n1_ n2_ n3_; (try clear hb); (try clear hb2); (try clear hk); (try clear hi); (try clear ho0); obtain ⟨Ao31, co31, eo31⟩ := Kd.R_slice HO165.out; subst eo31) | ((with_reducible refine gate_dst (N := 7) rfl ?_); (try (refine gate_guard (by rfl) ?_; dsimp only)); refine box_event ?hg (N := 7) ?hd (cs := #[.slice none 0 0, .int .i64 0]) (t := 64) ?hr ?_; (case hd => rfl); (case hg => rfl); (case hr => first | (go_simp; done) | (go_simp; rfl)); intro gb166 hg w32 hbox hb; have n0_ := A0_.mk (Kd.R_below (by (with_reducible repeat (first | apply Kd.R_alloc | apply Kd.R_drewN | apply Kd.R_drew)); exact HO165.out) hb); have n1_ := A0_.mk (blk_below (g := gb156) (o := .cells #[.slice A0_0 l0_0.length c0_0] 36 (0, 0)) (by (with_reducible repeat (first | refine bkN ?_ _ | refine bkD ?_ | refine bkA ?_ _)); exact BK156.out) hb); have n2_ := A0_.mk (blk_below (g := gb157) (o := .cells #[.slice none 0 0, .int .i64 0] 64 (0, 0)) (by (with_reducible repeat (first | refine bkN ?_ _ | refine bkD ?_ | refine bkA ?_ _)); exact BK157.out) hb); have n3_ := A0_.mk (below_step (by repeat (first | (with_reducible first | exact HB.out | apply bal | apply pdN | apply bdr | refine bst ?_ GE156.out | refine bst ?_ GE157.out) | exact HB.out)) hb); have n4_ := A0_.mk (hbox); have n5_ := A0_.mk ((by rw [hg]; exact (below_size (by repeat (first | (with_reducible first | exact HB.out | apply bal | apply pdN | apply bdr | refine bst ?_ GE156.out | refine bst ?_ GE157.out) | exact HB.out))) : w.heap.size ≤ gb166)); have n6_ := A0_.mk ((by rw [hg]; exact (below_size (by repeat (first | (with_reducible first | exact HB.out | apply bal | apply pdN | apply bdr | refine bst ?_ GE156.out | refine bst ?_ GE157.out) | exact HB.out))) : w.heap.size ≤ gb166)); have n7_ := A0_.mk ((by rw [hg]; exact Nat.ne_of_lt (blk_lt (g := gb156) (o := .cells #[.slice A0_0 l0_0.length c0_0] 36 (0, 0)) (by (with_reducible repeat (first | refine bkN ?_ _ | refine bkD ?_ | refine bkA ?_ _)); exact BK156.out)) : gb156 ≠ gb166)); have n8_ := A0_.mk ((by rw [hg]; exact Nat.ne_of_gt (blk_lt (g := gb156) (o := .cells #[.slice A0_0 l0_0.length c0_0] 36 (0, 0)) (by (with_reducible repeat (first | refine bkN ?_ _ | refine bkD ?_ | refine bkA ?_ _)); exact BK156.out)) : gb166 ≠ gb156)); have n9_ := A0_.mk ((by rw [hg]; exact Nat.ne_of_lt (blk_lt (g := gb157) (o := .cells #[.slice none 0 0, .int .i64 0] 64 (0, 0)) (by (with_reducible repeat (first | refine bkN ?_ _ | refine bkD ?_ | refine bkA ?_ _)); exact BK157.out)) : gb157 ≠ gb166)); have n10_ := A0_.mk ((by rw [hg]; exact Nat.ne_of_gt (blk_lt (g := gb157) (o := .cells #[.slice none 0 0, .int .i64 0] 64 (0, 0)) (by (with_reducible repeat (first | refine bkN ?_ _ | refine bkD ?_ | refine bkA ?_ _)); exact BK157.out)) : gb166 ≠ gb157)); clear HO165; clear BK156; clear BK157; clear HB; have HO165 := n0_; have BK156 := n1_; have BK157 := n2_; have HB := n3_; have BK166 := n4_; have GW166 := n5_; have GE166 := n6_; have NB156_166 := n7_; have NB166_156 := n8_; have NB157_166 := n9_; have NB166_157 := n10_; clear n0_ n1_ n2_ n3_ n4_ n5_ n6_ n7_ n8_ n9_ n10_; clear hb hbox hg; have hnb33 := NB166_156.out; have hnc33 := NB156_166.out; have hnb34 := NB166_157.out; have hnc34 := NB157_166.out; have hcz35_0 : w32.cell? ⟨gb166, 0, none⟩ = some (.slice none 0 0) := (bkC BK166.out 0).trans rfl; have hcz35_1 : w32.cell? ⟨gb166, 1, none⟩ = some (.int .i64 0) := (bkC BK166.out 1).trans rfl; have hfz35_0 := bkF BK166.out 0; have hfz35_1 := bkF BK166.out 1; have hcz36_0 : w32.cell? ⟨gb156, 0, none⟩ = some (.slice A0_0 l0_0.length c0_0) := (bkC BK156.out 0).trans rfl; have hfz36_0 := bkF BK156.out 0))
    go_loopg [35] kj3 (fun kq v35 w' => ∃ (x35_2 : Int) (x158001_2 : Int) (x167001_2 : Int), v35 = .int .i64 x35_2 ∧ A0_ (impl_Grow.l0 kq a1 a2 l0_0 (l0_0.length : Int) x35_2 l0_0 t163 x167001_2 = some (r1, r2)) ∧ A0_ (kq ≤ kj3) ∧ A0_ (Kd.R k75 75 w' w.heap.size (fun _ => True) (.slice Ao31 t163.length co31) t163) ∧ A0_ (w'.heap[gb156]? = some (.cells #[(.slice A0_0 l0_0.length c0_0)] 36 (0, 0))) ∧ A0_ (w'.heap[gb157]? = some (.cells #[(.slice none 0 0), .int .i64 x158001_2] 64 (0, 0))) ∧ A0_ (w'.heap[gb166]? = some (.cells #[(.slice Ao31 t163.length co31), .int .i64 x167001_2] 64 (0, 0))) ∧ A0_ (Below w.heap.size w w'))
    case atStart => exact ⟨(0), (0), ((-1)), (by first | rfl | (simp; done) | (simp [*]; done)), H', ⟨Nat.le_refl _⟩, ⟨by (with_reducible repeat (first | apply Kd.R_alloc | apply Kd.R_drewN | apply Kd.R_drew)); exact Kd.R_mono (Kd.R_far (p := ⟨gb166, 1, none⟩) (Kd.R_far (p := ⟨gb166, 0, none⟩) (Kd.R_types HO165.out BK166.out (by decide)) (fun _ hk => hk.2) (.slice Ao31 t163.length co31)) (fun _ hk => hk.2) (.int .i64 (-1))) (fun _ hk => trivial)⟩, ⟨by (with_reducible repeat (first | refine bkN ?_ _ | refine bkD ?_ | refine bkA ?_ _)); refine blk_far ?_ NB156_166.out _; (with_reducible repeat (first | refine bkN ?_ _ | refine bkD ?_ | refine bkA ?_ _)); refine blk_far ?_ NB156_166.out _; (with_reducible repeat (first | refine bkN ?_ _ | refine bkD ?_ | refine bkA ?_ _)); exact BK156.out⟩, ⟨by (with_reducible repeat (first | refine bkN ?_ _ | refine bkD ?_ | refine bkA ?_ _)); refine blk_far ?_ NB157_166.out _; (with_reducible repeat (first | refine bkN ?_ _ | refine bkD ?_ | refine bkA ?_ _)); refine blk_far ?_ NB157_166.out _; (with_reducible repeat (first | refine bkN ?_ _ | refine bkD ?_ | refine bkA ?_ _)); exact BK157.out⟩, ⟨by (with_reducible repeat (first | refine bkN ?_ _ | refine bkD ?_ | refine bkA ?_ _)); refine blk_put (cs := #[.slice Ao31 t163.length co31, .int .i64 0]) ?_ 1 _ rfl; (with_reducible repeat (first | refine bkN ?_ _ | refine bkD ?_ | refine bkA ?_ _)); refine blk_put (cs := #[.slice none 0 0, .int .i64 0]) ?_ 0 _ rfl; (with_reducible repeat (first | refine bkN ?_ _ | refine bkD ?_ | refine bkA ?_ _)); exact BK166.out⟩, ⟨by repeat (first | (with_reducible first | exact HB.out | apply bal | apply pdN | apply bdr | refine bst ?_ GE156.out | refine bst ?_ GE157.out | refine bst ?_ GE166.out) | exact HB.out)⟩⟩
    case round =>
     clear H'
     try clear c1
     try clear c2
     try clear p2
     try clear c3
     try clear c6
     try clear c7
     try clear c8
     try clear c9
     try clear c9b0
     try clear c9b1
     try clear c10
     try clear c15
     try clear c21
     try clear c24
     try clear c25
     try clear c28
     try clear c33
     try clear c34
     try clear c35
     try clear hcz11_0
     try clear hcz16_0
     try clear hcz18_0
     try clear hcz22_0
     try clear hcz26_0
     try clear hcz26_1
     try clear hcz29_0
     try clear hcz35_0
     try clear hcz35_1
     try clear hcz36_0
     try clear hfz11_0
     try clear hfz16_0
     try clear hfz18_0
     try clear hfz22_0
     try clear hfz26_0
     try clear hfz26_1
     try clear hfz29_0
     try clear hfz35_0
     try clear hfz35_1
     try clear hfz36_0
     try clear p2
     obtain ⟨x35_2, x158001_2, x167001_2, rfl, HA, HK2, HO_167000, BK156, BK157, BK166, HB⟩ := hrel
     cases gk with
     | zero => exact absurd HA.out (by simp [impl_Grow.l0])
     | succ k2 =>
      have H := HA.out
      clear HA
      simp only [impl_Grow.l0] at H
      by_cases c37 : x35_2 < (l0_0.length : Int)
      ·rw [if_pos c37] at H
       have c37b0 : decide (x35_2 < (l0_0.length : Int)) = true := decide_eq_true c37
       clear c37
       by_cases c38 : 0 ≤ x35_2
       ·rw [if_pos c38] at H
        have c38b0 : decide (0 ≤ x35_2) = true := decide_eq_true c38
        clear c38
        by_cases c39 : x35_2 < (l0_0.length : Int)
        ·rw [if_pos c39] at H
         have c39b0 : decide (x35_2 < (l0_0.length : Int)) = true := decide_eq_true c39
         clear c39
         by_cases c40 : x35_2 > 0
         ·rw [if_pos c40] at H
          have c40b0 : decide (0 < x35_2) = true := decide_eq_true c40
          clear c40
          by_cases c41 : ((rd_T75 l0_0 x35_2).f0) = a1
          ·rw [if_pos c41] at H
           have c41b0 : (((rd_T75 l0_0 x35_2).f0) == a1) = true := beq_iff_eq.mpr c41
           have c41b1 : (((rd_T75 l0_0 x35_2).f0) != a1) = false := bne_eq_false_iff_eq.mpr c41
           clear c41
           by_cases c42 : ((rd_T75 l0_0 x35_2).f1).toList = a2.toList
           ·rw [if_pos c42] at H
            have c42b0 : (((rd_T75 l0_0 x35_2).f1).toList == a2.toList) = true := beq_iff_eq.mpr c42
            have c42b1 : (((rd_T75 l0_0 x35_2).f1).toList != a2.toList) = false := bne_eq_false_iff_eq.mpr c42
            clear c42
            simp only [Option.some.injEq, Prod.mk.injEq] at H
            obtain ⟨rfl, rfl⟩ := H
            have p167 : 0 ≤ (x35_2 : Int) := of_decide_eq_true (by first | (with_reducible assumption) | assumption)
            have q167 : x35_2 < (l0_0.length : Int) := of_decide_eq_true (by first | (with_reducible assumption) | assumption)
            obtain ⟨ad167, e167, hx167_0, hx167_1, hx167_2⟩ := at_T75 HR0_0.out x35_2 p167 q167
            cases e167
            replace hx167_0 := (HB.out.cell (World.block_lt_of_cell? w _ hx167_0)).trans hx167_0
            replace hx167_1 := (HB.out.cell (World.block_lt_of_cell? w _ hx167_1)).trans hx167_1
            replace hx167_2 := (HB.out.cell (World.block_lt_of_cell? w _ hx167_2)).trans hx167_2
            replace p167 := eq_true p167
            replace q167 := eq_true q167
            go_wp2_with (first | ((with_reducible refine gate_dst (N := 9) rfl ?_); (try (refine gate_guard (by rfl) ?_; dsimp only)); refine box_event ?hg (N := 9) ?hd (cs := #[.int .i64 0, .string (⟨#[]⟩ : ByteArray), .int .i64 0]) (t := 75) ?hr ?_; (case hd => rfl); (case hg => rfl); (case hr => first | (go_simp; done) | (go_simp; rfl)); intro gb168 hg w43 hbox hb; have n0_ := A0_.mk (Kd.R_below (Kd.R_elderB (by (with_reducible repeat (first | apply Kd.R_alloc | apply Kd.R_drewN | apply Kd.R_drew)); exact HO_167000.out) gb168 (Nat.le_of_eq hg.symm)) hb); have n1_ := A0_.mk (blk_below (g := gb156) (o := .cells #[.slice (some ad167) l0_0.length c0_0] 36 (0, 0)) (by (with_reducible repeat (first | refine bkN ?_ _ | refine bkD ?_ | refine bkA ?_ _)); exact BK156.out) hb); have n2_ := A0_.mk (blk_below (g := gb157) (o := .cells #[.slice none 0 0, .int .i64 x158001_2] 64 (0, 0)) (by (with_reducible repeat (first | refine bkN ?_ _ | refine bkD ?_ | refine bkA ?_ _)); exact BK157.out) hb); have n3_ := A0_.mk (blk_below (g := gb166) (o := .cells #[.slice Ao31 t163.length co31, .int .i64 x167001_2] 64 (0, 0)) (by (with_reducible repeat (first | refine bkN ?_ _ | refine bkD ?_ | refine bkA ?_ _)); exact BK166.out) hb); have n4_ := A0_.mk (below_step (by repeat (first | (with_reducible first | exact HB.out | apply bal | apply pdN | apply bdr | refine bst ?_ GE156.out | refine bst ?_ GE157.out | refine bst ?_ GE166.out) | exact HB.out)) hb); have n5_ := A0_.mk (hbox); have n6_ := A0_.mk ((by rw [hg]; exact (below_size (by repeat (first | (with_reducible first | exact HB.out | apply bal | apply pdN | apply bdr | refine bst ?_ GE156.out | refine bst ?_ GE157.out | refine bst ?_ GE166.out) | exact HB.out))) : w.heap.size ≤ gb168)); have n7_ := A0_.mk ((by rw [hg]; exact (below_size (by repeat (first | (with_reducible first | exact HB.out | apply bal | apply pdN | apply bdr | refine bst ?_ GE156.out | refine bst ?_ GE157.out | refine bst ?_ GE166.out) | exact HB.out))) : w.heap.size ≤ gb168)); have n8_ := A0_.mk ((by rw [hg]; exact Nat.ne_of_lt (blk_lt (g := gb156) (o := .cells #[.slice (some ad167) l0_0.length c0_0] 36 (0, 0)) (by (with_reducible repeat (first | refine bkN ?_ _ | refine bkD ?_ | refine bkA ?_ _)); exact BK156.out)) : gb156 ≠ gb168)); have n9_ := A0_.mk ((by rw [hg]; exact Nat.ne_of_gt (blk_lt (g := gb156) (o := .cells #[.slice (some ad167) l0_0.length c0_0] 36 (0, 0)) (by (with_reducible repeat (first | refine bkN ?_ _ | refine bkD ?_ | refine bkA ?_ _)); exact BK156.out)) : gb168 ≠ gb156)); have n10_ := A0_.mk ((by rw [hg]; exact Nat.ne_of_lt (blk_lt (g := gb157) (o := .cells #[.slice none 0 0, .int .i64 x158001_2] 64 (0, 0)) (by (with_reducible repeat (first | refine bkN ?_ _ | refine bkD ?_ | refine bkA ?_ _)); exact BK157.out)) : gb157 ≠ gb168)); have n11_ := A0_.mk ((by rw [hg]; exact Nat.ne_of_gt (blk_lt (g := gb157) (o := .cells #[.slice none 0 0, .int .i64 x158001_2] 64 (0, 0)) (by (with_reducible repeat (first | refine bkN ?_ _ | refine bkD ?_ | refine bkA ?_ _)); exact BK157.out)) : gb168 ≠ gb157)); have n12_ := A0_.mk ((by rw [hg]; exact Nat.ne_of_lt (blk_lt (g := gb166) (o := .cells #[.slice Ao31 t163.length co31, .int .i64 x167001_2] 64 (0, 0)) (by (with_reducible repeat (first | refine bkN ?_ _ | refine bkD ?_ | refine bkA ?_ _)); exact BK166.out)) : gb166 ≠ gb168)); have n13_ := A0_.mk ((by rw [hg]; exact Nat.ne_of_gt (blk_lt (g := gb166) (o := .cells #[.slice Ao31 t163.length co31, .int .i64 x167001_2] 64 (0, 0)) (by (with_reducible repeat (first | refine bkN ?_ _ | refine bkD ?_ | refine bkA ?_ _)); exact BK166.out)) : gb168 ≠ gb166)); clear HO_167000; clear BK156; clear BK157; clear BK166; clear HB; have HO_167000 := n0_; have BK156 := n1_; have BK157 := n2_; have BK166 := n3_; have HB := n4_; have BK168 := n5_; have GW168 := n6_; have GE168 := n7_; have NB156_168 := n8_; have NB168_156 := n9_; have NB157_168 := n10_; have NB168_157 := n11_; have NB166_168 := n12_; have NB168_166 := n13_; clear n0_ n1_ n2_ n3_ n4_ n5_ n6_ n7_ n8_ n9_ n10_ n11_ n12_ n13_; clear hb hbox hg; have hnb44 := NB168_156.out; have hnc44 := NB156_168.out; have hnb45 := NB168_157.out; have hnc45 := NB157_168.out; have hnb46 := NB168_166.out; have hnc46 := NB166_168.out; have hcz47_0 : w43.cell? ⟨gb168, 0, none⟩ = some (.int .i64 0) := (bkC BK168.out 0).trans rfl; have hcz47_1 : w43.cell? ⟨gb168, 1, none⟩ = some (.string (⟨#[]⟩ : ByteArray)) := (bkC BK168.out 1).trans rfl; have hcz47_2 : w43.cell? ⟨gb168, 2, none⟩ = some (.int .i64 0) := (bkC BK168.out 2).trans rfl; have hfz47_0 := bkF BK168.out 0; have hfz47_1 := bkF BK168.out 1; have hfz47_2 := bkF BK168.out 2; have hnb48 := NB166_156.out; have hnc48 := NB156_166.out; have hnb49 := NB166_157.out; have hnc49 := NB157_166.out; have hcz50_0 : w43.cell? ⟨gb166, 0, none⟩ = some (.slice Ao31 t163.length co31) := (bkC BK166.out 0).trans rfl; have hcz50_1 : w43.cell? ⟨gb166, 1, none⟩ = some (.int .i64 x167001_2) := (bkC BK166.out 1).trans rfl; have hfz50_0 := bkF BK166.out 0; have hfz50_1 := bkF BK166.out 1; have hnb51 := NB157_156.out; have hnc51 := NB156_157.out; have hcz52_0 : w43.cell? ⟨gb157, 0, none⟩ = some (.slice none 0 0) := (bkC BK157.out 0).trans rfl; have hcz52_1 : w43.cell? ⟨gb157, 1, none⟩ = some (.int .i64 x158001_2) := (bkC BK157.out 1).trans rfl; have hfz52_0 := bkF BK157.out 0; have hfz52_1 := bkF BK157.out 1))
            refine bodyPost_ret (results_cell_row rfl _ _ gb157 64 #[.slice Ao31 t163.length co31, .int .i64 x35_2] (0, 0) _ rfl (by (with_reducible repeat (first | refine bkN ?_ _ | refine bkD ?_ | refine bkA ?_ _)); refine blk_put (cs := #[.slice Ao31 t163.length co31, .int .i64 x158001_2]) ?_ 1 _ rfl; (with_reducible repeat (first | refine bkN ?_ _ | refine bkD ?_ | refine bkA ?_ _)); refine blk_put (cs := #[.slice none 0 0, .int .i64 x158001_2]) ?_ 0 _ rfl; (with_reducible repeat (first | refine bkN ?_ _ | refine bkD ?_ | refine bkA ?_ _)); refine blk_far ?_ NB157_166.out _; (with_reducible repeat (first | refine bkN ?_ _ | refine bkD ?_ | refine bkA ?_ _)); refine blk_far ?_ NB157_168.out _; (with_reducible repeat (first | refine bkN ?_ _ | refine bkD ?_ | refine bkA ?_ _)); refine blk_far ?_ NB157_168.out _; (with_reducible repeat (first | refine bkN ?_ _ | refine bkD ?_ | refine bkA ?_ _)); refine blk_far ?_ NB157_168.out _; (with_reducible repeat (first | refine bkN ?_ _ | refine bkD ?_ | refine bkA ?_ _)); exact BK157.out) Try.underlying64 rfl (by kernel_rfl)) rfl ?_
            exact ⟨_, by first | rfl | (simp [errW_none, errW_some] <;> rfl) | (simp [*, errW_none, errW_some] <;> rfl), by (with_reducible repeat (first | apply Kd.R_alloc | apply Kd.R_drewN | apply Kd.R_drew)); exact Kd.R_mono (Kd.R_far (p := ⟨gb157, 1, none⟩) (Kd.R_far (p := ⟨gb157, 0, none⟩) (Kd.R_far (p := ⟨gb166, 1, none⟩) (Kd.R_far (p := ⟨gb168, 2, none⟩) (Kd.R_far (p := ⟨gb168, 1, none⟩) (Kd.R_far (p := ⟨gb168, 0, none⟩) (Kd.R_types (Kd.R_types (Kd.R_mono HO_167000.out (fun k_ hk => (⟨hk, hk.2⟩ : _ ∧ k_ ≠ gb168))) BK166.out (by decide)) BK157.out (by decide)) (fun _ hk => hk.1.1.2) (.int .i64 ((rd_T75 l0_0 x35_2).f0))) (fun _ hk => hk.1.1.2) (.string ((rd_T75 l0_0 x35_2).f1))) (fun _ hk => hk.1.1.2) (.int .i64 ((rd_T75 l0_0 x35_2).f2))) (fun _ hk => hk.1.2) (.int .i64 x35_2)) (fun _ hk => hk.2) (.slice Ao31 t163.length co31)) (fun _ hk => hk.2) (.int .i64 x35_2)) (fun _ hk => trivial), by repeat (first | (with_reducible first | exact HB.out | apply bal | apply pdN | apply bdr | refine bst ?_ GE156.out | refine bst ?_ GE157.out | refine bst ?_ GE166.out | refine bst ?_ GE168.out) | exact HB.out)⟩
           ·rw [if_neg c42] at H
            have c42b0 : (((rd_T75 l0_0 x35_2).f1).toList == a2.toList) = false := beq_eq_false_iff_ne.mpr c42
            have c42b1 : (((rd_T75 l0_0 x35_2).f1).toList != a2.toList) = true := bne_iff_ne.mpr c42
            have H' := A0_.mk H
            clear H
            have p167 : 0 ≤ (x35_2 : Int) := of_decide_eq_true (by first | (with_reducible assumption) | assumption)
            have q167 : x35_2 < (l0_0.length : Int) := of_decide_eq_true (by first | (with_reducible assumption) | assumption)
            obtain ⟨ad167, e167, hx167_0, hx167_1, hx167_2⟩ := at_T75 HR0_0.out x35_2 p167 q167
            cases e167
            replace hx167_0 := (HB.out.cell (World.block_lt_of_cell? w _ hx167_0)).trans hx167_0
            replace hx167_1 := (HB.out.cell (World.block_lt_of_cell? w _ hx167_1)).trans hx167_1
            replace hx167_2 := (HB.out.cell (World.block_lt_of_cell? w _ hx167_2)).trans hx167_2
            replace p167 := eq_true p167
            replace q167 := eq_true q167
            go_wp2_with (first | ((with_reducible refine gate_dst (N := 9) rfl ?_); (try (refine gate_guard (by rfl) ?_; dsimp only)); refine box_event ?hg (N := 9) ?hd (cs := #[.int .i64 0, .string (⟨#[]⟩ : ByteArray), .int .i64 0]) (t := 75) ?hr ?_; (case hd => rfl); (case hg => rfl); (case hr => first | (go_simp; done) | (go_simp; rfl)); intro gb168 hg w53 hbox hb; have n0_ := A0_.mk (Kd.R_below (Kd.R_elderB (by (with_reducible repeat (first | apply Kd.R_alloc | apply Kd.R_drewN | apply Kd.R_drew)); exact HO_167000.out) gb168 (Nat.le_of_eq hg.symm)) hb); have n1_ := A0_.mk (blk_below (g := gb156) (o := .cells #[.slice (some ad167) l0_0.length c0_0] 36 (0, 0)) (by (with_reducible repeat (first | refine bkN ?_ _ | refine bkD ?_ | refine bkA ?_ _)); exact BK156.out) hb); have n2_ := A0_.mk (blk_below (g := gb157) (o := .cells #[.slice none 0 0, .int .i64 x158001_2] 64 (0, 0)) (by (with_reducible repeat (first | refine bkN ?_ _ | refine bkD ?_ | refine bkA ?_ _)); exact BK157.out) hb); have n3_ := A0_.mk (blk_below (g := gb166) (o := .cells #[.slice Ao31 t163.length co31, .int .i64 x167001_2] 64 (0, 0)) (by (with_reducible repeat (first | refine bkN ?_ _ | refine bkD ?_ | refine bkA ?_ _)); exact BK166.out) hb); have n4_ := A0_.mk (below_step (by repeat (first | (with_reducible first | exact HB.out | apply bal | apply pdN | apply bdr | refine bst ?_ GE156.out | refine bst ?_ GE157.out | refine bst ?_ GE166.out) | exact HB.out)) hb); have n5_ := A0_.mk (hbox); have n6_ := A0_.mk ((by rw [hg]; exact (below_size (by repeat (first | (with_reducible first | exact HB.out | apply bal | apply pdN | apply bdr | refine bst ?_ GE156.out | refine bst ?_ GE157.out | refine bst ?_ GE166.out) | exact HB.out))) : w.heap.size ≤ gb168)); have n7_ := A0_.mk ((by rw [hg]; exact (below_size (by repeat (first | (with_reducible first | exact HB.out | apply bal | apply pdN | apply bdr | refine bst ?_ GE156.out | refine bst ?_ GE157.out | refine bst ?_ GE166.out) | exact HB.out))) : w.heap.size ≤ gb168)); have n8_ := A0_.mk ((by rw [hg]; exact Nat.ne_of_lt (blk_lt (g := gb156) (o := .cells #[.slice (some ad167) l0_0.length c0_0] 36 (0, 0)) (by (with_reducible repeat (first | refine bkN ?_ _ | refine bkD ?_ | refine bkA ?_ _)); exact BK156.out)) : gb156 ≠ gb168)); have n9_ := A0_.mk ((by rw [hg]; exact Nat.ne_of_gt (blk_lt (g := gb156) (o := .cells #[.slice (some ad167) l0_0.length c0_0] 36 (0, 0)) (by (with_reducible repeat (first | refine bkN ?_ _ | refine bkD ?_ | refine bkA ?_ _)); exact BK156.out)) : gb168 ≠ gb156)); have n10_ := A0_.mk ((by rw [hg]; exact Nat.ne_of_lt (blk_lt (g := gb157) (o := .cells #[.slice none 0 0, .int .i64 x158001_2] 64 (0, 0)) (by (with_reducible repeat (first | refine bkN ?_ _ | refine bkD ?_ | refine bkA ?_ _)); exact BK157.out)) : gb157 ≠ gb168)); have n11_ := A0_.mk ((by rw [hg]; exact Nat.ne_of_gt (blk_lt (g := gb157) (o := .cells #[.slice none 0 0, .int .i64 x158001_2] 64 (0, 0)) (by (with_reducible repeat (first | refine bkN ?_ _ | refine bkD ?_ | refine bkA ?_ _)); exact BK157.out)) : gb168 ≠ gb157)); have n12_ := A0_.mk ((by rw [hg]; exact Nat.ne_of_lt (blk_lt (g := gb166) (o := .cells #[.slice Ao31 t163.length co31, .int .i64 x167001_2] 64 (0, 0)) (by (with_reducible repeat (first | refine bkN ?_ _ | refine bkD ?_ | refine bkA ?_ _)); exact BK166.out)) : gb166 ≠ gb168)); have n13_ := A0_.mk ((by rw [hg]; exact Nat.ne_of_gt (blk_lt (g := gb166) (o := .cells #[.slice Ao31 t163.length co31, .int .i64 x167001_2] 64 (0, 0)) (by (with_reducible repeat (first | refine bkN ?_ _ | refine bkD ?_ | refine bkA ?_ _)); exact BK166.out)) : gb168 ≠ gb166)); clear HO_167000; clear BK156; clear BK157; clear BK166; clear HB; have HO_167000 := n0_; have BK156 := n1_; have BK157 := n2_; have BK166 := n3_; have HB := n4_; have BK168 := n5_; have GW168 := n6_; have GE168 := n7_; have NB156_168 := n8_; have NB168_156 := n9_; have NB157_168 := n10_; have NB168_157 := n11_; have NB166_168 := n12_; have NB168_166 := n13_; clear n0_ n1_ n2_ n3_ n4_ n5_ n6_ n7_ n8_ n9_ n10_ n11_ n12_ n13_; clear hb hbox hg; have hnb54 := NB168_156.out; have hnc54 := NB156_168.out; have hnb55 := NB168_157.out; have hnc55 := NB157_168.out; have hnb56 := NB168_166.out; have hnc56 := NB166_168.out; have hcz57_0 : w53.cell? ⟨gb168, 0, none⟩ = some (.int .i64 0) := (bkC BK168.out 0).trans rfl; have hcz57_1 : w53.cell? ⟨gb168, 1, none⟩ = some (.string (⟨#[]⟩ : ByteArray)) := (bkC BK168.out 1).trans rfl; have hcz57_2 : w53.cell? ⟨gb168, 2, none⟩ = some (.int .i64 0) := (bkC BK168.out 2).trans rfl; have hfz57_0 := bkF BK168.out 0; have hfz57_1 := bkF BK168.out 1; have hfz57_2 := bkF BK168.out 2))
            go_roundg k2
            case measure => have := HJ3.out; have := HK2.out; omega
            case rel => exact ⟨(wrap64 (x35_2 + 1)), (x158001_2), (x167001_2), (by first | rfl | (simp; done) | (simp [*]; done)), H', ⟨by have := HJ3.out; have := HK2.out; omega⟩, ⟨by (with_reducible repeat (first | apply Kd.R_alloc | apply Kd.R_drewN | apply Kd.R_drew)); exact Kd.R_mono (Kd.R_far (p := ⟨gb168, 2, none⟩) (Kd.R_far (p := ⟨gb168, 1, none⟩) (Kd.R_far (p := ⟨gb168, 0, none⟩) (Kd.R_mono HO_167000.out (fun k_ hk => (⟨hk, hk.2⟩ : _ ∧ k_ ≠ gb168))) (fun _ hk => hk.2) (.int .i64 ((rd_T75 l0_0 x35_2).f0))) (fun _ hk => hk.2) (.string ((rd_T75 l0_0 x35_2).f1))) (fun _ hk => hk.2) (.int .i64 ((rd_T75 l0_0 x35_2).f2))) (fun _ hk => trivial)⟩, ⟨by (with_reducible repeat (first | refine bkN ?_ _ | refine bkD ?_ | refine bkA ?_ _)); refine blk_far ?_ NB156_168.out _; (with_reducible repeat (first | refine bkN ?_ _ | refine bkD ?_ | refine bkA ?_ _)); refine blk_far ?_ NB156_168.out _; (with_reducible repeat (first | refine bkN ?_ _ | refine bkD ?_ | refine bkA ?_ _)); refine blk_far ?_ NB156_168.out _; (with_reducible repeat (first | refine bkN ?_ _ | refine bkD ?_ | refine bkA ?_ _)); exact BK156.out⟩, ⟨by (with_reducible repeat (first | refine bkN ?_ _ | refine bkD ?_ | refine bkA ?_ _)); refine blk_far ?_ NB157_168.out _; (with_reducible repeat (first | refine bkN ?_ _ | refine bkD ?_ | refine bkA ?_ _)); refine blk_far ?_ NB157_168.out _; (with_reducible repeat (first | refine bkN ?_ _ | refine bkD ?_ | refine bkA ?_ _)); refine blk_far ?_ NB157_168.out _; (with_reducible repeat (first | refine bkN ?_ _ | refine bkD ?_ | refine bkA ?_ _)); exact BK157.out⟩, ⟨by (with_reducible repeat (first | refine bkN ?_ _ | refine bkD ?_ | refine bkA ?_ _)); refine blk_far ?_ NB166_168.out _; (with_reducible repeat (first | refine bkN ?_ _ | refine bkD ?_ | refine bkA ?_ _)); refine blk_far ?_ NB166_168.out _; (with_reducible repeat (first | refine bkN ?_ _ | refine bkD ?_ | refine bkA ?_ _)); refine blk_far ?_ NB166_168.out _; (with_reducible repeat (first | refine bkN ?_ _ | refine bkD ?_ | refine bkA ?_ _)); exact BK166.out⟩, ⟨by repeat (first | (with_reducible first | exact HB.out | apply bal | apply pdN | apply bdr | refine bst ?_ GE156.out | refine bst ?_ GE157.out | refine bst ?_ GE166.out | refine bst ?_ GE168.out) | exact HB.out)⟩⟩
          ·rw [if_neg c41] at H
           have c41b0 : (((rd_T75 l0_0 x35_2).f0) == a1) = false := beq_eq_false_iff_ne.mpr c41
           have c41b1 : (((rd_T75 l0_0 x35_2).f0) != a1) = true := bne_iff_ne.mpr c41
           have H' := A0_.mk H
           clear H
           have p167 : 0 ≤ (x35_2 : Int) := of_decide_eq_true (by first | (with_reducible assumption) | assumption)
           have q167 : x35_2 < (l0_0.length : Int) := of_decide_eq_true (by first | (with_reducible assumption) | assumption)
           obtain ⟨ad167, e167, hx167_0, hx167_1, hx167_2⟩ := at_T75 HR0_0.out x35_2 p167 q167
           cases e167
           replace hx167_0 := (HB.out.cell (World.block_lt_of_cell? w _ hx167_0)).trans hx167_0
           replace hx167_1 := (HB.out.cell (World.block_lt_of_cell? w _ hx167_1)).trans hx167_1
           replace hx167_2 := (HB.out.cell (World.block_lt_of_cell? w _ hx167_2)).trans hx167_2
           replace p167 := eq_true p167
           replace q167 := eq_true q167
           go_wp2_with (first | ((with_reducible refine gate_dst (N := 9) rfl ?_); (try (refine gate_guard (by rfl) ?_; dsimp only)); refine box_event ?hg (N := 9) ?hd (cs := #[.int .i64 0, .string (⟨#[]⟩ : ByteArray), .int .i64 0]) (t := 75) ?hr ?_; (case hd => rfl); (case hg => rfl); (case hr => first | (go_simp; done) | (go_simp; rfl)); intro gb168 hg w58 hbox hb; have n0_ := A0_.mk (Kd.R_below (Kd.R_elderB (by (with_reducible repeat (first | apply Kd.R_alloc | apply Kd.R_drewN | apply Kd.R_drew)); exact HO_167000.out) gb168 (Nat.le_of_eq hg.symm)) hb); have n1_ := A0_.mk (blk_below (g := gb156) (o := .cells #[.slice (some ad167) l0_0.length c0_0] 36 (0, 0)) (by (with_reducible repeat (first | refine bkN ?_ _ | refine bkD ?_ | refine bkA ?_ _)); exact BK156.out) hb); have n2_ := A0_.mk (blk_below (g := gb157) (o := .cells #[.slice none 0 0, .int .i64 x158001_2] 64 (0, 0)) (by (with_reducible repeat (first | refine bkN ?_ _ | refine bkD ?_ | refine bkA ?_ _)); exact BK157.out) hb); have n3_ := A0_.mk (blk_below (g := gb166) (o := .cells #[.slice Ao31 t163.length co31, .int .i64 x167001_2] 64 (0, 0)) (by (with_reducible repeat (first | refine bkN ?_ _ | refine bkD ?_ | refine bkA ?_ _)); exact BK166.out) hb); have n4_ := A0_.mk (below_step (by repeat (first | (with_reducible first | exact HB.out | apply bal | apply pdN | apply bdr | refine bst ?_ GE156.out | refine bst ?_ GE157.out | refine bst ?_ GE166.out) | exact HB.out)) hb); have n5_ := A0_.mk (hbox); have n6_ := A0_.mk ((by rw [hg]; exact (below_size (by repeat (first | (with_reducible first | exact HB.out | apply bal | apply pdN | apply bdr | refine bst ?_ GE156.out | refine bst ?_ GE157.out | refine bst ?_ GE166.out) | exact HB.out))) : w.heap.size ≤ gb168)); have n7_ := A0_.mk ((by rw [hg]; exact (below_size (by repeat (first | (with_reducible first | exact HB.out | apply bal | apply pdN | apply bdr | refine bst ?_ GE156.out | refine bst ?_ GE157.out | refine bst ?_ GE166.out) | exact HB.out))) : w.heap.size ≤ gb168)); have n8_ := A0_.mk ((by rw [hg]; exact Nat.ne_of_lt (blk_lt (g := gb156) (o := .cells #[.slice (some ad167) l0_0.length c0_0] 36 (0, 0)) (by (with_reducible repeat (first | refine bkN ?_ _ | refine bkD ?_ | refine bkA ?_ _)); exact BK156.out)) : gb156 ≠ gb168)); have n9_ := A0_.mk ((by rw [hg]; exact Nat.ne_of_gt (blk_lt (g := gb156) (o := .cells #[.slice (some ad167) l0_0.length c0_0] 36 (0, 0)) (by (with_reducible repeat (first | refine bkN ?_ _ | refine bkD ?_ | refine bkA ?_ _)); exact BK156.out)) : gb168 ≠ gb156)); have n10_ := A0_.mk ((by rw [hg]; exact Nat.ne_of_lt (blk_lt (g := gb157) (o := .cells #[.slice none 0 0, .int .i64 x158001_2] 64 (0, 0)) (by (with_reducible repeat (first | refine bkN ?_ _ | refine bkD ?_ | refine bkA ?_ _)); exact BK157.out)) : gb157 ≠ gb168)); have n11_ := A0_.mk ((by rw [hg]; exact Nat.ne_of_gt (blk_lt (g := gb157) (o := .cells #[.slice none 0 0, .int .i64 x158001_2] 64 (0, 0)) (by (with_reducible repeat (first | refine bkN ?_ _ | refine bkD ?_ | refine bkA ?_ _)); exact BK157.out)) : gb168 ≠ gb157)); have n12_ := A0_.mk ((by rw [hg]; exact Nat.ne_of_lt (blk_lt (g := gb166) (o := .cells #[.slice Ao31 t163.length co31, .int .i64 x167001_2] 64 (0, 0)) (by (with_reducible repeat (first | refine bkN ?_ _ | refine bkD ?_ | refine bkA ?_ _)); exact BK166.out)) : gb166 ≠ gb168)); have n13_ := A0_.mk ((by rw [hg]; exact Nat.ne_of_gt (blk_lt (g := gb166) (o := .cells #[.slice Ao31 t163.length co31, .int .i64 x167001_2] 64 (0, 0)) (by (with_reducible repeat (first | refine bkN ?_ _ | refine bkD ?_ | refine bkA ?_ _)); exact BK166.out)) : gb168 ≠ gb166)); clear HO_167000; clear BK156; clear BK157; clear BK166; clear HB; have HO_167000 := n0_; have BK156 := n1_; have BK157 := n2_; have BK166 := n3_; have HB := n4_; have BK168 := n5_; have GW168 := n6_; have GE168 := n7_; have NB156_168 := n8_; have NB168_156 := n9_; have NB157_168 := n10_; have NB168_157 := n11_; have NB166_168 := n12_; have NB168_166 := n13_; clear n0_ n1_ n2_ n3_ n4_ n5_ n6_ n7_ n8_ n9_ n10_ n11_ n12_ n13_; clear hb hbox hg; have hnb59 := NB168_156.out; have hnc59 := NB156_168.out; have hnb60 := NB168_157.out; have hnc60 := NB157_168.out; have hnb61 := NB168_166.out; have hnc61 := NB166_168.out; have hcz62_0 : w58.cell? ⟨gb168, 0, none⟩ = some (.int .i64 0) := (bkC BK168.out 0).trans rfl; have hcz62_1 : w58.cell? ⟨gb168, 1, none⟩ = some (.string (⟨#[]⟩ : ByteArray)) := (bkC BK168.out 1).trans rfl; have hcz62_2 : w58.cell? ⟨gb168, 2, none⟩ = some (.int .i64 0) := (bkC BK168.out 2).trans rfl; have hfz62_0 := bkF BK168.out 0; have hfz62_1 := bkF BK168.out 1; have hfz62_2 := bkF BK168.out 2))
           go_roundg k2
           case measure => have := HJ3.out; have := HK2.out; omega
           case rel => exact ⟨(wrap64 (x35_2 + 1)), (x158001_2), (x167001_2), (by first | rfl | (simp; done) | (simp [*]; done)), H', ⟨by have := HJ3.out; have := HK2.out; omega⟩, ⟨by (with_reducible repeat (first | apply Kd.R_alloc | apply Kd.R_drewN | apply Kd.R_drew)); exact Kd.R_mono (Kd.R_far (p := ⟨gb168, 2, none⟩) (Kd.R_far (p := ⟨gb168, 1, none⟩) (Kd.R_far (p := ⟨gb168, 0, none⟩) (Kd.R_mono HO_167000.out (fun k_ hk => (⟨hk, hk.2⟩ : _ ∧ k_ ≠ gb168))) (fun _ hk => hk.2) (.int .i64 ((rd_T75 l0_0 x35_2).f0))) (fun _ hk => hk.2) (.string ((rd_T75 l0_0 x35_2).f1))) (fun _ hk => hk.2) (.int .i64 ((rd_T75 l0_0 x35_2).f2))) (fun _ hk => trivial)⟩, ⟨by (with_reducible repeat (first | refine bkN ?_ _ | refine bkD ?_ | refine bkA ?_ _)); refine blk_far ?_ NB156_168.out _; (with_reducible repeat (first | refine bkN ?_ _ | refine bkD ?_ | refine bkA ?_ _)); refine blk_far ?_ NB156_168.out _; (with_reducible repeat (first | refine bkN ?_ _ | refine bkD ?_ | refine bkA ?_ _)); refine blk_far ?_ NB156_168.out _; (with_reducible repeat (first | refine bkN ?_ _ | refine bkD ?_ | refine bkA ?_ _)); exact BK156.out⟩, ⟨by (with_reducible repeat (first | refine bkN ?_ _ | refine bkD ?_ | refine bkA ?_ _)); refine blk_far ?_ NB157_168.out _; (with_reducible repeat (first | refine bkN ?_ _ | refine bkD ?_ | refine bkA ?_ _)); refine blk_far ?_ NB157_168.out _; (with_reducible repeat (first | refine bkN ?_ _ | refine bkD ?_ | refine bkA ?_ _)); refine blk_far ?_ NB157_168.out _; (with_reducible repeat (first | refine bkN ?_ _ | refine bkD ?_ | refine bkA ?_ _)); exact BK157.out⟩, ⟨by (with_reducible repeat (first | refine bkN ?_ _ | refine bkD ?_ | refine bkA ?_ _)); refine blk_far ?_ NB166_168.out _; (with_reducible repeat (first | refine bkN ?_ _ | refine bkD ?_ | refine bkA ?_ _)); refine blk_far ?_ NB166_168.out _; (with_reducible repeat (first | refine bkN ?_ _ | refine bkD ?_ | refine bkA ?_ _)); refine blk_far ?_ NB166_168.out _; (with_reducible repeat (first | refine bkN ?_ _ | refine bkD ?_ | refine bkA ?_ _)); exact BK166.out⟩, ⟨by repeat (first | (with_reducible first | exact HB.out | apply bal | apply pdN | apply bdr | refine bst ?_ GE156.out | refine bst ?_ GE157.out | refine bst ?_ GE166.out | refine bst ?_ GE168.out) | exact HB.out)⟩⟩
         ·rw [if_neg c40] at H
          have c40b0 : decide (0 < x35_2) = false := decide_eq_false c40
          clear c40
          have H' := A0_.mk H
          clear H
          have p167 : 0 ≤ (x35_2 : Int) := of_decide_eq_true (by first | (with_reducible assumption) | assumption)
          have q167 : x35_2 < (l0_0.length : Int) := of_decide_eq_true (by first | (with_reducible assumption) | assumption)
          obtain ⟨ad167, e167, hx167_0, hx167_1, hx167_2⟩ := at_T75 HR0_0.out x35_2 p167 q167
          cases e167
          replace hx167_0 := (HB.out.cell (World.block_lt_of_cell? w _ hx167_0)).trans hx167_0
          replace hx167_1 := (HB.out.cell (World.block_lt_of_cell? w _ hx167_1)).trans hx167_1
          replace hx167_2 := (HB.out.cell (World.block_lt_of_cell? w _ hx167_2)).trans hx167_2
          replace p167 := eq_true p167
          replace q167 := eq_true q167
          go_wp2_with (first | ((with_reducible refine gate_dst (N := 9) rfl ?_); (try (refine gate_guard (by rfl) ?_; dsimp only)); refine box_event ?hg (N := 9) ?hd (cs := #[.int .i64 0, .string (⟨#[]⟩ : ByteArray), .int .i64 0]) (t := 75) ?hr ?_; (case hd => rfl); (case hg => rfl); (case hr => first | (go_simp; done) | (go_simp; rfl)); intro gb168 hg w63 hbox hb; have n0_ := A0_.mk (Kd.R_below (Kd.R_elderB (by (with_reducible repeat (first | apply Kd.R_alloc | apply Kd.R_drewN | apply Kd.R_drew)); exact HO_167000.out) gb168 (Nat.le_of_eq hg.symm)) hb); have n1_ := A0_.mk (blk_below (g := gb156) (o := .cells #[.slice (some ad167) l0_0.length c0_0] 36 (0, 0)) (by (with_reducible repeat (first | refine bkN ?_ _ | refine bkD ?_ | refine bkA ?_ _)); exact BK156.out) hb); have n2_ := A0_.mk (blk_below (g := gb157) (o := .cells #[.slice none 0 0, .int .i64 x158001_2] 64 (0, 0)) (by (with_reducible repeat (first | refine bkN ?_ _ | refine bkD ?_ | refine bkA ?_ _)); exact BK157.out) hb); have n3_ := A0_.mk (blk_below (g := gb166) (o := .cells #[.slice Ao31 t163.length co31, .int .i64 x167001_2] 64 (0, 0)) (by (with_reducible repeat (first | refine bkN ?_ _ | refine bkD ?_ | refine bkA ?_ _)); exact BK166.out) hb); have n4_ := A0_.mk (below_step (by repeat (first | (with_reducible first | exact HB.out | apply bal | apply pdN | apply bdr | refine bst ?_ GE156.out | refine bst ?_ GE157.out | refine bst ?_ GE166.out) | exact HB.out)) hb); have n5_ := A0_.mk (hbox); have n6_ := A0_.mk ((by rw [hg]; exact (below_size (by repeat (first | (with_reducible first | exact HB.out | apply bal | apply pdN | apply bdr | refine bst ?_ GE156.out | refine bst ?_ GE157.out | refine bst ?_ GE166.out) | exact HB.out))) : w.heap.size ≤ gb168)); have n7_ := A0_.mk ((by rw [hg]; exact (below_size (by repeat (first | (with_reducible first | exact HB.out | apply bal | apply pdN | apply bdr | refine bst ?_ GE156.out | refine bst ?_ GE157.out | refine bst ?_ GE166.out) | exact HB.out))) : w.heap.size ≤ gb168)); have n8_ := A0_.mk ((by rw [hg]; exact Nat.ne_of_lt (blk_lt (g := gb156) (o := .cells #[.slice (some ad167) l0_0.length c0_0] 36 (0, 0)) (by (with_reducible repeat (first | refine bkN ?_ _ | refine bkD ?_ | refine bkA ?_ _)); exact BK156.out)) : gb156 ≠ gb168)); have n9_ := A0_.mk ((by rw [hg]; exact Nat.ne_of_gt (blk_lt (g := gb156) (o := .cells #[.slice (some ad167) l0_0.length c0_0] 36 (0, 0)) (by (with_reducible repeat (first | refine bkN ?_ _ | refine bkD ?_ | refine bkA ?_ _)); exact BK156.out)) : gb168 ≠ gb156)); have n10_ := A0_.mk ((by rw [hg]; exact Nat.ne_of_lt (blk_lt (g := gb157) (o := .cells #[.slice none 0 0, .int .i64 x158001_2] 64 (0, 0)) (by (with_reducible repeat (first | refine bkN ?_ _ | refine bkD ?_ | refine bkA ?_ _)); exact BK157.out)) : gb157 ≠ gb168)); have n11_ := A0_.mk ((by rw [hg]; exact Nat.ne_of_gt (blk_lt (g := gb157) (o := .cells #[.slice none 0 0, .int .i64 x158001_2] 64 (0, 0)) (by (with_reducible repeat (first | refine bkN ?_ _ | refine bkD ?_ | refine bkA ?_ _)); exact BK157.out)) : gb168 ≠ gb157)); have n12_ := A0_.mk ((by rw [hg]; exact Nat.ne_of_lt (blk_lt (g := gb166) (o := .cells #[.slice Ao31 t163.length co31, .int .i64 x167001_2] 64 (0, 0)) (by (with_reducible repeat (first | refine bkN ?_ _ | refine bkD ?_ | refine bkA ?_ _)); exact BK166.out)) : gb166 ≠ gb168)); have n13_ := A0_.mk ((by rw [hg]; exact Nat.ne_of_gt (blk_lt (g := gb166) (o := .cells #[.slice Ao31 t163.length co31, .int .i64 x167001_2] 64 (0, 0)) (by (with_reducible repeat (first | refine bkN ?_ _ | refine bkD ?_ | refine bkA ?_ _)); exact BK166.out)) : gb168 ≠ gb166)); clear HO_167000; clear BK156; clear BK157; clear BK166; clear HB; have HO_167000 := n0_; have BK156 := n1_; have BK157 := n2_; have BK166 := n3_; have HB := n4_; have BK168 := n5_; have GW168 := n6_; have GE168 := n7_; have NB156_168 := n8_; have NB168_156 := n9_; have NB157_168 := n10_; have NB168_157 := n11_; have NB166_168 := n12_; have NB168_166 := n13_; clear n0_ n1_ n2_ n3_ n4_ n5_ n6_ n7_ n8_ n9_ n10_ n11_ n12_ n13_; clear hb hbox hg; have hnb64 := NB168_156.out; have hnc64 := NB156_168.out; have hnb65 := NB168_157.out; have hnc65 := NB157_168.out; have hnb66 := NB168_166.out; have hnc66 := NB166_168.out; have hcz67_0 : w63.cell? ⟨gb168, 0, none⟩ = some (.int .i64 0) := (bkC BK168.out 0).trans rfl; have hcz67_1 : w63.cell? ⟨gb168, 1, none⟩ = some (.string (⟨#[]⟩ : ByteArray)) := (bkC BK168.out 1).trans rfl; have hcz67_2 : w63.cell? ⟨gb168, 2, none⟩ = some (.int .i64 0) := (bkC BK168.out 2).trans rfl; have hfz67_0 := bkF BK168.out 0; have hfz67_1 := bkF BK168.out 1; have hfz67_2 := bkF BK168.out 2))
          go_roundg k2
          case measure => have := HJ3.out; have := HK2.out; omega
          case rel => exact ⟨(wrap64 (x35_2 + 1)), (x158001_2), (x167001_2), (by first | rfl | (simp; done) | (simp [*]; done)), H', ⟨by have := HJ3.out; have := HK2.out; omega⟩, ⟨by (with_reducible repeat (first | apply Kd.R_alloc | apply Kd.R_drewN | apply Kd.R_drew)); exact Kd.R_mono (Kd.R_far (p := ⟨gb168, 2, none⟩) (Kd.R_far (p := ⟨gb168, 1, none⟩) (Kd.R_far (p := ⟨gb168, 0, none⟩) (Kd.R_mono HO_167000.out (fun k_ hk => (⟨hk, hk.2⟩ : _ ∧ k_ ≠ gb168))) (fun _ hk => hk.2) (.int .i64 ((rd_T75 l0_0 x35_2).f0))) (fun _ hk => hk.2) (.string ((rd_T75 l0_0 x35_2).f1))) (fun _ hk => hk.2) (.int .i64 ((rd_T75 l0_0 x35_2).f2))) (fun _ hk => trivial)⟩, ⟨by (with_reducible repeat (first | refine bkN ?_ _ | refine bkD ?_ | refine bkA ?_ _)); refine blk_far ?_ NB156_168.out _; (with_reducible repeat (first | refine bkN ?_ _ | refine bkD ?_ | refine bkA ?_ _)); refine blk_far ?_ NB156_168.out _; (with_reducible repeat (first | refine bkN ?_ _ | refine bkD ?_ | refine bkA ?_ _)); refine blk_far ?_ NB156_168.out _; (with_reducible repeat (first | refine bkN ?_ _ | refine bkD ?_ | refine bkA ?_ _)); exact BK156.out⟩, ⟨by (with_reducible repeat (first | refine bkN ?_ _ | refine bkD ?_ | refine bkA ?_ _)); refine blk_far ?_ NB157_168.out _; (with_reducible repeat (first | refine bkN ?_ _ | refine bkD ?_ | refine bkA ?_ _)); refine blk_far ?_ NB157_168.out _; (with_reducible repeat (first | refine bkN ?_ _ | refine bkD ?_ | refine bkA ?_ _)); refine blk_far ?_ NB157_168.out _; (with_reducible repeat (first | refine bkN ?_ _ | refine bkD ?_ | refine bkA ?_ _)); exact BK157.out⟩, ⟨by (with_reducible repeat (first | refine bkN ?_ _ | refine bkD ?_ | refine bkA ?_ _)); refine blk_far ?_ NB166_168.out _; (with_reducible repeat (first | refine bkN ?_ _ | refine bkD ?_ | refine bkA ?_ _)); refine blk_far ?_ NB166_168.out _; (with_reducible repeat (first | refine bkN ?_ _ | refine bkD ?_ | refine bkA ?_ _)); refine blk_far ?_ NB166_168.out _; (with_reducible repeat (first | refine bkN ?_ _ | refine bkD ?_ | refine bkA ?_ _)); exact BK166.out⟩, ⟨by repeat (first | (with_reducible first | exact HB.out | apply bal | apply pdN | apply bdr | refine bst ?_ GE156.out | refine bst ?_ GE157.out | refine bst ?_ GE166.out | refine bst ?_ GE168.out) | exact HB.out)⟩⟩
        ·rw [if_neg c39] at H
         exact absurd H (by simp)
       ·rw [if_neg c38] at H
        exact absurd H (by simp)
      ·rw [if_neg c37] at H
       have c37b0 : decide (x35_2 < (l0_0.length : Int)) = false := decide_eq_false c37
       clear c37
       by_cases c68 : 0 ≤ a1
       ·rw [if_pos c68] at H
        have c68b0 : decide (0 ≤ a1) = true := decide_eq_true c68
        clear c68
        by_cases c69 : a1 < (l0_0.length : Int)
        ·rw [if_pos c69] at H
         have c69b0 : decide (a1 < (l0_0.length : Int)) = true := decide_eq_true c69
         clear c69
         by_cases c70 : ((rd_T75 l0_0 a1).f2) < 12
         ·rw [if_pos c70] at H
          have c70b0 : decide (((rd_T75 l0_0 a1).f2) < 12) = true := decide_eq_true c70
          clear c70
          by_cases c71 : (l0_0.length : Int) < 200
          ·rw [if_pos c71] at H
           have c71b0 : decide ((l0_0.length : Int) < 200) = true := decide_eq_true c71
           have c71b1 : decide (l0_0.length < 200) = true := decide_eq_true (by omega)
           clear c71
           by_cases c72 : t163.length < 4398046511104
           ·rw [if_pos c72] at H
            have LMc72 := A0_.mk c72
            clear c72
            obtain ⟨y171, hy171⟩ : ∃ y_ : List (S75), y_ = (t163 ++ [(⟨a1, a2, wrap64 (((rd_T75 l0_0 a1).f2) + 1)⟩ : S75)]) := ⟨_, rfl⟩
            replace H : (some (y171, (l0_0.length : Int))) = some (r1, r2) := by first | (rw [hy171]; with_reducible exact H) | (have H2_ := (Option.bind_some _ _).symm.trans H; rw [hy171]; with_reducible exact H2_) | (have H2_ := (Option.bind_some _ _).symm.trans H; with_reducible exact H2_) | with_reducible exact H | (rw [hy171]; exact H) | exact H
            have Ny171 := A0_.mk hy171
            clear hy171
            simp only [Option.some.injEq, Prod.mk.injEq] at H
            obtain ⟨rfl, rfl⟩ := H
            have hnb73 := NB156_157.out
            have hnc73 := NB157_156.out
            have hnb74 := NB156_166.out
            have hnc74 := NB166_156.out
            have hcz75_0 : wr.cell? ⟨gb156, 0, none⟩ = some (.slice A0_0 l0_0.length c0_0) := (bkC BK156.out 0).trans rfl
            have hfz75_0 := bkF BK156.out 0
            have p169 : 0 ≤ (a1 : Int) := of_decide_eq_true (by first | (with_reducible assumption) | assumption)
            have q169 : a1 < (l0_0.length : Int) := of_decide_eq_true (by first | (with_reducible assumption) | assumption)
            obtain ⟨ad169, e169, hx169_0, hx169_1, hx169_2⟩ := at_T75 HR0_0.out a1 p169 q169
            cases e169
            replace hx169_0 := (HB.out.cell (World.block_lt_of_cell? w _ hx169_0)).trans hx169_0
            replace hx169_1 := (HB.out.cell (World.block_lt_of_cell? w _ hx169_1)).trans hx169_1
            replace hx169_2 := (HB.out.cell (World.block_lt_of_cell? w _ hx169_2)).trans hx169_2
            replace p169 := eq_true p169
            replace q169 := eq_true q169
            have hnb76 := NB166_157.out
            have hnc76 := NB157_166.out
            have hcz77_0 : wr.cell? ⟨gb166, 0, none⟩ = some (.slice Ao31 t163.length co31) := (bkC BK166.out 0).trans rfl
            have hcz77_1 : wr.cell? ⟨gb166, 1, none⟩ = some (.int .i64 x167001_2) := (bkC BK166.out 1).trans rfl
            have hfz77_0 := bkF BK166.out 0
            have hfz77_1 := bkF BK166.out 1
            try go_wp2
            have n0_ : A0_ (Kd.R k75 75 (wr.setCell ⟨gb166, 1, none⟩ (.int .i64 (l0_0.length : Int))) w.heap.size (fun _ => True) (.slice Ao31 t163.length co31) t163) := ⟨by (with_reducible repeat (first | apply Kd.R_alloc | apply Kd.R_drewN | apply Kd.R_drew)); exact Kd.R_mono (Kd.R_far (p := ⟨gb166, 1, none⟩) (Kd.R_types HO_167000.out BK166.out (by decide)) (fun _ hk => hk.2) (.int .i64 (l0_0.length : Int))) (fun _ hk => trivial)⟩
            have n1_ : A0_ ((wr.setCell ⟨gb166, 1, none⟩ (.int .i64 (l0_0.length : Int))).heap[gb156]? = some (.cells #[.slice (some ad169) l0_0.length c0_0] 36 (0, 0))) := ⟨by (with_reducible repeat (first | refine bkN ?_ _ | refine bkD ?_ | refine bkA ?_ _)); refine blk_far ?_ NB156_166.out _; (with_reducible repeat (first | refine bkN ?_ _ | refine bkD ?_ | refine bkA ?_ _)); exact BK156.out⟩
            have n2_ : A0_ ((wr.setCell ⟨gb166, 1, none⟩ (.int .i64 (l0_0.length : Int))).heap[gb157]? = some (.cells #[.slice none 0 0, .int .i64 x158001_2] 64 (0, 0))) := ⟨by (with_reducible repeat (first | refine bkN ?_ _ | refine bkD ?_ | refine bkA ?_ _)); refine blk_far ?_ NB157_166.out _; (with_reducible repeat (first | refine bkN ?_ _ | refine bkD ?_ | refine bkA ?_ _)); exact BK157.out⟩
            have n3_ : A0_ ((wr.setCell ⟨gb166, 1, none⟩ (.int .i64 (l0_0.length : Int))).heap[gb166]? = some (.cells #[.slice Ao31 t163.length co31, .int .i64 (l0_0.length : Int)] 64 (0, 0))) := ⟨by (with_reducible repeat (first | refine bkN ?_ _ | refine bkD ?_ | refine bkA ?_ _)); refine blk_put (cs := #[.slice Ao31 t163.length co31, .int .i64 x167001_2]) ?_ 1 _ rfl; (with_reducible repeat (first | refine bkN ?_ _ | refine bkD ?_ | refine bkA ?_ _)); exact BK166.out⟩
            have n4_ : A0_ (Below w.heap.size w (wr.setCell ⟨gb166, 1, none⟩ (.int .i64 (l0_0.length : Int)))) := ⟨by repeat (first | (with_reducible first | exact HB.out | apply bal | apply pdN | apply bdr | refine bst ?_ GE156.out | refine bst ?_ GE157.out | refine bst ?_ GE166.out) | exact HB.out)⟩
            (try clear HO_167000)
            (try clear BK156)
            (try clear BK157)
            (try clear BK166)
            (try clear HB)
            generalize (wr.setCell ⟨gb166, 1, none⟩ (.int .i64 (l0_0.length : Int))) = w78 at n0_ n1_ n2_ n3_ n4_ ⊢
            have HO_167000 := n0_
            have BK156 := n1_
            have BK157 := n2_
            have BK166 := n3_
            have HB := n4_
            clear n0_ n1_ n2_ n3_ n4_
            have n0_ := A0_.mk (Kd.R_drew HO_167000.out)
            have n1_ := A0_.mk (bkD BK156.out)
            have n2_ := A0_.mk (bkD BK157.out)
            have n3_ := A0_.mk (bkD BK166.out)
            have n4_ := A0_.mk (bdr HB.out)
            clear HO_167000
            clear BK156
            clear BK157
            clear BK166
            clear HB
            have HO_167000 := n0_
            have BK156 := n1_
            have BK157 := n2_
            have BK166 := n3_
            have HB := n4_
            clear n0_ n1_ n2_ n3_ n4_
            have p170 : 0 ≤ (a1 : Int) := of_decide_eq_true (by first | (with_reducible assumption) | assumption)
            have q170 : a1 < (l0_0.length : Int) := of_decide_eq_true (by first | (with_reducible assumption) | assumption)
            obtain ⟨ad170, e170, hx170_0, hx170_1, hx170_2⟩ := at_T75 HR0_0.out a1 p170 q170
            have hw170_2 := hx170_2
            have hw170_1 := hx170_1
            have hw170_0 := hx170_0
            obtain rfl : ad169 = ad170 := (by injection e170)
            replace hx170_0 := (HB.out.cell (World.block_lt_of_cell? w _ hx170_0)).trans hx170_0
            replace hx170_1 := (HB.out.cell (World.block_lt_of_cell? w _ hx170_1)).trans hx170_1
            replace hx170_2 := (HB.out.cell (World.block_lt_of_cell? w _ hx170_2)).trans hx170_2
            replace p170 := eq_true p170
            replace q170 := eq_true q170
            refine start_ (n := 18) (S := fun w' => w'.cell? ⟨gb166, 0, none⟩ = some (.slice Ao31 t163.length co31) ∧ w'.cell? ⟨gb166, 1, none⟩ = some (.int .i64 (l0_0.length : Int)) ∧ w'.cell? ⟨gb156, 0, none⟩ = some (.slice (some ad169) l0_0.length c0_0) ∧ w'.cell? (ad169.add ((a1).toNat * 3)) = some (.int .i64 ((rd_T75 l0_0 a1).f0)) ∧ w'.cell? ⟨(ad169.add ((a1).toNat * 3)).block, (ad169.add ((a1).toNat * 3)).off + 1, none⟩ = some (.string ((rd_T75 l0_0 a1).f1)) ∧ w'.cell? ⟨(ad169.add ((a1).toNat * 3)).block, (ad169.add ((a1).toNat * 3)).off + 2, none⟩ = some (.int .i64 ((rd_T75 l0_0 a1).f2))) (ds := [17]) #[false, false, false, false, false, false, false, false, false, false, false, false, false, false, false, false, false, false] (by kernel_rfl) rfl rfl ⟨(bkC BK166.out 0).trans rfl, (bkC BK166.out 1).trans rfl, (bkC BK156.out 0).trans rfl, ((HB.out.cell (World.block_lt_of_cell? w _ hw170_0)).trans hw170_0), ((HB.out.cell (World.block_lt_of_cell? w _ hw170_1)).trans hw170_1), ((HB.out.cell (World.block_lt_of_cell? w _ hw170_2)).trans hw170_2)⟩ (fun hHeld => ?_); refine with_tabW impl_Grow.tab13 impl_Grow.bits13 (fun HT_ HW_ => ?_)
            generalize w78.drew = w79 at HO_167000 BK156 BK157 BK166 HB hx170_0 hx170_1 hx170_2 hHeld ⊢
            refine pure_ (i := 0) (N := some 75) (v := ?_) (a' := ?_) #[true, false, false, false, false, false, false, false, false, false, false, false, false, false, false, false, false, false] rfl rfl (any_of HT_.out (by kernel_rfl)) (fun _ _ _ h => h) (Or.inl ⟨by rfl, ?_⟩) ?_ ?_
            rotate_left
            ·intro w'
             go_simp
             with_reducible rfl
            rotate_left
            ·simp only [Act.put, List.setIfInBounds_toArray, List.set_cons_zero, List.set_cons_succ, i64_w, i32_w]
             rfl
            refine pure_ (i := 1) (N := some 76) (v := ?_) (a' := ?_) #[true, true, false, false, false, false, false, false, false, false, false, false, false, false, false, false, false, false] rfl rfl (any_of HT_.out (by kernel_rfl)) (fun _ _ _ h => h) (Or.inl ⟨by rfl, ?_⟩) ?_ ?_
            rotate_left
            ·intro w'
             go_simp
             with_reducible rfl
            rotate_left
            ·simp only [Act.put, List.setIfInBounds_toArray, List.set_cons_zero, List.set_cons_succ, i64_w, i32_w]
             rfl
            refine pure_ (i := 3) (N := some 78) (v := ?_) (a' := ?_) #[true, true, false, true, false, false, false, false, false, false, false, false, false, false, false, false, false, false] rfl rfl (any_of HT_.out (by kernel_rfl)) (fun _ _ _ h => h) (Or.inl ⟨by rfl, ?_⟩) ?_ ?_
            rotate_left
            ·intro w'
             go_simp
             with_reducible rfl
            rotate_left
            ·simp only [Act.put, List.setIfInBounds_toArray, List.set_cons_zero, List.set_cons_succ, i64_w, i32_w]
             rfl
            refine pure_ (i := 4) (N := some 79) (v := ?_) (a' := ?_) #[true, true, false, true, true, false, false, false, false, false, false, false, false, false, false, false, false, false] rfl rfl (any_of HT_.out (by kernel_rfl)) (fun _ _ _ h => h) (Or.inl ⟨by rfl, ?_⟩) ?_ ?_
            rotate_left
            ·intro w'
             go_simp
             with_reducible rfl
            rotate_left
            ·simp only [Act.put, List.setIfInBounds_toArray, List.set_cons_zero, List.set_cons_succ, i64_w, i32_w]
             rfl
            refine pure_ (i := 5) (N := some 80) (v := ?_) (a' := ?_) #[true, true, false, true, true, true, false, false, false, false, false, false, false, false, false, false, false, false] rfl rfl (any_of HT_.out (by kernel_rfl)) (fun _ _ _ h => h) (Or.inl ⟨by rfl, ?_⟩) ?_ ?_
            rotate_left
            ·intro w'
             go_simp
             with_reducible rfl
            rotate_left
            ·simp only [Act.put, List.setIfInBounds_toArray, List.set_cons_zero, List.set_cons_succ, i64_w, i32_w]
             rfl
            refine pure_ (i := 7) (N := some 82) (v := ?_) (a' := ?_) #[true, true, false, true, true, true, false, true, false, false, false, false, false, false, false, false, false, false] rfl rfl (any_of HT_.out (by kernel_rfl)) (fun _ _ _ h => h) (Or.inl ⟨by rfl, ?_⟩) ?_ ?_
            rotate_left
            ·intro w'
             go_simp
             with_reducible rfl
            rotate_left
            ·simp only [Act.put, List.setIfInBounds_toArray, List.set_cons_zero, List.set_cons_succ, i64_w, i32_w]
             rfl
            refine take_ (i := 2) (N := some 77) (v := ?_) (a' := ?_) #[true, true, true, true, true, true, false, true, false, false, false, false, false, false, false, false, false, false] rfl rfl (take_ofW HT_.out HW_.out (by kernel_rfl)) (fun _ _ _ h => h) (Or.inl ⟨by rfl, ?_⟩) hHeld ?_ ?_
            rotate_left
            ·rintro w' ⟨s0, s1, s2, s3, s4, s5⟩
             go_simp
             with_reducible rfl
            rotate_left
            ·simp only [Act.put, List.setIfInBounds_toArray, List.set_cons_zero, List.set_cons_succ, i64_w, i32_w]
             rfl
            refine take_ (i := 6) (N := some 81) (v := ?_) (a' := ?_) #[true, true, true, true, true, true, true, true, false, false, false, false, false, false, false, false, false, false] rfl rfl (take_ofW HT_.out HW_.out (by kernel_rfl)) (fun _ _ _ h => h) (Or.inl ⟨by rfl, ?_⟩) hHeld ?_ ?_
            rotate_left
            ·rintro w' ⟨s0, s1, s2, s3, s4, s5⟩
             go_simp
             with_reducible rfl
            rotate_left
            ·simp only [Act.put, List.setIfInBounds_toArray, List.set_cons_zero, List.set_cons_succ, i64_w, i32_w]
             rfl
            refine pure_ (i := 8) (N := some 83) (v := ?_) (a' := ?_) #[true, true, true, true, true, true, true, true, true, false, false, false, false, false, false, false, false, false] rfl rfl (any_of HT_.out (by kernel_rfl)) (fun _ _ _ h => h) (Or.inl ⟨by rfl, ?_⟩) ?_ ?_
            rotate_left
            ·intro w'
             go_simp
             with_reducible rfl
            rotate_left
            ·simp only [Act.put, List.setIfInBounds_toArray, List.set_cons_zero, List.set_cons_succ, i64_w, i32_w]
             rfl
            refine pure_ (i := 9) (N := some 84) (v := ?_) (a' := ?_) #[true, true, true, true, true, true, true, true, true, true, false, false, false, false, false, false, false, false] rfl rfl (any_of HT_.out (by kernel_rfl)) (fun _ _ _ h => h) (Or.inl ⟨by rfl, ?_⟩) ?_ ?_
            rotate_left
            ·intro w'
             go_simp
             with_reducible rfl
            rotate_left
            ·simp only [Act.put, List.setIfInBounds_toArray, List.set_cons_zero, List.set_cons_succ, i64_w, i32_w]
             rfl
            refine take_ (i := 10) (N := some 85) (v := ?_) (a' := ?_) #[true, true, true, true, true, true, true, true, true, true, true, false, false, false, false, false, false, false] rfl rfl (take_ofW HT_.out HW_.out (by kernel_rfl)) (fun _ _ _ h => h) (Or.inl ⟨by rfl, ?_⟩) hHeld ?_ ?_
            rotate_left
            ·rintro w' ⟨s0, s1, s2, s3, s4, s5⟩
             go_simp
             with_reducible rfl
            rotate_left
            ·simp only [Act.put, List.setIfInBounds_toArray, List.set_cons_zero, List.set_cons_succ, i64_w, i32_w]
             rfl
            refine pure_ (i := 11) (N := some 86) (v := ?_) (a' := ?_) #[true, true, true, true, true, true, true, true, true, true, true, true, false, false, false, false, false, false] rfl rfl (any_of HT_.out (by kernel_rfl)) (fun _ _ _ h => h) (Or.inl ⟨by rfl, ?_⟩) ?_ ?_
            rotate_left
            ·intro w'
             go_simp
             with_reducible rfl
            rotate_left
            ·simp only [Act.put, List.setIfInBounds_toArray, List.set_cons_zero, List.set_cons_succ, i64_w, i32_w]
             rfl
            refine pure_ (i := 12) (N := some 87) (v := ?_) (a' := ?_) #[true, true, true, true, true, true, true, true, true, true, true, true, true, false, false, false, false, false] rfl rfl (any_of HT_.out (by kernel_rfl)) (fun _ _ _ h => h) (Or.inl ⟨by rfl, ?_⟩) ?_ ?_
            rotate_left
            ·intro w'
             go_simp
             with_reducible rfl
            rotate_left
            ·simp only [Act.put, List.setIfInBounds_toArray, List.set_cons_zero, List.set_cons_succ, i64_w, i32_w]
             rfl
            refine one_ (i := 13) (N := some 88) #[true, true, true, true, true, true, true, true, true, true, true, true, true, true, false, false, false, false] rfl rfl (one_of HT_.out (by kernel_rfl)) (by decide) (fun K hK => ?_)
            refine value_ (w1 := ?_) (v := ?_) (by rfl) rfl ?_ ?_
            rotate_left 2
            ·go_simp
             constructor
             ·rfl
             ·rfl
            refine hK.out _ _ ⟨(bkC (bkA BK166.out _) 0).trans rfl, (bkC (bkA BK166.out _) 1).trans rfl, (bkC (bkA BK156.out _) 0).trans rfl, (World.cell?_alloc_lt _ _ _ (World.block_lt_of_cell? _ _ (((HB.out.cell (World.block_lt_of_cell? w _ hw170_0)).trans hw170_0)))).trans (((HB.out.cell (World.block_lt_of_cell? w _ hw170_0)).trans hw170_0)), (World.cell?_alloc_lt _ _ _ (World.block_lt_of_cell? _ _ (((HB.out.cell (World.block_lt_of_cell? w _ hw170_1)).trans hw170_1)))).trans (((HB.out.cell (World.block_lt_of_cell? w _ hw170_1)).trans hw170_1)), (World.cell?_alloc_lt _ _ _ (World.block_lt_of_cell? _ _ (((HB.out.cell (World.block_lt_of_cell? w _ hw170_2)).trans hw170_2)))).trans (((HB.out.cell (World.block_lt_of_cell? w _ hw170_2)).trans hw170_2))⟩ (fun hHeld => ?_)
            clear hK K
            refine norm_ (a' := ?_) ?_ ?_
            rotate_left
            ·show Act.put _ (some 88) _ = _
             simp only [Act.put, List.setIfInBounds_toArray, List.set_cons_zero, List.set_cons_succ, i64_w, i32_w]
             rfl
            refine one_ (i := 14) (N := some 89) #[true, true, true, true, true, true, true, true, true, true, true, true, true, true, true, false, false, false] rfl rfl (one_of HT_.out (by kernel_rfl)) (by decide) (fun K hK => ?_)
            refine Kd.R_append_step k75 (w0 := w) w.heap.size (by rfl) (.tmp 77) (.tmp 88) 34 75 (.agg #[(.int .i64 0), (.string ⟨#[]⟩), (.int .i64 0)]) 32 rfl Try.underlying34 info75 rfl (by decide) (by omega) (.slice Ao31 t163.length co31) t163 (⟨a1, a2, wrap64 (((rd_T75 l0_0 a1).f2) + 1)⟩ : S75) [.int .i64 a1, .string a2, .int .i64 (wrap64 (((rd_T75 l0_0 a1).f2) + 1))] (fun _ => True) (fun _ => False) rfl rfl ?aP (fun _ hk => hk.elim) ?aF ?aO ?aB ?aS ?aL ?_
            (case aP => exact k75_mkM _ _ _ (⟨a1, a2, wrap64 (((rd_T75 l0_0 a1).f2) + 1)⟩ : S75))
            (case aB => exact (by repeat (first | (with_reducible first | exact HB.out | apply bal | apply pdN | apply bdr | refine bst ?_ GE156.out | refine bst ?_ GE157.out | refine bst ?_ GE166.out) | exact HB.out)))
            (case aF => exact (fun _ _ => trivial))
            (case aO => exact (by (with_reducible repeat (first | apply Kd.R_alloc | apply Kd.R_drewN | apply Kd.R_drew)); exact HO_167000.out))
            (case aS => exact (below_size (by repeat (first | (with_reducible first | exact HB.out | apply bal | apply pdN | apply bdr | refine bst ?_ GE156.out | refine bst ?_ GE157.out | refine bst ?_ GE166.out) | exact HB.out))))
            (case aL => have := LMc72.out; omega)
            intro v172 w80 ho hb hg hat
            rw [← Ny171.out] at ho
            have n0_ := A0_.mk (blk_grown (g := gb156) (o := .cells #[.slice (some ad169) l0_0.length c0_0] 36 (0, 0)) (by (with_reducible repeat (first | refine bkN ?_ _ | refine bkD ?_ | refine bkA ?_ _)); exact BK156.out) hg (Kd.R_ne HO_167000.out BK156.out (by decide)))
            have n1_ := A0_.mk (blk_grown (g := gb157) (o := .cells #[.slice none 0 0, .int .i64 x158001_2] 64 (0, 0)) (by (with_reducible repeat (first | refine bkN ?_ _ | refine bkD ?_ | refine bkA ?_ _)); exact BK157.out) hg (Kd.R_ne HO_167000.out BK157.out (by decide)))
            have n2_ := A0_.mk (blk_grown (g := gb166) (o := .cells #[.slice Ao31 t163.length co31, .int .i64 (l0_0.length : Int)] 64 (0, 0)) (by (with_reducible repeat (first | refine bkN ?_ _ | refine bkD ?_ | refine bkA ?_ _)); exact BK166.out) hg (Kd.R_ne HO_167000.out BK166.out (by decide)))
            have n3_ := A0_.mk (hb)
            have n4_ := A0_.mk (ho)
            clear BK156
            clear BK157
            clear BK166
            clear HB
            clear HO_167000
            have BK156 := n0_
            have BK157 := n1_
            have BK166 := n2_
            have HB := n3_
            have HO173 := n4_
            clear n0_ n1_ n2_ n3_ n4_
            clear ho hb hg hat
            obtain ⟨Ao81, co81, eo81⟩ := Kd.R_slice HO173.out
            (first | subst eo81 | (injection eo81 with f1_ f2_ f3_; have f4_ := f1_.symm; have f5_ := f3_.symm; clear f1_ f2_ f3_; subst f4_; subst f5_))
            refine hK.out _ _ ⟨(bkC BK166.out 0).trans rfl, (bkC BK166.out 1).trans rfl, (bkC BK156.out 0).trans rfl, ((HB.out.cell (World.block_lt_of_cell? w _ hw170_0)).trans hw170_0), ((HB.out.cell (World.block_lt_of_cell? w _ hw170_1)).trans hw170_1), ((HB.out.cell (World.block_lt_of_cell? w _ hw170_2)).trans hw170_2)⟩ (fun hHeld => ?_)
            clear hK K
            refine norm_ (a' := ?_) ?_ ?_
            rotate_left
            ·show Act.put _ (some 89) _ = _
             simp only [Act.put, List.setIfInBounds_toArray, List.set_cons_zero, List.set_cons_succ, i64_w, i32_w]
             rfl
            refine pure_ (i := 15) (N := some 90) (v := ?_) (a' := ?_) #[true, true, true, true, true, true, true, true, true, true, true, true, true, true, true, true, false, false] rfl rfl (any_of HT_.out (by kernel_rfl)) (fun _ _ _ h => h) (Or.inl ⟨by rfl, ?_⟩) ?_ ?_
            rotate_left
            ·intro w'
             go_simp
             with_reducible rfl
            rotate_left
            ·simp only [Act.put, List.setIfInBounds_toArray, List.set_cons_zero, List.set_cons_succ, i64_w, i32_w]
             rfl
            refine pure_ (i := 16) (N := some 91) (v := ?_) (a' := ?_) #[true, true, true, true, true, true, true, true, true, true, true, true, true, true, true, true, true, false] rfl rfl (any_of HT_.out (by kernel_rfl)) (fun _ _ _ h => h) (Or.inl ⟨by rfl, ?_⟩) ?_ ?_
            rotate_left
            ·intro w'
             go_simp
             with_reducible rfl
            rotate_left
            ·simp only [Act.put, List.setIfInBounds_toArray, List.set_cons_zero, List.set_cons_succ, i64_w, i32_w]
             rfl
            refine last_ (i := 17) (N := none) #[true, true, true, true, true, true, true, true, true, true, true, true, true, true, true, true, true, true] rfl rfl (one_of HT_.out (by kernel_rfl)) (by decide) (fun K hK => ?_)
            have hs82 : w80.cell? ⟨gb166, 0, none⟩ = some (.slice Ao31 t163.length co31) := (bkC BK166.out 0).trans rfl
            have hfs82 := bkF BK166.out 0
            have hns82_0 := NB156_166.out
            have hns82_1 := NB157_166.out
            have hms82_0 := NB166_156.out
            have hms82_1 := NB166_157.out
            refine skip_ (w1 := ?_) (by rfl) rfl ?_ ?_
            rotate_left
            ·go_simp
             rfl
            refine hK.out _ _ ?_
            clear hK K
            refine done_ (done_of HT_.out (by kernel_rfl)) ?_
            have hcz83_0 : w80.cell? ⟨gb166, 0, none⟩ = some (.slice Ao31 t163.length co31) := (bkC BK166.out 0).trans rfl
            have hcz83_1 : w80.cell? ⟨gb166, 1, none⟩ = some (.int .i64 (l0_0.length : Int)) := (bkC BK166.out 1).trans rfl
            have hfz83_0 := bkF BK166.out 0
            have hfz83_1 := bkF BK166.out 1
            have hcz84_0 : w80.cell? ⟨gb157, 0, none⟩ = some (.slice none 0 0) := (bkC BK157.out 0).trans rfl
            have hcz84_1 : w80.cell? ⟨gb157, 1, none⟩ = some (.int .i64 x158001_2) := (bkC BK157.out 1).trans rfl
            have hfz84_0 := bkF BK157.out 0
            have hfz84_1 := bkF BK157.out 1
            try go_wp2
            refine bodyPost_ret (results_cell_row rfl _ _ gb157 64 #[.slice Ao81 y171.length co81, .int .i64 (l0_0.length : Int)] (0, 0) _ rfl (by (with_reducible repeat (first | refine bkN ?_ _ | refine bkD ?_ | refine bkA ?_ _)); refine blk_put (cs := #[.slice Ao81 y171.length co81, .int .i64 x158001_2]) ?_ 1 _ rfl; (with_reducible repeat (first | refine bkN ?_ _ | refine bkD ?_ | refine bkA ?_ _)); refine blk_put (cs := #[.slice none 0 0, .int .i64 x158001_2]) ?_ 0 _ rfl; (with_reducible repeat (first | refine bkN ?_ _ | refine bkD ?_ | refine bkA ?_ _)); refine blk_far ?_ NB157_166.out _; (with_reducible repeat (first | refine bkN ?_ _ | refine bkD ?_ | refine bkA ?_ _)); exact BK157.out) Try.underlying64 rfl (by kernel_rfl)) rfl ?_
            exact ⟨_, by first | rfl | (simp [errW_none, errW_some] <;> rfl) | (simp [*, errW_none, errW_some] <;> rfl), by (with_reducible repeat (first | apply Kd.R_alloc | apply Kd.R_drewN | apply Kd.R_drew)); exact Kd.R_mono (Kd.R_far (p := ⟨gb157, 1, none⟩) (Kd.R_far (p := ⟨gb157, 0, none⟩) (Kd.R_far (p := ⟨gb166, 0, none⟩) (Kd.R_types (Kd.R_types HO173.out BK166.out (by decide)) BK157.out (by decide)) (fun _ hk => hk.1.2) (.slice Ao81 y171.length co81)) (fun _ hk => hk.2) (.slice Ao81 y171.length co81)) (fun _ hk => hk.2) (.int .i64 (l0_0.length : Int))) (fun _ hk => trivial), by repeat (first | (with_reducible first | exact HB.out | apply bal | apply pdN | apply bdr | refine bst ?_ GE156.out | refine bst ?_ GE157.out | refine bst ?_ GE166.out) | exact HB.out)⟩
           ·rw [if_neg c72] at H
            exact absurd H (by simp)
          ·rw [if_neg c71] at H
           have c71b0 : decide ((l0_0.length : Int) < 200) = false := decide_eq_false c71
           have c71b1 : decide (l0_0.length < 200) = false := decide_eq_false (by omega)
           clear c71
           simp only [Option.some.injEq, Prod.mk.injEq] at H
           obtain ⟨rfl, rfl⟩ := H
           have hnb85 := NB156_157.out
           have hnc85 := NB157_156.out
           have hnb86 := NB156_166.out
           have hnc86 := NB166_156.out
           have hcz87_0 : wr.cell? ⟨gb156, 0, none⟩ = some (.slice A0_0 l0_0.length c0_0) := (bkC BK156.out 0).trans rfl
           have hfz87_0 := bkF BK156.out 0
           have p169 : 0 ≤ (a1 : Int) := of_decide_eq_true (by first | (with_reducible assumption) | assumption)
           have q169 : a1 < (l0_0.length : Int) := of_decide_eq_true (by first | (with_reducible assumption) | assumption)
           obtain ⟨ad169, e169, hx169_0, hx169_1, hx169_2⟩ := at_T75 HR0_0.out a1 p169 q169
           cases e169
           replace hx169_0 := (HB.out.cell (World.block_lt_of_cell? w _ hx169_0)).trans hx169_0
           replace hx169_1 := (HB.out.cell (World.block_lt_of_cell? w _ hx169_1)).trans hx169_1
           replace hx169_2 := (HB.out.cell (World.block_lt_of_cell? w _ hx169_2)).trans hx169_2
           replace p169 := eq_true p169
           replace q169 := eq_true q169
           have hnb88 := NB166_157.out
           have hnc88 := NB157_166.out
           have hcz89_0 : wr.cell? ⟨gb166, 0, none⟩ = some (.slice Ao31 t163.length co31) := (bkC BK166.out 0).trans rfl
           have hcz89_1 : wr.cell? ⟨gb166, 1, none⟩ = some (.int .i64 x167001_2) := (bkC BK166.out 1).trans rfl
           have hfz89_0 := bkF BK166.out 0
           have hfz89_1 := bkF BK166.out 1
           have hcz90_0 : wr.cell? ⟨gb157, 0, none⟩ = some (.slice none 0 0) := (bkC BK157.out 0).trans rfl
           have hcz90_1 : wr.cell? ⟨gb157, 1, none⟩ = some (.int .i64 x158001_2) := (bkC BK157.out 1).trans rfl
           have hfz90_0 := bkF BK157.out 0
           have hfz90_1 := bkF BK157.out 1
           go_wp2
           refine bodyPost_ret (results_cell_row rfl _ _ gb157 64 #[.slice Ao31 t163.length co31, .int .i64 x167001_2] (0, 0) _ rfl (by (with_reducible repeat (first | refine bkN ?_ _ | refine bkD ?_ | refine bkA ?_ _)); refine blk_put (cs := #[.slice Ao31 t163.length co31, .int .i64 x158001_2]) ?_ 1 _ rfl; (with_reducible repeat (first | refine bkN ?_ _ | refine bkD ?_ | refine bkA ?_ _)); refine blk_put (cs := #[.slice none 0 0, .int .i64 x158001_2]) ?_ 0 _ rfl; (with_reducible repeat (first | refine bkN ?_ _ | refine bkD ?_ | refine bkA ?_ _)); exact BK157.out) Try.underlying64 rfl (by kernel_rfl)) rfl ?_
           exact ⟨_, by first | rfl | (simp [errW_none, errW_some] <;> rfl) | (simp [*, errW_none, errW_some] <;> rfl), by (with_reducible repeat (first | apply Kd.R_alloc | apply Kd.R_drewN | apply Kd.R_drew)); exact Kd.R_mono (Kd.R_far (p := ⟨gb157, 1, none⟩) (Kd.R_far (p := ⟨gb157, 0, none⟩) (Kd.R_types HO_167000.out BK157.out (by decide)) (fun _ hk => hk.2) (.slice Ao31 t163.length co31)) (fun _ hk => hk.2) (.int .i64 x167001_2)) (fun _ hk => trivial), by repeat (first | (with_reducible first | exact HB.out | apply bal | apply pdN | apply bdr | refine bst ?_ GE156.out | refine bst ?_ GE157.out | refine bst ?_ GE166.out) | exact HB.out)⟩
         ·rw [if_neg c70] at H
          have c70b0 : decide (((rd_T75 l0_0 a1).f2) < 12) = false := decide_eq_false c70
          clear c70
          simp only [Option.some.injEq, Prod.mk.injEq] at H
          obtain ⟨rfl, rfl⟩ := H
          have hnb91 := NB156_157.out
          have hnc91 := NB157_156.out
          have hnb92 := NB156_166.out
          have hnc92 := NB166_156.out
          have hcz93_0 : wr.cell? ⟨gb156, 0, none⟩ = some (.slice A0_0 l0_0.length c0_0) := (bkC BK156.out 0).trans rfl
          have hfz93_0 := bkF BK156.out 0
          have p169 : 0 ≤ (a1 : Int) := of_decide_eq_true (by first | (with_reducible assumption) | assumption)
          have q169 : a1 < (l0_0.length : Int) := of_decide_eq_true (by first | (with_reducible assumption) | assumption)
          obtain ⟨ad169, e169, hx169_0, hx169_1, hx169_2⟩ := at_T75 HR0_0.out a1 p169 q169
          cases e169
          replace hx169_0 := (HB.out.cell (World.block_lt_of_cell? w _ hx169_0)).trans hx169_0
          replace hx169_1 := (HB.out.cell (World.block_lt_of_cell? w _ hx169_1)).trans hx169_1
          replace hx169_2 := (HB.out.cell (World.block_lt_of_cell? w _ hx169_2)).trans hx169_2
          replace p169 := eq_true p169
          replace q169 := eq_true q169
          have hnb94 := NB166_157.out
          have hnc94 := NB157_166.out
          have hcz95_0 : wr.cell? ⟨gb166, 0, none⟩ = some (.slice Ao31 t163.length co31) := (bkC BK166.out 0).trans rfl
          have hcz95_1 : wr.cell? ⟨gb166, 1, none⟩ = some (.int .i64 x167001_2) := (bkC BK166.out 1).trans rfl
          have hfz95_0 := bkF BK166.out 0
          have hfz95_1 := bkF BK166.out 1
          have hcz96_0 : wr.cell? ⟨gb157, 0, none⟩ = some (.slice none 0 0) := (bkC BK157.out 0).trans rfl
          have hcz96_1 : wr.cell? ⟨gb157, 1, none⟩ = some (.int .i64 x158001_2) := (bkC BK157.out 1).trans rfl
          have hfz96_0 := bkF BK157.out 0
          have hfz96_1 := bkF BK157.out 1
          go_wp2
          refine bodyPost_ret (results_cell_row rfl _ _ gb157 64 #[.slice Ao31 t163.length co31, .int .i64 x167001_2] (0, 0) _ rfl (by (with_reducible repeat (first | refine bkN ?_ _ | refine bkD ?_ | refine bkA ?_ _)); refine blk_put (cs := #[.slice Ao31 t163.length co31, .int .i64 x158001_2]) ?_ 1 _ rfl; (with_reducible repeat (first | refine bkN ?_ _ | refine bkD ?_ | refine bkA ?_ _)); refine blk_put (cs := #[.slice none 0 0, .int .i64 x158001_2]) ?_ 0 _ rfl; (with_reducible repeat (first | refine bkN ?_ _ | refine bkD ?_ | refine bkA ?_ _)); exact BK157.out) Try.underlying64 rfl (by kernel_rfl)) rfl ?_
          exact ⟨_, by first | rfl | (simp [errW_none, errW_some] <;> rfl) | (simp [*, errW_none, errW_some] <;> rfl), by (with_reducible repeat (first | apply Kd.R_alloc | apply Kd.R_drewN | apply Kd.R_drew)); exact Kd.R_mono (Kd.R_far (p := ⟨gb157, 1, none⟩) (Kd.R_far (p := ⟨gb157, 0, none⟩) (Kd.R_types HO_167000.out BK157.out (by decide)) (fun _ hk => hk.2) (.slice Ao31 t163.length co31)) (fun _ hk => hk.2) (.int .i64 x167001_2)) (fun _ hk => trivial), by repeat (first | (with_reducible first | exact HB.out | apply bal | apply pdN | apply bdr | refine bst ?_ GE156.out | refine bst ?_ GE157.out | refine bst ?_ GE166.out) | exact HB.out)⟩
        ·rw [if_neg c69] at H
         exact absurd H (by simp)
       ·rw [if_neg c68] at H
        exact absurd H (by simp)

end Go.Proofs.Ytclploookcjcbaa.PGro
