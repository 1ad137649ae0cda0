/- Proved: each Go function that is named below comes to the answers of the Lean function printed for it. Printed by a changed copy of the kit's print program (wip/mkpk.py), for this claim. -/
import Derived.Test.YtclploookcjcbaaPGrox0
namespace Go.Proofs.Ytclploookcjcbaa.PGro
open Go.RowKit Go.Proofs.YtclploookcjcbaaW.PrintWords Go.Proofs.YtclploookcjcbaaW.PrintLast Go.Proofs.YtclploookcjcbaaW.PrintMore
attribute [local go_sem] max2_int min2_int max_two min_two max_three min_three max_four min_four   -- for this text's walks alone
set_option linter.unusedVariables false
set_option linter.unusedSimpArgs false

/-! ### spec_ForestOk: function 22 -/
mutual
def spec_ForestOk.j0 : Nat → Int → Bool → List (S75) → Option (Int)
 | 0, _, _, _ => none
 | k + 1, x3, x19, x175000 => if x19 = true then (some 1) else (if 0 < (x175000.length : Int) then (if ((rd_T75 x175000 0).f0) = (-1) then (if ((rd_T75 x175000 0).f1).toList = ([] : List UInt8) then (spec_ForestOk.j1 k x3 (((rd_T75 x175000 0).f2) != 0) x175000) else (spec_ForestOk.j1 k x3 true x175000)) else (spec_ForestOk.j1 k x3 true x175000)) else (none))
def spec_ForestOk.j1 : Nat → Int → Bool → List (S75) → Option (Int)
 | 0, _, _, _ => none
 | k + 1, x3, x36, x175000 => if x36 = true then (some 2) else (spec_ForestOk.l0 k x3 1 x175000)
def spec_ForestOk.l0 : Nat → Int → Int → List (S75) → Option (Int)
 | 0, _, _, _ => none
 | k + 1, x3, x5, x175000 => if x5 < x3 then (if 0 ≤ x5 then (if x5 < (x175000.length : Int) then (if ((rd_T75 x175000 x5).f0) < 0 then (some 3) else (if ((rd_T75 x175000 x5).f0) ≥ x5 then (some 3) else (if 0 ≤ ((rd_T75 x175000 x5).f0) then (if ((rd_T75 x175000 x5).f0) < (x175000.length : Int) then (if ((rd_T75 x175000 x5).f2) = (wrap64 (((rd_T75 x175000 ((rd_T75 x175000 x5).f0)).f2) + 1)) then (if ((rd_T75 x175000 x5).f2) > 12 then (some 3) else (if (((rd_T75 x175000 x5).f1).size : Int) > 4000 then (some 3) else (spec_ForestOk.l0 k x3 (wrap64 (x5 + 1)) x175000))) else (some 3)) else (none)) else (none)))) else (none)) else (none)) else (spec_ForestOk.l1 k x3 1 x175000)
def spec_ForestOk.l1 : Nat → Int → Int → List (S75) → Option (Int)
 | 0, _, _, _ => none
 | k + 1, x3, x7, x175000 => if x7 < x3 then (spec_ForestOk.l2 k x3 x7 1 x175000) else (spec_ForestOk.l3 k x3 1 x175000)
def spec_ForestOk.l2 : Nat → Int → Int → Int → List (S75) → Option (Int)
 | 0, _, _, _, _ => none
 | k + 1, x3, x7, x8, x175000 => if x8 < x7 then (if 0 ≤ x8 then (if x8 < (x175000.length : Int) then (if 0 ≤ x7 then (if x7 < (x175000.length : Int) then (if ((rd_T75 x175000 x8).f0) = ((rd_T75 x175000 x7).f0) then (if ((rd_T75 x175000 x8).f1).toList = ((rd_T75 x175000 x7).f1).toList then (some 4) else (spec_ForestOk.l2 k x3 x7 (wrap64 (x8 + 1)) x175000)) else (spec_ForestOk.l2 k x3 x7 (wrap64 (x8 + 1)) x175000)) else (none)) else (none)) else (none)) else (none)) else (spec_ForestOk.l1 k x3 (wrap64 (x7 + 1)) x175000)
def spec_ForestOk.l3 : Nat → Int → Int → List (S75) → Option (Int)
 | 0, _, _, _ => none
 | k + 1, x3, x9, x175000 => if x9 < x3 then (if 0 ≤ x9 then (if x9 < (x175000.length : Int) then (spec_ForestOk.l4 k x3 x9 ((rd_T75 x175000 x9).f0) x175000) else (none)) else (none)) else (some 0)
def spec_ForestOk.l4 : Nat → Int → Int → Int → List (S75) → Option (Int)
 | 0, _, _, _, _ => none
 | k + 1, x3, x9, x10, x175000 => if x10 > 0 then (if 0 ≤ x10 then (if x10 < (x175000.length : Int) then (if 0 ≤ x9 then (if x9 < (x175000.length : Int) then (if ((rd_T75 x175000 x10).f1).toList = ((rd_T75 x175000 x9).f1).toList then (some 5) else (spec_ForestOk.l4 k x3 x9 ((rd_T75 x175000 x10).f0) x175000)) else (none)) else (none)) else (none)) else (none)) else (spec_ForestOk.l3 k x3 (wrap64 (x9 + 1)) x175000)
end
def spec_ForestOk.f (k : Nat) (l0_0 : List (S75)) : Option (Int) := if (l0_0.length : Int) = 0 then (spec_ForestOk.j0 k (l0_0.length : Int) true l0_0) else (spec_ForestOk.j0 k (l0_0.length : Int) (decide ((l0_0.length : Int) > 200)) l0_0)
theorem spec_ForestOk.mono_l : ∀ k, (∀ y0 y1 y2, LeO (spec_ForestOk.j0 k y0 y1 y2) (spec_ForestOk.j0 (k + 1) y0 y1 y2)) ∧ (∀ y0 y1 y2, LeO (spec_ForestOk.j1 k y0 y1 y2) (spec_ForestOk.j1 (k + 1) y0 y1 y2)) ∧ (∀ y0 y1 y2, LeO (spec_ForestOk.l0 k y0 y1 y2) (spec_ForestOk.l0 (k + 1) y0 y1 y2)) ∧ (∀ y0 y1 y2, LeO (spec_ForestOk.l1 k y0 y1 y2) (spec_ForestOk.l1 (k + 1) y0 y1 y2)) ∧ (∀ y0 y1 y2 y3, LeO (spec_ForestOk.l2 k y0 y1 y2 y3) (spec_ForestOk.l2 (k + 1) y0 y1 y2 y3)) ∧ (∀ y0 y1 y2, LeO (spec_ForestOk.l3 k y0 y1 y2) (spec_ForestOk.l3 (k + 1) y0 y1 y2)) ∧ (∀ y0 y1 y2 y3, LeO (spec_ForestOk.l4 k y0 y1 y2 y3) (spec_ForestOk.l4 (k + 1) y0 y1 y2 y3))
 | 0 => ⟨fun _ _ _ r h => by simp [spec_ForestOk.j0] at h, fun _ _ _ r h => by simp [spec_ForestOk.j1] at h, fun _ _ _ r h => by simp [spec_ForestOk.l0] at h, fun _ _ _ r h => by simp [spec_ForestOk.l1] at h, fun _ _ _ _ r h => by simp [spec_ForestOk.l2] at h, fun _ _ _ r h => by simp [spec_ForestOk.l3] at h, fun _ _ _ _ r h => by simp [spec_ForestOk.l4] at h⟩
 | k + 1 => by
  obtain ⟨ih0, ih1, ih2, ih3, ih4, ih5, ih6⟩ := spec_ForestOk.mono_l k
  refine ⟨?_, ?_, ?_, ?_, ?_, ?_, ?_⟩
  ·intro y0 y1 y2
   unfold spec_ForestOk.j0
   repeat' first
   | (with_reducible exact ih0 _ _ _)
   | (with_reducible exact ih1 _ _ _)
   | (with_reducible exact ih2 _ _ _)
   | (with_reducible exact ih3 _ _ _)
   | (with_reducible exact ih4 _ _ _ _)
   | (with_reducible exact ih5 _ _ _)
   | (with_reducible exact ih6 _ _ _ _)
   | (with_reducible exact LeO.refl _)
   | (with_reducible exact LeO.none _)
   | (with_reducible refine LeO.ite ?_ ?_)
   | (with_reducible refine LeO.bind ?_ (fun _ => ?_))
   | exact ih0 _ _ _
   | exact ih1 _ _ _
   | exact ih2 _ _ _
   | exact ih3 _ _ _
   | exact ih4 _ _ _ _
   | exact ih5 _ _ _
   | exact ih6 _ _ _ _
   | exact LeO.none _
   | refine LeO.ite ?_ ?_
   | refine LeO.bind ?_ (fun _ => ?_)
  ·intro y0 y1 y2
   unfold spec_ForestOk.j1
   repeat' first
   | (with_reducible exact ih0 _ _ _)
   | (with_reducible exact ih1 _ _ _)
   | (with_reducible exact ih2 _ _ _)
   | (with_reducible exact ih3 _ _ _)
   | (with_reducible exact ih4 _ _ _ _)
   | (with_reducible exact ih5 _ _ _)
   | (with_reducible exact ih6 _ _ _ _)
   | (with_reducible exact LeO.refl _)
   | (with_reducible exact LeO.none _)
   | (with_reducible refine LeO.ite ?_ ?_)
   | (with_reducible refine LeO.bind ?_ (fun _ => ?_))
   | exact ih0 _ _ _
   | exact ih1 _ _ _
   | exact ih2 _ _ _
   | exact ih3 _ _ _
   | exact ih4 _ _ _ _
   | exact ih5 _ _ _
   | exact ih6 _ _ _ _
   | exact LeO.none _
   | refine LeO.ite ?_ ?_
   | refine LeO.bind ?_ (fun _ => ?_)
  ·intro y0 y1 y2
   unfold spec_ForestOk.l0
   repeat' first
   | (with_reducible exact ih0 _ _ _)
   | (with_reducible exact ih1 _ _ _)
   | (with_reducible exact ih2 _ _ _)
   | (with_reducible exact ih3 _ _ _)
   | (with_reducible exact ih4 _ _ _ _)
   | (with_reducible exact ih5 _ _ _)
   | (with_reducible exact ih6 _ _ _ _)
   | (with_reducible exact LeO.refl _)
   | (with_reducible exact LeO.none _)
   | (with_reducible refine LeO.ite ?_ ?_)
   | (with_reducible refine LeO.bind ?_ (fun _ => ?_))
   | exact ih0 _ _ _
   | exact ih1 _ _ _
   | exact ih2 _ _ _
   | exact ih3 _ _ _
   | exact ih4 _ _ _ _
   | exact ih5 _ _ _
   | exact ih6 _ _ _ _
   | exact LeO.none _
   | refine LeO.ite ?_ ?_
   | refine LeO.bind ?_ (fun _ => ?_)
  ·intro y0 y1 y2
   unfold spec_ForestOk.l1
   repeat' first
   | (with_reducible exact ih0 _ _ _)
   | (with_reducible exact ih1 _ _ _)
   | (with_reducible exact ih2 _ _ _)
   | (with_reducible exact ih3 _ _ _)
   | (with_reducible exact ih4 _ _ _ _)
   | (with_reducible exact ih5 _ _ _)
   | (with_reducible exact ih6 _ _ _ _)
   | (with_reducible exact LeO.refl _)
   | (with_reducible exact LeO.none _)
   | (with_reducible refine LeO.ite ?_ ?_)
   | (with_reducible refine LeO.bind ?_ (fun _ => ?_))
   | exact ih0 _ _ _
   | exact ih1 _ _ _
   | exact ih2 _ _ _
   | exact ih3 _ _ _
   | exact ih4 _ _ _ _
   | exact ih5 _ _ _
   | exact ih6 _ _ _ _
   | exact LeO.none _
   | refine LeO.ite ?_ ?_
   | refine LeO.bind ?_ (fun _ => ?_)
  ·intro y0 y1 y2 y3
   unfold spec_ForestOk.l2
   repeat' first
   | (with_reducible exact ih0 _ _ _)
   | (with_reducible exact ih1 _ _ _)
   | (with_reducible exact ih2 _ _ _)
   | (with_reducible exact ih3 _ _ _)
   | (with_reducible exact ih4 _ _ _ _)
   | (with_reducible exact ih5 _ _ _)
   | (with_reducible exact ih6 _ _ _ _)
   | (with_reducible exact LeO.refl _)
   | (with_reducible exact LeO.none _)
   | (with_reducible refine LeO.ite ?_ ?_)
   | (with_reducible refine LeO.bind ?_ (fun _ => ?_))
   | exact ih0 _ _ _
   | exact ih1 _ _ _
   | exact ih2 _ _ _
   | exact ih3 _ _ _
   | exact ih4 _ _ _ _
   | exact ih5 _ _ _
   | exact ih6 _ _ _ _
   | exact LeO.none _
   | refine LeO.ite ?_ ?_
   | refine LeO.bind ?_ (fun _ => ?_)
  ·intro y0 y1 y2
   unfold spec_ForestOk.l3
   repeat' first
   | (with_reducible exact ih0 _ _ _)
   | (with_reducible exact ih1 _ _ _)
   | (with_reducible exact ih2 _ _ _)
   | (with_reducible exact ih3 _ _ _)
   | (with_reducible exact ih4 _ _ _ _)
   | (with_reducible exact ih5 _ _ _)
   | (with_reducible exact ih6 _ _ _ _)
   | (with_reducible exact LeO.refl _)
   | (with_reducible exact LeO.none _)
   | (with_reducible refine LeO.ite ?_ ?_)
   | (with_reducible refine LeO.bind ?_ (fun _ => ?_))
   | exact ih0 _ _ _
   | exact ih1 _ _ _
   | exact ih2 _ _ _
   | exact ih3 _ _ _
   | exact ih4 _ _ _ _
   | exact ih5 _ _ _
   | exact ih6 _ _ _ _
   | exact LeO.none _
   | refine LeO.ite ?_ ?_
   | refine LeO.bind ?_ (fun _ => ?_)
  ·intro y0 y1 y2 y3
   unfold spec_ForestOk.l4
   repeat' first
   | (with_reducible exact ih0 _ _ _)
   | (with_reducible exact ih1 _ _ _)
   | (with_reducible exact ih2 _ _ _)
   | (with_reducible exact ih3 _ _ _)
   | (with_reducible exact ih4 _ _ _ _)
   | (with_reducible exact ih5 _ _ _)
   | (with_reducible exact ih6 _ _ _ _)
   | (with_reducible exact LeO.refl _)
   | (with_reducible exact LeO.none _)
   | (with_reducible refine LeO.ite ?_ ?_)
   | (with_reducible refine LeO.bind ?_ (fun _ => ?_))
   | exact ih0 _ _ _
   | exact ih1 _ _ _
   | exact ih2 _ _ _
   | exact ih3 _ _ _
   | exact ih4 _ _ _ _
   | exact ih5 _ _ _
   | exact ih6 _ _ _ _
   | exact LeO.none _
   | refine LeO.ite ?_ ?_
   | refine LeO.bind ?_ (fun _ => ?_)
theorem spec_ForestOk.mono : ∀ a0 k, LeO (spec_ForestOk.f k a0) (spec_ForestOk.f (k + 1) a0) := by
 intro a0 k
 obtain ⟨ih0, ih1, ih2, ih3, ih4, ih5, ih6⟩ := spec_ForestOk.mono_l k
 unfold spec_ForestOk.f
 repeat' first
   | (with_reducible exact ih0 _ _ _)
   | (with_reducible exact ih1 _ _ _)
   | (with_reducible exact ih2 _ _ _)
   | (with_reducible exact ih3 _ _ _)
   | (with_reducible exact ih4 _ _ _ _)
   | (with_reducible exact ih5 _ _ _)
   | (with_reducible exact ih6 _ _ _ _)
   | (with_reducible exact LeO.refl _)
   | (with_reducible exact LeO.none _)
   | (with_reducible refine LeO.ite ?_ ?_)
   | (with_reducible refine LeO.bind ?_ (fun _ => ?_))
   | exact ih0 _ _ _
   | exact ih1 _ _ _
   | exact ih2 _ _ _
   | exact ih3 _ _ _
   | exact ih4 _ _ _ _
   | exact ih5 _ _ _
   | exact ih6 _ _ _ _
   | exact LeO.none _
   | refine LeO.ite ?_ ?_
   | refine LeO.bind ?_ (fun _ => ?_)
set_option maxHeartbeats 8000000 in
set_option maxRecDepth 100000 in
theorem spec_ForestOk.calls (k : Nat) (A0_0 : Option Addr) (c0_0 : Nat) (l0_0 : List (S75)) (r : Int) (w : World) (hr0_0 : Kd.C k75 w A0_0 l0_0.length l0_0) (hc0_0 : l0_0.length ≤ c0_0) (h : spec_ForestOk.f k l0_0 = some r) :
  Calls Try.prog 22 #[.agg #[.slice A0_0 l0_0.length c0_0]] w fun e w' => e = .returned (.int .i64 r) ∧ Below w.heap.size w w' := by
 have hu36 := Try.underlying36
 have hu75 := Try.underlying75
 have HR0_0 := A0_.mk hr0_0
 have HC0_0 := A0_.mk hc0_0
 clear hr0_0 hc0_0
 have HB := A0_.mk (Below.refl w.heap.size w)
 have H : (if (l0_0.length : Int) = 0 then (spec_ForestOk.j0 k (l0_0.length : Int) true l0_0) else (spec_ForestOk.j0 k (l0_0.length : Int) (decide ((l0_0.length : Int) > 200)) l0_0)) = some r := h
 clear h
 have HC2 := A0_.mk H
 clear H
 go_enter Try.func22, Try.ntmps22
 go_upto_region 2 with (first | ((with_reducible refine gate_dst (N := 1) rfl ?_); (try (refine gate_guard (by rfl) ?_; dsimp only)); refine box_event ?hg (N := 1) ?hd (cs := #[.slice A0_0 l0_0.length c0_0]) (t := 36) ?hr ?_; (case hd => rfl); (case hg => rfl); (case hr => first | (go_simp; done) | (go_simp; rfl)); intro gb174 hg w3 hbox hb; have n0_ := A0_.mk (below_step (by repeat (first | (with_reducible first | exact HB.out | apply bal | apply pdN | apply bdr) | exact HB.out)) hb); have n1_ := A0_.mk (hbox); have n2_ := A0_.mk ((by rw [hg]; exact (below_size (by repeat (first | (with_reducible first | exact HB.out | apply bal | apply pdN | apply bdr) | exact HB.out))) : w.heap.size ≤ gb174)); have n3_ := A0_.mk ((by rw [hg]; exact (below_size (by repeat (first | (with_reducible first | exact HB.out | apply bal | apply pdN | apply bdr) | exact HB.out))) : w.heap.size ≤ gb174)); clear HB; have HB := n0_; have BK174 := n1_; have GW174 := n2_; have GE174 := n3_; clear n0_ n1_ n2_ n3_; clear hb hbox hg; have hcz4_0 : w3.cell? ⟨gb174, 0, none⟩ = some (.slice A0_0 l0_0.length c0_0) := (bkC BK174.out 0).trans rfl; have hfz4_0 := bkF BK174.out 0))
 repeat (go_quiet (first | ((with_reducible refine gate_dst (N := 1) rfl ?_); (try (refine gate_guard (by rfl) ?_; dsimp only)); refine box_event ?hg (N := 1) ?hd (cs := #[.slice A0_0 l0_0.length c0_0]) (t := 36) ?hr ?_; (case hd => rfl); (case hg => rfl); (case hr => first | (go_simp; done) | (go_simp; rfl)); intro gb174 hg w3 hbox hb; have n0_ := A0_.mk (below_step (by repeat (first | (with_reducible first | exact HB.out | apply bal | apply pdN | apply bdr) | exact HB.out)) hb); have n1_ := A0_.mk (hbox); have n2_ := A0_.mk ((by rw [hg]; exact (below_size (by repeat (first | (with_reducible first | exact HB.out | apply bal | apply pdN | apply bdr) | exact HB.out))) : w.heap.size ≤ gb174)); have n3_ := A0_.mk ((by rw [hg]; exact (below_size (by repeat (first | (with_reducible first | exact HB.out | apply bal | apply pdN | apply bdr) | exact HB.out))) : w.heap.size ≤ gb174)); clear HB; have HB := n0_; have BK174 := n1_; have GW174 := n2_; have GE174 := n3_; clear n0_ n1_ n2_ n3_; clear hb hbox hg; have hcz4_0 : w3.cell? ⟨gb174, 0, none⟩ = some (.slice A0_0 l0_0.length c0_0) := (bkC BK174.out 0).trans rfl; have hfz4_0 := bkF BK174.out 0)); go_upto_region 2 with (first | ((with_reducible refine gate_dst (N := 1) rfl ?_); (try (refine gate_guard (by rfl) ?_; dsimp only)); refine box_event ?hg (N := 1) ?hd (cs := #[.slice A0_0 l0_0.length c0_0]) (t := 36) ?hr ?_; (case hd => rfl); (case hg => rfl); (case hr => first | (go_simp; done) | (go_simp; rfl)); intro gb174 hg w3 hbox hb; have n0_ := A0_.mk (below_step (by repeat (first | (with_reducible first | exact HB.out | apply bal | apply pdN | apply bdr) | exact HB.out)) hb); have n1_ := A0_.mk (hbox); have n2_ := A0_.mk ((by rw [hg]; exact (below_size (by repeat (first | (with_reducible first | exact HB.out | apply bal | apply pdN | apply bdr) | exact HB.out))) : w.heap.size ≤ gb174)); have n3_ := A0_.mk ((by rw [hg]; exact (below_size (by repeat (first | (with_reducible first | exact HB.out | apply bal | apply pdN | apply bdr) | exact HB.out))) : w.heap.size ≤ gb174)); clear HB; have HB := n0_; have BK174 := n1_; have GW174 := n2_; have GE174 := n3_; clear n0_ n1_ n2_ n3_; clear hb hbox hg; have hcz4_0 : w3.cell? ⟨gb174, 0, none⟩ = some (.slice A0_0 l0_0.length c0_0) := (bkC BK174.out 0).trans rfl; have hfz4_0 := bkF BK174.out 0)))
 (try simp only [Act.put, List.setIfInBounds_toArray, List.set_cons_zero, List.set_cons_succ])
 go_cut [19] (fun v19 wc => ∃ (kq : Nat) (x19_1 : Bool), v19 = .bool x19_1 ∧ A0_ (spec_ForestOk.j0 kq (l0_0.length : Int) x19_1 l0_0 = some r) ∧ A0_ (kq ≤ k) ∧ A0_ (wc.heap[gb174]? = some (.cells #[(.slice A0_0 l0_0.length c0_0)] 36 (0, 0))) ∧ A0_ (Below w.heap.size w wc))
 case first =>
  have H := HC2.out
  clear HC2
  by_cases c5 : (l0_0.length : Int) = 0
  ·rw [if_pos c5] at H
   have c5b0 : ((l0_0.length : Int) == 0) = true := beq_iff_eq.mpr c5
   have c5b1 : ((l0_0.length : Int) != 0) = false := bne_eq_false_iff_eq.mpr c5
   clear c5
   (first | rw [c5b0] | (simp only [i64_w, i32_w]; rw [c5b0]) | skip)
   have H' := A0_.mk H
   clear H
   go_wp2
   repeat (go_quiet (fail); try go_wp2)
   go_meet
   case rel => exact ⟨_, (true), (by first | rfl | (simp; done) | (simp [*]; done)), H', ⟨by first | omega | exact Nat.le_refl _⟩, ⟨by (with_reducible repeat (first | refine bkN ?_ _ | refine bkD ?_ | refine bkA ?_ _)); exact BK174.out⟩, ⟨by repeat (first | (with_reducible first | exact HB.out | apply bal | apply pdN | apply bdr | refine bst ?_ GE174.out) | exact HB.out)⟩⟩
  ·rw [if_neg c5] at H
   have c5b0 : ((l0_0.length : Int) == 0) = false := beq_eq_false_iff_ne.mpr c5
   have c5b1 : ((l0_0.length : Int) != 0) = true := bne_iff_ne.mpr c5
   have c5b2 : ¬ (l0_0 = []) := fun h_ => c5 (by rw [h_]; rfl)
   (first | rw [c5b0] | (simp only [i64_w, i32_w]; rw [c5b0]) | skip)
   have H' := A0_.mk H
   clear H
   go_wp2
   repeat (go_quiet (fail); try go_wp2)
   go_meet
   case rel => exact ⟨_, (decide ((l0_0.length : Int) > 200)), (by first | rfl | (simp; done) | (simp [*]; done)), H', ⟨by first | omega | exact Nat.le_refl _⟩, ⟨by (with_reducible repeat (first | refine bkN ?_ _ | refine bkD ?_ | refine bkA ?_ _)); exact BK174.out⟩, ⟨by repeat (first | (with_reducible first | exact HB.out | apply bal | apply pdN | apply bdr | refine bst ?_ GE174.out) | exact HB.out)⟩⟩
 case rest =>
  clear HC2
  try clear c2
  try clear p2
  try clear c5
  try clear c5b0
  try clear c5b1
  try clear c5b2
  try clear hcz4_0
  try clear hfz4_0
  obtain ⟨kq, x19_1, rfl, HA, HJ1, BK174, HB⟩ := hcut
  cases kq with
  | zero => exact absurd HA.out (by simp [spec_ForestOk.j0])
  | succ kj1 =>
   have H := HA.out
   clear HA
   simp only [spec_ForestOk.j0] at H
   by_cases c6 : x19_1 = true
   ·subst c6
    have H1 : (some 1) = some r := by rw [if_pos rfl] at H; exact H
    clear H
    have H := H1
    clear H1
    obtain rfl := Option.some.inj H
    go_wp2
    repeat (go_quiet (fail); try go_wp2)
    go_ret
    exact ⟨by first | rfl | (simp [errW_none, errW_some] <;> rfl) | (simp [*, errW_none, errW_some] <;> rfl), by repeat (first | (with_reducible first | exact HB.out | apply bal | apply pdN | apply bdr | refine bst ?_ GE174.out) | exact HB.out)⟩
   ·replace c6 := Bool.eq_false_iff.mpr c6
    subst c6
    have H1 : (if 0 < (l0_0.length : Int) then (if ((rd_T75 l0_0 0).f0) = (-1) then (if ((rd_T75 l0_0 0).f1).toList = ([] : List UInt8) then (spec_ForestOk.j1 kj1 (l0_0.length : Int) (((rd_T75 l0_0 0).f2) != 0) l0_0) else (spec_ForestOk.j1 kj1 (l0_0.length : Int) true l0_0)) else (spec_ForestOk.j1 kj1 (l0_0.length : Int) true l0_0)) else (none)) = some r := by rw [if_neg (show ¬ (false = true) by decide)] at H; exact H
    clear H
    have H := H1
    clear H1
    by_cases c7 : 0 < (l0_0.length : Int)
    ·rw [if_pos c7] at H
     have c7b0 : decide (0 < (l0_0.length : Int)) = true := decide_eq_true c7
     have c7b1 : decide (0 < l0_0.length) = true := decide_eq_true (by omega)
     clear c7
     have HC8 := A0_.mk H
     clear H
     have hcz9_0 : wc.cell? ⟨gb174, 0, none⟩ = some (.slice A0_0 l0_0.length c0_0) := (bkC BK174.out 0).trans rfl
     have hfz9_0 := bkF BK174.out 0
     have p175 : 0 ≤ (0 : Int) := (by omega)
     have q175 : 0 < (l0_0.length : Int) := of_decide_eq_true (by first | (with_reducible assumption) | assumption)
     obtain ⟨ad175, e175, hx175_0, hx175_1, hx175_2⟩ := at_T75 HR0_0.out 0 p175 q175
     cases e175
     have qi175 : (0 < l0_0.length) = True := eq_true (by omega)
     (try rw [show ((0 : Int)).toNat = 0 from rfl] at hx175_0)
     (try rw [show 0 * 3 = 0 from rfl] at hx175_0)
     (try rw [Addr.add_zero'] at hx175_0)
     (try rw [show ((0 : Int)).toNat = 0 from rfl] at hx175_1)
     (try rw [show 0 * 3 = 0 from rfl] at hx175_1)
     (try rw [Addr.add_zero'] at hx175_1)
     (try rw [show ((0 : Int)).toNat = 0 from rfl] at hx175_2)
     (try rw [show 0 * 3 = 0 from rfl] at hx175_2)
     (try rw [Addr.add_zero'] at hx175_2)
     replace hx175_0 := (HB.out.cell (World.block_lt_of_cell? w _ hx175_0)).trans hx175_0
     replace hx175_1 := (HB.out.cell (World.block_lt_of_cell? w _ hx175_1)).trans hx175_1
     replace hx175_2 := (HB.out.cell (World.block_lt_of_cell? w _ hx175_2)).trans hx175_2
     replace p175 := eq_true p175
     replace q175 := eq_true q175
     go_upto_region 5 with (first | ((with_reducible refine gate_dst (N := 4) rfl ?_); (try (refine gate_guard (by rfl) ?_; dsimp only)); refine box_event ?hg (N := 4) ?hd (cs := #[.int .i64 0, .string (⟨#[]⟩ : ByteArray), .int .i64 0]) (t := 75) ?hr ?_; (case hd => rfl); (case hg => rfl); (case hr => first | (go_simp; done) | (go_simp; rfl)); intro gb176 hg w10 hbox hb; have n0_ := A0_.mk (blk_below (g := gb174) (o := .cells #[.slice (some ad175) l0_0.length c0_0] 36 (0, 0)) (by (with_reducible repeat (first | refine bkN ?_ _ | refine bkD ?_ | refine bkA ?_ _)); exact BK174.out) hb); have n1_ := A0_.mk (below_step (by repeat (first | (with_reducible first | exact HB.out | apply bal | apply pdN | apply bdr | refine bst ?_ GE174.out) | exact HB.out)) hb); have n2_ := A0_.mk (hbox); have n3_ := A0_.mk ((by rw [hg]; exact (below_size (by repeat (first | (with_reducible first | exact HB.out | apply bal | apply pdN | apply bdr | refine bst ?_ GE174.out) | exact HB.out))) : w.heap.size ≤ gb176)); have n4_ := A0_.mk ((by rw [hg]; exact (below_size (by repeat (first | (with_reducible first | exact HB.out | apply bal | apply pdN | apply bdr | refine bst ?_ GE174.out) | exact HB.out))) : w.heap.size ≤ gb176)); have n5_ := A0_.mk ((by rw [hg]; exact Nat.ne_of_lt (blk_lt (g := gb174) (o := .cells #[.slice (some ad175) l0_0.length c0_0] 36 (0, 0)) (by (with_reducible repeat (first | refine bkN ?_ _ | refine bkD ?_ | refine bkA ?_ _)); exact BK174.out)) : gb174 ≠ gb176)); have n6_ := A0_.mk ((by rw [hg]; exact Nat.ne_of_gt (blk_lt (g := gb174) (o := .cells #[.slice (some ad175) l0_0.length c0_0] 36 (0, 0)) (by (with_reducible repeat (first | refine bkN ?_ _ | refine bkD ?_ | refine bkA ?_ _)); exact BK174.out)) : gb176 ≠ gb174)); clear BK174; clear HB; have BK174 := n0_; have HB := n1_; have BK176 := n2_; have GW176 := n3_; have GE176 := n4_; have NB174_176 := n5_; have NB176_174 := n6_; clear n0_ n1_ n2_ n3_ n4_ n5_ n6_; clear hb hbox hg; have hnb11 := NB176_174.out; have hnc11 := NB174_176.out; have hcz12_0 : w10.cell? ⟨gb176, 0, none⟩ = some (.int .i64 0) := (bkC BK176.out 0).trans rfl; have hcz12_1 : w10.cell? ⟨gb176, 1, none⟩ = some (.string (⟨#[]⟩ : ByteArray)) := (bkC BK176.out 1).trans rfl; have hcz12_2 : w10.cell? ⟨gb176, 2, none⟩ = some (.int .i64 0) := (bkC BK176.out 2).trans rfl; have hfz12_0 := bkF BK176.out 0; have hfz12_1 := bkF BK176.out 1; have hfz12_2 := bkF BK176.out 2))
     repeat (go_quiet (first | ((with_reducible refine gate_dst (N := 4) rfl ?_); (try (refine gate_guard (by rfl) ?_; dsimp only)); refine box_event ?hg (N := 4) ?hd (cs := #[.int .i64 0, .string (⟨#[]⟩ : ByteArray), .int .i64 0]) (t := 75) ?hr ?_; (case hd => rfl); (case hg => rfl); (case hr => first | (go_simp; done) | (go_simp; rfl)); intro gb176 hg w10 hbox hb; have n0_ := A0_.mk (blk_below (g := gb174) (o := .cells #[.slice (some ad175) l0_0.length c0_0] 36 (0, 0)) (by (with_reducible repeat (first | refine bkN ?_ _ | refine bkD ?_ | refine bkA ?_ _)); exact BK174.out) hb); have n1_ := A0_.mk (below_step (by repeat (first | (with_reducible first | exact HB.out | apply bal | apply pdN | apply bdr | refine bst ?_ GE174.out) | exact HB.out)) hb); have n2_ := A0_.mk (hbox); have n3_ := A0_.mk ((by rw [hg]; exact (below_size (by repeat (first | (with_reducible first | exact HB.out | apply bal | apply pdN | apply bdr | refine bst ?_ GE174.out) | exact HB.out))) : w.heap.size ≤ gb176)); have n4_ := A0_.mk ((by rw [hg]; exact (below_size (by repeat (first | (with_reducible first | exact HB.out | apply bal | apply pdN | apply bdr | refine bst ?_ GE174.out) | exact HB.out))) : w.heap.size ≤ gb176)); have n5_ := A0_.mk ((by rw [hg]; exact Nat.ne_of_lt (blk_lt (g := gb174) (o := .cells #[.slice (some ad175) l0_0.length c0_0] 36 (0, 0)) (by (with_reducible repeat (first | refine bkN ?_ _ | refine bkD ?_ | refine bkA ?_ _)); exact BK174.out)) : gb174 ≠ gb176)); have n6_ := A0_.mk ((by rw [hg]; exact Nat.ne_of_gt (blk_lt (g := gb174) (o := .cells #[.slice (some ad175) l0_0.length c0_0] 36 (0, 0)) (by (with_reducible repeat (first | refine bkN ?_ _ | refine bkD ?_ | refine bkA ?_ _)); exact BK174.out)) : gb176 ≠ gb174)); clear BK174; clear HB; have BK174 := n0_; have HB := n1_; have BK176 := n2_; have GW176 := n3_; have GE176 := n4_; have NB174_176 := n5_; have NB176_174 := n6_; clear n0_ n1_ n2_ n3_ n4_ n5_ n6_; clear hb hbox hg; have hnb11 := NB176_174.out; have hnc11 := NB174_176.out; have hcz12_0 : w10.cell? ⟨gb176, 0, none⟩ = some (.int .i64 0) := (bkC BK176.out 0).trans rfl; have hcz12_1 : w10.cell? ⟨gb176, 1, none⟩ = some (.string (⟨#[]⟩ : ByteArray)) := (bkC BK176.out 1).trans rfl; have hcz12_2 : w10.cell? ⟨gb176, 2, none⟩ = some (.int .i64 0) := (bkC BK176.out 2).trans rfl; have hfz12_0 := bkF BK176.out 0; have hfz12_1 := bkF BK176.out 1; have hfz12_2 := bkF BK176.out 2)); go_upto_region 5 with (first | ((with_reducible refine gate_dst (N := 4) rfl ?_); (try (refine gate_guard (by rfl) ?_; dsimp only)); refine box_event ?hg (N := 4) ?hd (cs := #[.int .i64 0, .string (⟨#[]⟩ : ByteArray), .int .i64 0]) (t := 75) ?hr ?_; (case hd => rfl); (case hg => rfl); (case hr => first | (go_simp; done) | (go_simp; rfl)); intro gb176 hg w10 hbox hb; have n0_ := A0_.mk (blk_below (g := gb174) (o := .cells #[.slice (some ad175) l0_0.length c0_0] 36 (0, 0)) (by (with_reducible repeat (first | refine bkN ?_ _ | refine bkD ?_ | refine bkA ?_ _)); exact BK174.out) hb); have n1_ := A0_.mk (below_step (by repeat (first | (with_reducible first | exact HB.out | apply bal | apply pdN | apply bdr | refine bst ?_ GE174.out) | exact HB.out)) hb); have n2_ := A0_.mk (hbox); have n3_ := A0_.mk ((by rw [hg]; exact (below_size (by repeat (first | (with_reducible first | exact HB.out | apply bal | apply pdN | apply bdr | refine bst ?_ GE174.out) | exact HB.out))) : w.heap.size ≤ gb176)); have n4_ := A0_.mk ((by rw [hg]; exact (below_size (by repeat (first | (with_reducible first | exact HB.out | apply bal | apply pdN | apply bdr | refine bst ?_ GE174.out) | exact HB.out))) : w.heap.size ≤ gb176)); have n5_ := A0_.mk ((by rw [hg]; exact Nat.ne_of_lt (blk_lt (g := gb174) (o := .cells #[.slice (some ad175) l0_0.length c0_0] 36 (0, 0)) (by (with_reducible repeat (first | refine bkN ?_ _ | refine bkD ?_ | refine bkA ?_ _)); exact BK174.out)) : gb174 ≠ gb176)); have n6_ := A0_.mk ((by rw [hg]; exact Nat.ne_of_gt (blk_lt (g := gb174) (o := .cells #[.slice (some ad175) l0_0.length c0_0] 36 (0, 0)) (by (with_reducible repeat (first | refine bkN ?_ _ | refine bkD ?_ | refine bkA ?_ _)); exact BK174.out)) : gb176 ≠ gb174)); clear BK174; clear HB; have BK174 := n0_; have HB := n1_; have BK176 := n2_; have GW176 := n3_; have GE176 := n4_; have NB174_176 := n5_; have NB176_174 := n6_; clear n0_ n1_ n2_ n3_ n4_ n5_ n6_; clear hb hbox hg; have hnb11 := NB176_174.out; have hnc11 := NB174_176.out; have hcz12_0 : w10.cell? ⟨gb176, 0, none⟩ = some (.int .i64 0) := (bkC BK176.out 0).trans rfl; have hcz12_1 : w10.cell? ⟨gb176, 1, none⟩ = some (.string (⟨#[]⟩ : ByteArray)) := (bkC BK176.out 1).trans rfl; have hcz12_2 : w10.cell? ⟨gb176, 2, none⟩ = some (.int .i64 0) := (bkC BK176.out 2).trans rfl; have hfz12_0 := bkF BK176.out 0; have hfz12_1 := bkF BK176.out 1; have hfz12_2 := bkF BK176.out 2)))
     (try simp only [Act.put, List.setIfInBounds_toArray, List.set_cons_zero, List.set_cons_succ])
     go_cut [36] (fun v36 wc => ∃ (kq : Nat) (x36_7 : Bool), v36 = .bool x36_7 ∧ A0_ (spec_ForestOk.j1 kq (l0_0.length : Int) x36_7 l0_0 = some r) ∧ A0_ (kq ≤ kj1) ∧ A0_ (wc.heap[gb174]? = some (.cells #[(.slice (some ad175) l0_0.length c0_0)] 36 (0, 0))) ∧ A0_ (wc.heap[gb176]? = some (.cells #[.int .i64 ((rd_T75 l0_0 0).f0), .string ((rd_T75 l0_0 0).f1), .int .i64 ((rd_T75 l0_0 0).f2)] 75 (0, 0))) ∧ A0_ (Below w.heap.size w wc))
     case first =>
      have H := HC8.out
      clear HC8
      by_cases c13 : ((rd_T75 l0_0 0).f0) = (-1)
      ·rw [if_pos c13] at H
       have c13b0 : (((rd_T75 l0_0 0).f0) == (-1)) = true := beq_iff_eq.mpr c13
       have c13b1 : (((rd_T75 l0_0 0).f0) != (-1)) = false := bne_eq_false_iff_eq.mpr c13
       clear c13
       (first | rw [c13b0] | (simp only [i64_w, i32_w]; rw [c13b0]) | skip)
       by_cases c14 : ((rd_T75 l0_0 0).f1).toList = ([] : List UInt8)
       ·rw [if_pos c14] at H
        have c14b0 : (((rd_T75 l0_0 0).f1).toList == ([] : List UInt8)) = true := beq_iff_eq.mpr c14
        have c14b1 : (((rd_T75 l0_0 0).f1).toList != ([] : List UInt8)) = false := bne_eq_false_iff_eq.mpr c14
        clear c14
        have H' := A0_.mk H
        clear H
        have hnb15 := NB176_174.out
        have hnc15 := NB174_176.out
        have hcz16_0 : w10.cell? ⟨gb176, 0, none⟩ = some (.int .i64 0) := (bkC BK176.out 0).trans rfl
        have hcz16_1 : w10.cell? ⟨gb176, 1, none⟩ = some (.string (⟨#[]⟩ : ByteArray)) := (bkC BK176.out 1).trans rfl
        have hcz16_2 : w10.cell? ⟨gb176, 2, none⟩ = some (.int .i64 0) := (bkC BK176.out 2).trans rfl
        have hfz16_0 := bkF BK176.out 0
        have hfz16_1 := bkF BK176.out 1
        have hfz16_2 := bkF BK176.out 2
        go_wp2
        repeat (go_quiet (fail); try go_wp2)
        go_meet
        case rel => exact ⟨_, ((((rd_T75 l0_0 0).f2) != 0)), (by first | rfl | (simp; done) | (simp [*]; done)), H', ⟨by have := HJ1.out; first | omega | exact Nat.le_refl _⟩, ⟨by (with_reducible repeat (first | refine bkN ?_ _ | refine bkD ?_ | refine bkA ?_ _)); refine blk_far ?_ NB174_176.out _; (with_reducible repeat (first | refine bkN ?_ _ | refine bkD ?_ | refine bkA ?_ _)); refine blk_far ?_ NB174_176.out _; (with_reducible repeat (first | refine bkN ?_ _ | refine bkD ?_ | refine bkA ?_ _)); refine blk_far ?_ NB174_176.out _; (with_reducible repeat (first | refine bkN ?_ _ | refine bkD ?_ | refine bkA ?_ _)); exact BK174.out⟩, ⟨by (with_reducible repeat (first | refine bkN ?_ _ | refine bkD ?_ | refine bkA ?_ _)); refine blk_put (cs := #[.int .i64 ((rd_T75 l0_0 0).f0), .string ((rd_T75 l0_0 0).f1), .int .i64 0]) ?_ 2 _ rfl; (with_reducible repeat (first | refine bkN ?_ _ | refine bkD ?_ | refine bkA ?_ _)); refine blk_put (cs := #[.int .i64 ((rd_T75 l0_0 0).f0), .string (⟨#[]⟩ : ByteArray), .int .i64 0]) ?_ 1 _ rfl; (with_reducible repeat (first | refine bkN ?_ _ | refine bkD ?_ | refine bkA ?_ _)); refine blk_put (cs := #[.int .i64 0, .string (⟨#[]⟩ : ByteArray), .int .i64 0]) ?_ 0 _ rfl; (with_reducible repeat (first | refine bkN ?_ _ | refine bkD ?_ | refine bkA ?_ _)); exact BK176.out⟩, ⟨by repeat (first | (with_reducible first | exact HB.out | apply bal | apply pdN | apply bdr | refine bst ?_ GE174.out | refine bst ?_ GE176.out) | exact HB.out)⟩⟩
       ·rw [if_neg c14] at H
        have c14b0 : (((rd_T75 l0_0 0).f1).toList == ([] : List UInt8)) = false := beq_eq_false_iff_ne.mpr c14
        have c14b1 : (((rd_T75 l0_0 0).f1).toList != ([] : List UInt8)) = true := bne_iff_ne.mpr c14
        have H' := A0_.mk H
        clear H
        have hnb17 := NB176_174.out
        have hnc17 := NB174_176.out
        have hcz18_0 : w10.cell? ⟨gb176, 0, none⟩ = some (.int .i64 0) := (bkC BK176.out 0).trans rfl
        have hcz18_1 : w10.cell? ⟨gb176, 1, none⟩ = some (.string (⟨#[]⟩ : ByteArray)) := (bkC BK176.out 1).trans rfl
        have hcz18_2 : w10.cell? ⟨gb176, 2, none⟩ = some (.int .i64 0) := (bkC BK176.out 2).trans rfl
        have hfz18_0 := bkF BK176.out 0
        have hfz18_1 := bkF BK176.out 1
        have hfz18_2 := bkF BK176.out 2
        go_wp2
        repeat (go_quiet (fail); try go_wp2)
        go_meet
        case rel => exact ⟨_, (true), (by first | rfl | (simp; done) | (simp [*]; done)), H', ⟨by have := HJ1.out; first | omega | exact Nat.le_refl _⟩, ⟨by (with_reducible repeat (first | refine bkN ?_ _ | refine bkD ?_ | refine bkA ?_ _)); refine blk_far ?_ NB174_176.out _; (with_reducible repeat (first | refine bkN ?_ _ | refine bkD ?_ | refine bkA ?_ _)); refine blk_far ?_ NB174_176.out _; (with_reducible repeat (first | refine bkN ?_ _ | refine bkD ?_ | refine bkA ?_ _)); refine blk_far ?_ NB174_176.out _; (with_reducible repeat (first | refine bkN ?_ _ | refine bkD ?_ | refine bkA ?_ _)); exact BK174.out⟩, ⟨by (with_reducible repeat (first | refine bkN ?_ _ | refine bkD ?_ | refine bkA ?_ _)); refine blk_put (cs := #[.int .i64 ((rd_T75 l0_0 0).f0), .string ((rd_T75 l0_0 0).f1), .int .i64 0]) ?_ 2 _ rfl; (with_reducible repeat (first | refine bkN ?_ _ | refine bkD ?_ | refine bkA ?_ _)); refine blk_put (cs := #[.int .i64 ((rd_T75 l0_0 0).f0), .string (⟨#[]⟩ : ByteArray), .int .i64 0]) ?_ 1 _ rfl; (with_reducible repeat (first | refine bkN ?_ _ | refine bkD ?_ | refine bkA ?_ _)); refine blk_put (cs := #[.int .i64 0, .string (⟨#[]⟩ : ByteArray), .int .i64 0]) ?_ 0 _ rfl; (with_reducible repeat (first | refine bkN ?_ _ | refine bkD ?_ | refine bkA ?_ _)); exact BK176.out⟩, ⟨by repeat (first | (with_reducible first | exact HB.out | apply bal | apply pdN | apply bdr | refine bst ?_ GE174.out | refine bst ?_ GE176.out) | exact HB.out)⟩⟩
      ·rw [if_neg c13] at H
       have c13b0 : (((rd_T75 l0_0 0).f0) == (-1)) = false := beq_eq_false_iff_ne.mpr c13
       have c13b1 : (((rd_T75 l0_0 0).f0) != (-1)) = true := bne_iff_ne.mpr c13
       (first | rw [c13b0] | (simp only [i64_w, i32_w]; rw [c13b0]) | skip)
       have H' := A0_.mk H
       clear H
       have hnb19 := NB176_174.out
       have hnc19 := NB174_176.out
       have hcz20_0 : w10.cell? ⟨gb176, 0, none⟩ = some (.int .i64 0) := (bkC BK176.out 0).trans rfl
       have hcz20_1 : w10.cell? ⟨gb176, 1, none⟩ = some (.string (⟨#[]⟩ : ByteArray)) := (bkC BK176.out 1).trans rfl
       have hcz20_2 : w10.cell? ⟨gb176, 2, none⟩ = some (.int .i64 0) := (bkC BK176.out 2).trans rfl
       have hfz20_0 := bkF BK176.out 0
       have hfz20_1 := bkF BK176.out 1
       have hfz20_2 := bkF BK176.out 2
       go_wp2
       repeat (go_quiet (fail); try go_wp2)
       go_meet
       case rel => exact ⟨_, (true), (by first | rfl | (simp; done) | (simp [*]; done)), H', ⟨by have := HJ1.out; first | omega | exact Nat.le_refl _⟩, ⟨by (with_reducible repeat (first | refine bkN ?_ _ | refine bkD ?_ | refine bkA ?_ _)); refine blk_far ?_ NB174_176.out _; (with_reducible repeat (first | refine bkN ?_ _ | refine bkD ?_ | refine bkA ?_ _)); refine blk_far ?_ NB174_176.out _; (with_reducible repeat (first | refine bkN ?_ _ | refine bkD ?_ | refine bkA ?_ _)); refine blk_far ?_ NB174_176.out _; (with_reducible repeat (first | refine bkN ?_ _ | refine bkD ?_ | refine bkA ?_ _)); exact BK174.out⟩, ⟨by (with_reducible repeat (first | refine bkN ?_ _ | refine bkD ?_ | refine bkA ?_ _)); refine blk_put (cs := #[.int .i64 ((rd_T75 l0_0 0).f0), .string ((rd_T75 l0_0 0).f1), .int .i64 0]) ?_ 2 _ rfl; (with_reducible repeat (first | refine bkN ?_ _ | refine bkD ?_ | refine bkA ?_ _)); refine blk_put (cs := #[.int .i64 ((rd_T75 l0_0 0).f0), .string (⟨#[]⟩ : ByteArray), .int .i64 0]) ?_ 1 _ rfl; (with_reducible repeat (first | refine bkN ?_ _ | refine bkD ?_ | refine bkA ?_ _)); refine blk_put (cs := #[.int .i64 0, .string (⟨#[]⟩ : ByteArray), .int .i64 0]) ?_ 0 _ rfl; (with_reducible repeat (first | refine bkN ?_ _ | refine bkD ?_ | refine bkA ?_ _)); exact BK176.out⟩, ⟨by repeat (first | (with_reducible first | exact HB.out | apply bal | apply pdN | apply bdr | refine bst ?_ GE174.out | refine bst ?_ GE176.out) | exact HB.out)⟩⟩
     case rest =>
      clear HC8
      try clear c1
      try clear p1
      try clear q1
      try clear hx1
      try clear qi1
      try clear c2
      try clear p2
      try clear c5
      try clear c5b0
      try clear c5b1
      try clear c5b2
      try clear c6
      try clear c7
      try clear c7b0
      try clear c7b1
      try clear c11
      try clear c13
      try clear c13b0
      try clear c13b1
      try clear c14
      try clear c14b0
      try clear c14b1
      try clear c15
      try clear c17
      try clear p17
      try clear q17
      try clear hx17
      try clear qi17
      try clear c19
      try clear hcz12_0
      try clear hcz12_1
      try clear hcz12_2
      try clear hcz16_0
      try clear hcz16_1
      try clear hcz16_2
      try clear hcz18_0
      try clear hcz18_1
      try clear hcz18_2
      try clear hcz20_0
      try clear hcz20_1
      try clear hcz20_2
      try clear hcz4_0
      try clear hcz9_0
      try clear hfz12_0
      try clear hfz12_1
      try clear hfz12_2
      try clear hfz16_0
      try clear hfz16_1
      try clear hfz16_2
      try clear hfz18_0
      try clear hfz18_1
      try clear hfz18_2
      try clear hfz20_0
      try clear hfz20_1
      try clear hfz20_2
      try clear hfz4_0
      try clear hfz9_0
      try clear hx175_0
      try clear hx175_1
      try clear hx175_2
      try clear p175
      try clear p2
      try clear q175
      obtain ⟨kq, x36_7, rfl, HA, HJ7, BK174, BK176, HB⟩ := hcut
      cases kq with
      | zero => exact absurd HA.out (by simp [spec_ForestOk.j1])
      | succ kj7 =>
       have H := HA.out
       clear HA
       simp only [spec_ForestOk.j1] at H
       by_cases c21 : x36_7 = true
       ·subst c21
        have H1 : (some 2) = some r := by rw [if_pos rfl] at H; exact H
        clear H
        have H := H1
        clear H1
        obtain rfl := Option.some.inj H
        go_wp2
        repeat (go_quiet (fail); try go_wp2)
        go_ret
        exact ⟨by first | rfl | (simp [errW_none, errW_some] <;> rfl) | (simp [*, errW_none, errW_some] <;> rfl), by repeat (first | (with_reducible first | exact HB.out | apply bal | apply pdN | apply bdr | refine bst ?_ GE174.out | refine bst ?_ GE176.out) | exact HB.out)⟩
       ·replace c21 := Bool.eq_false_iff.mpr c21
        subst c21
        have H1 : (spec_ForestOk.l0 kj7 (l0_0.length : Int) 1 l0_0) = some r := by rw [if_neg (show ¬ (false = true) by decide)] at H; exact H
        clear H
        have H := H1
        clear H1
        have H' := A0_.mk H
        clear H
        go_wp2
        repeat (go_quiet (fail); try go_wp2)
        go_loopg [5] kj7 (fun kq v5 w' => ∃ (x5_3 : Int), v5 = .int .i64 x5_3 ∧ A0_ (spec_ForestOk.l0 kq (l0_0.length : Int) x5_3 l0_0 = some r) ∧ A0_ (kq ≤ kj7) ∧ A0_ (w'.heap[gb174]? = some (.cells #[(.slice (some ad175) l0_0.length c0_0)] 36 (0, 0))) ∧ A0_ (w'.heap[gb176]? = some (.cells #[.int .i64 ((rd_T75 l0_0 0).f0), .string ((rd_T75 l0_0 0).f1), .int .i64 ((rd_T75 l0_0 0).f2)] 75 (0, 0))) ∧ A0_ (Below w.heap.size w w'))
        case atStart => exact ⟨(1), (by first | rfl | (simp; done) | (simp [*]; done)), H', ⟨Nat.le_refl _⟩, ⟨by (with_reducible repeat (first | refine bkN ?_ _ | refine bkD ?_ | refine bkA ?_ _)); exact BK174.out⟩, ⟨by (with_reducible repeat (first | refine bkN ?_ _ | refine bkD ?_ | refine bkA ?_ _)); exact BK176.out⟩, ⟨by repeat (first | (with_reducible first | exact HB.out | apply bal | apply pdN | apply bdr | refine bst ?_ GE174.out | refine bst ?_ GE176.out) | exact HB.out)⟩⟩
        case round =>
         clear H'
         try clear c1
         try clear p1
         try clear q1
         try clear hx1
         try clear qi1
         try clear c2
         try clear p2
         try clear c5
         try clear c5b0
         try clear c5b1
         try clear c5b2
         try clear c6
         try clear c7
         try clear c7b0
         try clear c7b1
         try clear c11
         try clear c13
         try clear c13b0
         try clear c13b1
         try clear c14
         try clear c14b0
         try clear c14b1
         try clear c15
         try clear c17
         try clear p17
         try clear q17
         try clear hx17
         try clear qi17
         try clear c19
         try clear c21
         try clear hcz12_0
         try clear hcz12_1
         try clear hcz12_2
         try clear hcz16_0
         try clear hcz16_1
         try clear hcz16_2
         try clear hcz18_0
         try clear hcz18_1
         try clear hcz18_2
         try clear hcz20_0
         try clear hcz20_1
         try clear hcz20_2
         try clear hcz4_0
         try clear hcz9_0
         try clear hfz12_0
         try clear hfz12_1
         try clear hfz12_2
         try clear hfz16_0
         try clear hfz16_1
         try clear hfz16_2
         try clear hfz18_0
         try clear hfz18_1
         try clear hfz18_2
         try clear hfz20_0
         try clear hfz20_1
         try clear hfz20_2
         try clear hfz4_0
         try clear hfz9_0
         try clear hx175_0
         try clear hx175_1
         try clear hx175_2
         try clear p1
         try clear p17
         try clear p175
         try clear p2
         try clear q1
         try clear q17
         try clear q175
         obtain ⟨x5_3, rfl, HA, HK3, BK174, BK176, HB⟩ := hrel
         cases gk with
         | zero => exact absurd HA.out (by simp [spec_ForestOk.l0])
         | succ k3 =>
          have H := HA.out
          clear HA
          simp only [spec_ForestOk.l0] at H
          by_cases c22 : x5_3 < (l0_0.length : Int)
          ·rw [if_pos c22] at H
           have c22b0 : decide (x5_3 < (l0_0.length : Int)) = true := decide_eq_true c22
           clear c22
           by_cases c23 : 0 ≤ x5_3
           ·rw [if_pos c23] at H
            have c23b0 : decide (0 ≤ x5_3) = true := decide_eq_true c23
            clear c23
            by_cases c24 : x5_3 < (l0_0.length : Int)
            ·rw [if_pos c24] at H
             have c24b0 : decide (x5_3 < (l0_0.length : Int)) = true := decide_eq_true c24
             clear c24
             by_cases c25 : ((rd_T75 l0_0 x5_3).f0) < 0
             ·rw [if_pos c25] at H
              have c25b0 : decide (((rd_T75 l0_0 x5_3).f0) < 0) = true := decide_eq_true c25
              clear c25
              obtain rfl := Option.some.inj H
              have hnb26 := NB174_176.out
              have hnc26 := NB176_174.out
              have hcz27_0 : wr.cell? ⟨gb174, 0, none⟩ = some (.slice (some ad175) l0_0.length c0_0) := (bkC BK174.out 0).trans rfl
              have hfz27_0 := bkF BK174.out 0
              have p177 : 0 ≤ (x5_3 : Int) := of_decide_eq_true (by first | (with_reducible assumption) | assumption)
              have q177 : x5_3 < (l0_0.length : Int) := of_decide_eq_true (by first | (with_reducible assumption) | assumption)
              obtain ⟨ad177, e177, hx177_0, hx177_1, hx177_2⟩ := at_T75 HR0_0.out x5_3 p177 q177
              obtain rfl : ad175 = ad177 := (by injection e177)
              replace hx177_0 := (HB.out.cell (World.block_lt_of_cell? w _ hx177_0)).trans hx177_0
              replace hx177_1 := (HB.out.cell (World.block_lt_of_cell? w _ hx177_1)).trans hx177_1
              replace hx177_2 := (HB.out.cell (World.block_lt_of_cell? w _ hx177_2)).trans hx177_2
              replace p177 := eq_true p177
              replace q177 := eq_true q177
              go_wp2_with (first | ((with_reducible refine gate_dst (N := 6) rfl ?_); (try (refine gate_guard (by rfl) ?_; dsimp only)); refine box_event ?hg (N := 6) ?hd (cs := #[.int .i64 0, .string (⟨#[]⟩ : ByteArray), .int .i64 0]) (t := 75) ?hr ?_; (case hd => rfl); (case hg => rfl); (case hr => first | (go_simp; done) | (go_simp; rfl)); intro gb178 hg w28 hbox hb; have n0_ := A0_.mk (blk_below (g := gb174) (o := .cells #[.slice (some ad175) l0_0.length c0_0] 36 (0, 0)) (by (with_reducible repeat (first | refine bkN ?_ _ | refine bkD ?_ | refine bkA ?_ _)); exact BK174.out) hb); have n1_ := A0_.mk (blk_below (g := gb176) (o := .cells #[.int .i64 ((rd_T75 l0_0 0).f0), .string ((rd_T75 l0_0 0).f1), .int .i64 ((rd_T75 l0_0 0).f2)] 75 (0, 0)) (by (with_reducible repeat (first | refine bkN ?_ _ | refine bkD ?_ | refine bkA ?_ _)); exact BK176.out) hb); have n2_ := A0_.mk (below_step (by repeat (first | (with_reducible first | exact HB.out | apply bal | apply pdN | apply bdr | refine bst ?_ GE174.out | refine bst ?_ GE176.out) | exact HB.out)) hb); have n3_ := A0_.mk (hbox); have n4_ := A0_.mk ((by rw [hg]; exact (below_size (by repeat (first | (with_reducible first | exact HB.out | apply bal | apply pdN | apply bdr | refine bst ?_ GE174.out | refine bst ?_ GE176.out) | exact HB.out))) : w.heap.size ≤ gb178)); have n5_ := A0_.mk ((by rw [hg]; exact (below_size (by repeat (first | (with_reducible first | exact HB.out | apply bal | apply pdN | apply bdr | refine bst ?_ GE174.out | refine bst ?_ GE176.out) | exact HB.out))) : w.heap.size ≤ gb178)); have n6_ := A0_.mk ((by rw [hg]; exact Nat.ne_of_lt (blk_lt (g := gb174) (o := .cells #[.slice (some ad175) l0_0.length c0_0] 36 (0, 0)) (by (with_reducible repeat (first | refine bkN ?_ _ | refine bkD ?_ | refine bkA ?_ _)); exact BK174.out)) : gb174 ≠ gb178)); have n7_ := A0_.mk ((by rw [hg]; exact Nat.ne_of_gt (blk_lt (g := gb174) (o := .cells #[.slice (some ad175) l0_0.length c0_0] 36 (0, 0)) (by (with_reducible repeat (first | refine bkN ?_ _ | refine bkD ?_ | refine bkA ?_ _)); exact BK174.out)) : gb178 ≠ gb174)); have n8_ := A0_.mk ((by rw [hg]; exact Nat.ne_of_lt (blk_lt (g := gb176) (o := .cells #[.int .i64 ((rd_T75 l0_0 0).f0), .string ((rd_T75 l0_0 0).f1), .int .i64 ((rd_T75 l0_0 0).f2)] 75 (0, 0)) (by (with_reducible repeat (first | refine bkN ?_ _ | refine bkD ?_ | refine bkA ?_ _)); exact BK176.out)) : gb176 ≠ gb178)); have n9_ := A0_.mk ((by rw [hg]; exact Nat.ne_of_gt (blk_lt (g := gb176) (o := .cells #[.int .i64 ((rd_T75 l0_0 0).f0), .string ((rd_T75 l0_0 0).f1), .int .i64 ((rd_T75 l0_0 0).f2)] 75 (0, 0)) (by (with_reducible repeat (first | refine bkN ?_ _ | refine bkD ?_ | refine bkA ?_ _)); exact BK176.out)) : gb178 ≠ gb176)); clear BK174; clear BK176; clear HB; have BK174 := n0_; have BK176 := n1_; have HB := n2_; have BK178 := n3_; have GW178 := n4_; have GE178 := n5_; have NB174_178 := n6_; have NB178_174 := n7_; have NB176_178 := n8_; have NB178_176 := n9_; clear n0_ n1_ n2_ n3_ n4_ n5_ n6_ n7_ n8_ n9_; clear hb hbox hg; have hnb29 := NB178_174.out; have hnc29 := NB174_178.out; have hnb30 := NB178_176.out; have hnc30 := NB176_178.out; have hcz31_0 : w28.cell? ⟨gb178, 0, none⟩ = some (.int .i64 0) := (bkC BK178.out 0).trans rfl; have hcz31_1 : w28.cell? ⟨gb178, 1, none⟩ = some (.string (⟨#[]⟩ : ByteArray)) := (bkC BK178.out 1).trans rfl; have hcz31_2 : w28.cell? ⟨gb178, 2, none⟩ = some (.int .i64 0) := (bkC BK178.out 2).trans rfl; have hfz31_0 := bkF BK178.out 0; have hfz31_1 := bkF BK178.out 1; have hfz31_2 := bkF BK178.out 2))
              repeat (go_quiet (first | ((with_reducible refine gate_dst (N := 6) rfl ?_); (try (refine gate_guard (by rfl) ?_; dsimp only)); refine box_event ?hg (N := 6) ?hd (cs := #[.int .i64 0, .string (⟨#[]⟩ : ByteArray), .int .i64 0]) (t := 75) ?hr ?_; (case hd => rfl); (case hg => rfl); (case hr => first | (go_simp; done) | (go_simp; rfl)); intro gb178 hg w28 hbox hb; have n0_ := A0_.mk (blk_below (g := gb174) (o := .cells #[.slice (some ad175) l0_0.length c0_0] 36 (0, 0)) (by (with_reducible repeat (first | refine bkN ?_ _ | refine bkD ?_ | refine bkA ?_ _)); exact BK174.out) hb); have n1_ := A0_.mk (blk_below (g := gb176) (o := .cells #[.int .i64 ((rd_T75 l0_0 0).f0), .string ((rd_T75 l0_0 0).f1), .int .i64 ((rd_T75 l0_0 0).f2)] 75 (0, 0)) (by (with_reducible repeat (first | refine bkN ?_ _ | refine bkD ?_ | refine bkA ?_ _)); exact BK176.out) hb); have n2_ := A0_.mk (below_step (by repeat (first | (with_reducible first | exact HB.out | apply bal | apply pdN | apply bdr | refine bst ?_ GE174.out | refine bst ?_ GE176.out) | exact HB.out)) hb); have n3_ := A0_.mk (hbox); have n4_ := A0_.mk ((by rw [hg]; exact (below_size (by repeat (first | (with_reducible first | exact HB.out | apply bal | apply pdN | apply bdr | refine bst ?_ GE174.out | refine bst ?_ GE176.out) | exact HB.out))) : w.heap.size ≤ gb178)); have n5_ := A0_.mk ((by rw [hg]; exact (below_size (by repeat (first | (with_reducible first | exact HB.out | apply bal | apply pdN | apply bdr | refine bst ?_ GE174.out | refine bst ?_ GE176.out) | exact HB.out))) : w.heap.size ≤ gb178)); have n6_ := A0_.mk ((by rw [hg]; exact Nat.ne_of_lt (blk_lt (g := gb174) (o := .cells #[.slice (some ad175) l0_0.length c0_0] 36 (0, 0)) (by (with_reducible repeat (first | refine bkN ?_ _ | refine bkD ?_ | refine bkA ?_ _)); exact BK174.out)) : gb174 ≠ gb178)); have n7_ := A0_.mk ((by rw [hg]; exact Nat.ne_of_gt (blk_lt (g := gb174) (o := .cells #[.slice (some ad175) l0_0.length c0_0] 36 (0, 0)) (by (with_reducible repeat (first | refine bkN ?_ _ | refine bkD ?_ | refine bkA ?_ _)); exact BK174.out)) : gb178 ≠ gb174)); have n8_ := A0_.mk ((by rw [hg]; exact Nat.ne_of_lt (blk_lt (g := gb176) (o := .cells #[.int .i64 ((rd_T75 l0_0 0).f0), .string ((rd_T75 l0_0 0).f1), .int .i64 ((rd_T75 l0_0 0).f2)] 75 (0, 0)) (by (with_reducible repeat (first | refine bkN ?_ _ | refine bkD ?_ | refine bkA ?_ _)); exact BK176.out)) : gb176 ≠ gb178)); have n9_ := A0_.mk ((by rw [hg]; exact Nat.ne_of_gt (blk_lt (g := gb176) (o := .cells #[.int .i64 ((rd_T75 l0_0 0).f0), .string ((rd_T75 l0_0 0).f1), .int .i64 ((rd_T75 l0_0 0).f2)] 75 (0, 0)) (by (with_reducible repeat (first | refine bkN ?_ _ | refine bkD ?_ | refine bkA ?_ _)); exact BK176.out)) : gb178 ≠ gb176)); clear BK174; clear BK176; clear HB; have BK174 := n0_; have BK176 := n1_; have HB := n2_; have BK178 := n3_; have GW178 := n4_; have GE178 := n5_; have NB174_178 := n6_; have NB178_174 := n7_; have NB176_178 := n8_; have NB178_176 := n9_; clear n0_ n1_ n2_ n3_ n4_ n5_ n6_ n7_ n8_ n9_; clear hb hbox hg; have hnb29 := NB178_174.out; have hnc29 := NB174_178.out; have hnb30 := NB178_176.out; have hnc30 := NB176_178.out; have hcz31_0 : w28.cell? ⟨gb178, 0, none⟩ = some (.int .i64 0) := (bkC BK178.out 0).trans rfl; have hcz31_1 : w28.cell? ⟨gb178, 1, none⟩ = some (.string (⟨#[]⟩ : ByteArray)) := (bkC BK178.out 1).trans rfl; have hcz31_2 : w28.cell? ⟨gb178, 2, none⟩ = some (.int .i64 0) := (bkC BK178.out 2).trans rfl; have hfz31_0 := bkF BK178.out 0; have hfz31_1 := bkF BK178.out 1; have hfz31_2 := bkF BK178.out 2)); try go_wp2_with (first | ((with_reducible refine gate_dst (N := 6) rfl ?_); (try (refine gate_guard (by rfl) ?_; dsimp only)); refine box_event ?hg (N := 6) ?hd (cs := #[.int .i64 0, .string (⟨#[]⟩ : ByteArray), .int .i64 0]) (t := 75) ?hr ?_; (case hd => rfl); (case hg => rfl); (case hr => first | (go_simp; done) | (go_simp; rfl)); intro gb178 hg w28 hbox hb; have n0_ := A0_.mk (blk_below (g := gb174) (o := .cells #[.slice (some ad175) l0_0.length c0_0] 36 (0, 0)) (by (with_reducible repeat (first | refine bkN ?_ _ | refine bkD ?_ | refine bkA ?_ _)); exact BK174.out) hb); have n1_ := A0_.mk (blk_below (g := gb176) (o := .cells #[.int .i64 ((rd_T75 l0_0 0).f0), .string ((rd_T75 l0_0 0).f1), .int .i64 ((rd_T75 l0_0 0).f2)] 75 (0, 0)) (by (with_reducible repeat (first | refine bkN ?_ _ | refine bkD ?_ | refine bkA ?_ _)); exact BK176.out) hb); have n2_ := A0_.mk (below_step (by repeat (first | (with_reducible first | exact HB.out | apply bal | apply pdN | apply bdr | refine bst ?_ GE174.out | refine bst ?_ GE176.out) | exact HB.out)) hb); have n3_ := A0_.mk (hbox); have n4_ := A0_.mk ((by rw [hg]; exact (below_size (by repeat (first | (with_reducible first | exact HB.out | apply bal | apply pdN | apply bdr | refine bst ?_ GE174.out | refine bst ?_ GE176.out) | exact HB.out))) : w.heap.size ≤ gb178)); have n5_ := A0_.mk ((by rw [hg]; exact (below_size (by repeat (first | (with_reducible first | exact HB.out | apply bal | apply pdN | apply bdr | refine bst ?_ GE174.out | refine bst ?_ GE176.out) | exact HB.out))) : w.heap.size ≤ gb178)); have n6_ := A0_.mk ((by rw [hg]; exact Nat.ne_of_lt (blk_lt (g := gb174) (o := .cells #[.slice (some ad175) l0_0.length c0_0] 36 (0, 0)) (by (with_reducible repeat (first | refine bkN ?_ _ | refine bkD ?_ | refine bkA ?_ _)); exact BK174.out)) : gb174 ≠ gb178)); have n7_ := A0_.mk ((by rw [hg]; exact Nat.ne_of_gt (blk_lt (g := gb174) (o := .cells #[.slice (some ad175) l0_0.length c0_0] 36 (0, 0)) (by (with_reducible repeat (first | refine bkN ?_ _ | refine bkD ?_ | refine bkA ?_ _)); exact BK174.out)) : gb178 ≠ gb174)); have n8_ := A0_.mk ((by rw [hg]; exact Nat.ne_of_lt (blk_lt (g := gb176) (o := .cells #[.int .i64 ((rd_T75 l0_0 0).f0), .string ((rd_T75 l0_0 0).f1), .int .i64 ((rd_T75 l0_0 0).f2)] 75 (0, 0)) (by (with_reducible repeat (first | refine bkN ?_ _ | refine bkD ?_ | refine bkA ?_ _)); exact BK176.out)) : gb176 ≠ gb178)); have n9_ := A0_.mk ((by rw [hg]; exact Nat.ne_of_gt (blk_lt (g := gb176) (o := .cells #[.int .i64 ((rd_T75 l0_0 0).f0), .string ((rd_T75 l0_0 0).f1), .int .i64 ((rd_T75 l0_0 0).f2)] 75 (0, 0)) (by (with_reducible repeat (first | refine bkN ?_ _ | refine bkD ?_ | refine bkA ?_ _)); exact BK176.out)) : gb178 ≠ gb176)); clear BK174; clear BK176; clear HB; have BK174 := n0_; have BK176 := n1_; have HB := n2_; have BK178 := n3_; have GW178 := n4_; have GE178 := n5_; have NB174_178 := n6_; have NB178_174 := n7_; have NB176_178 := n8_; have NB178_176 := n9_; clear n0_ n1_ n2_ n3_ n4_ n5_ n6_ n7_ n8_ n9_; clear hb hbox hg; have hnb29 := NB178_174.out; have hnc29 := NB174_178.out; have hnb30 := NB178_176.out; have hnc30 := NB176_178.out; have hcz31_0 : w28.cell? ⟨gb178, 0, none⟩ = some (.int .i64 0) := (bkC BK178.out 0).trans rfl; have hcz31_1 : w28.cell? ⟨gb178, 1, none⟩ = some (.string (⟨#[]⟩ : ByteArray)) := (bkC BK178.out 1).trans rfl; have hcz31_2 : w28.cell? ⟨gb178, 2, none⟩ = some (.int .i64 0) := (bkC BK178.out 2).trans rfl; have hfz31_0 := bkF BK178.out 0; have hfz31_1 := bkF BK178.out 1; have hfz31_2 := bkF BK178.out 2)))
              go_ret
              exact ⟨by first | rfl | (simp [errW_none, errW_some] <;> rfl) | (simp [*, errW_none, errW_some] <;> rfl), by repeat (first | (with_reducible first | exact HB.out | apply bal | apply pdN | apply bdr | refine bst ?_ GE174.out | refine bst ?_ GE176.out | refine bst ?_ GE178.out) | exact HB.out)⟩
             ·rw [if_neg c25] at H
              have c25b0 : decide (((rd_T75 l0_0 x5_3).f0) < 0) = false := decide_eq_false c25
              clear c25
              by_cases c32 : ((rd_T75 l0_0 x5_3).f0) ≥ x5_3
              ·rw [if_pos c32] at H
               have c32b0 : decide (x5_3 ≤ ((rd_T75 l0_0 x5_3).f0)) = true := decide_eq_true c32
               clear c32
               obtain rfl := Option.some.inj H
               have hnb33 := NB174_176.out
               have hnc33 := NB176_174.out
               have hcz34_0 : wr.cell? ⟨gb174, 0, none⟩ = some (.slice (some ad175) l0_0.length c0_0) := (bkC BK174.out 0).trans rfl
               have hfz34_0 := bkF BK174.out 0
               have p177 : 0 ≤ (x5_3 : Int) := of_decide_eq_true (by first | (with_reducible assumption) | assumption)
               have q177 : x5_3 < (l0_0.length : Int) := of_decide_eq_true (by first | (with_reducible assumption) | assumption)
               obtain ⟨ad177, e177, hx177_0, hx177_1, hx177_2⟩ := at_T75 HR0_0.out x5_3 p177 q177
               obtain rfl : ad175 = ad177 := (by injection e177)
               replace hx177_0 := (HB.out.cell (World.block_lt_of_cell? w _ hx177_0)).trans hx177_0
               replace hx177_1 := (HB.out.cell (World.block_lt_of_cell? w _ hx177_1)).trans hx177_1
               replace hx177_2 := (HB.out.cell (World.block_lt_of_cell? w _ hx177_2)).trans hx177_2
               replace p177 := eq_true p177
               replace q177 := eq_true q177
               go_wp2_with (first | ((with_reducible refine gate_dst (N := 6) rfl ?_); (try (refine gate_guard (by rfl) ?_; dsimp only)); refine box_event ?hg (N := 6) ?hd (cs := #[.int .i64 0, .string (⟨#[]⟩ : ByteArray), .int .i64 0]) (t := 75) ?hr ?_; (case hd => rfl); (case hg => rfl); (case hr => first | (go_simp; done) | (go_simp; rfl)); intro gb178 hg w35 hbox hb; have n0_ := A0_.mk (blk_below (g := gb174) (o := .cells #[.slice (some ad175) l0_0.length c0_0] 36 (0, 0)) (by (with_reducible repeat (first | refine bkN ?_ _ | refine bkD ?_ | refine bkA ?_ _)); exact BK174.out) hb); have n1_ := A0_.mk (blk_below (g := gb176) (o := .cells #[.int .i64 ((rd_T75 l0_0 0).f0), .string ((rd_T75 l0_0 0).f1), .int .i64 ((rd_T75 l0_0 0).f2)] 75 (0, 0)) (by (with_reducible repeat (first | refine bkN ?_ _ | refine bkD ?_ | refine bkA ?_ _)); exact BK176.out) hb); have n2_ := A0_.mk (below_step (by repeat (first | (with_reducible first | exact HB.out | apply bal | apply pdN | apply bdr | refine bst ?_ GE174.out | refine bst ?_ GE176.out) | exact HB.out)) hb); have n3_ := A0_.mk (hbox); have n4_ := A0_.mk ((by rw [hg]; exact (below_size (by repeat (first | (with_reducible first | exact HB.out | apply bal | apply pdN | apply bdr | refine bst ?_ GE174.out | refine bst ?_ GE176.out) | exact HB.out))) : w.heap.size ≤ gb178)); have n5_ := A0_.mk ((by rw [hg]; exact (below_size (by repeat (first | (with_reducible first | exact HB.out | apply bal | apply pdN | apply bdr | refine bst ?_ GE174.out | refine bst ?_ GE176.out) | exact HB.out))) : w.heap.size ≤ gb178)); have n6_ := A0_.mk ((by rw [hg]; exact Nat.ne_of_lt (blk_lt (g := gb174) (o := .cells #[.slice (some ad175) l0_0.length c0_0] 36 (0, 0)) (by (with_reducible repeat (first | refine bkN ?_ _ | refine bkD ?_ | refine bkA ?_ _)); exact BK174.out)) : gb174 ≠ gb178)); have n7_ := A0_.mk ((by rw [hg]; exact Nat.ne_of_gt (blk_lt (g := gb174) (o := .cells #[.slice (some ad175) l0_0.length c0_0] 36 (0, 0)) (by (with_reducible repeat (first | refine bkN ?_ _ | refine bkD ?_ | refine bkA ?_ _)); exact BK174.out)) : gb178 ≠ gb174)); have n8_ := A0_.mk ((by rw [hg]; exact Nat.ne_of_lt (blk_lt (g := gb176) (o := .cells #[.int .i64 ((rd_T75 l0_0 0).f0), .string ((rd_T75 l0_0 0).f1), .int .i64 ((rd_T75 l0_0 0).f2)] 75 (0, 0)) (by (with_reducible repeat (first | refine bkN ?_ _ | refine bkD ?_ | refine bkA ?_ _)); exact BK176.out)) : gb176 ≠ gb178)); have n9_ := A0_.mk ((by rw [hg]; exact Nat.ne_of_gt (blk_lt (g := gb176) (o := .cells #[.int .i64 ((rd_T75 l0_0 0).f0), .string ((rd_T75 l0_0 0).f1), .int .i64 ((rd_T75 l0_0 0).f2)] 75 (0, 0)) (by (with_reducible repeat (first | refine bkN ?_ _ | refine bkD ?_ | refine bkA ?_ _)); exact BK176.out)) : gb178 ≠ gb176)); clear BK174; clear BK176; clear HB; have BK174 := n0_; have BK176 := n1_; have HB := n2_; have BK178 := n3_; have GW178 := n4_; have GE178 := n5_; have NB174_178 := n6_; have NB178_174 := n7_; have NB176_178 := n8_; have NB178_176 := n9_; clear n0_ n1_ n2_ n3_ n4_ n5_ n6_ n7_ n8_ n9_; clear hb hbox hg; have hnb36 := NB178_174.out; have hnc36 := NB174_178.out; have hnb37 := NB178_176.out; have hnc37 := NB176_178.out; have hcz38_0 : w35.cell? ⟨gb178, 0, none⟩ = some (.int .i64 0) := (bkC BK178.out 0).trans rfl; have hcz38_1 : w35.cell? ⟨gb178, 1, none⟩ = some (.string (⟨#[]⟩ : ByteArray)) := (bkC BK178.out 1).trans rfl; have hcz38_2 : w35.cell? ⟨gb178, 2, none⟩ = some (.int .i64 0) := (bkC BK178.out 2).trans rfl; have hfz38_0 := bkF BK178.out 0; have hfz38_1 := bkF BK178.out 1; have hfz38_2 := bkF BK178.out 2))
               repeat (go_quiet (first | ((with_reducible refine gate_dst (N := 6) rfl ?_); (try (refine gate_guard (by rfl) ?_; dsimp only)); refine box_event ?hg (N := 6) ?hd (cs := #[.int .i64 0, .string (⟨#[]⟩ : ByteArray), .int .i64 0]) (t := 75) ?hr ?_; (case hd => rfl); (case hg => rfl); (case hr => first | (go_simp; done) | (go_simp; rfl)); intro gb178 hg w35 hbox hb; have n0_ := A0_.mk (blk_below (g := gb174) (o := .cells #[.slice (some ad175) l0_0.length c0_0] 36 (0, 0)) (by (with_reducible repeat (first | refine bkN ?_ _ | refine bkD ?_ | refine bkA ?_ _)); exact BK174.out) hb); have n1_ := A0_.mk (blk_below (g := gb176) (o := .cells #[.int .i64 ((rd_T75 l0_0 0).f0), .string ((rd_T75 l0_0 0).f1), .int .i64 ((rd_T75 l0_0 0).f2)] 75 (0, 0)) (by (with_reducible repeat (first | refine bkN ?_ _ | refine bkD ?_ | refine bkA ?_ _)); exact BK176.out) hb); have n2_ := A0_.mk (below_step (by repeat (first | (with_reducible first | exact HB.out | apply bal | apply pdN | apply bdr | refine bst ?_ GE174.out | refine bst ?_ GE176.out) | exact HB.out)) hb); have n3_ := A0_.mk (hbox); have n4_ := A0_.mk ((by rw [hg]; exact (below_size (by repeat (first | (with_reducible first | exact HB.out | apply bal | apply pdN | apply bdr | refine bst ?_ GE174.out | refine bst ?_ GE176.out) | exact HB.out))) : w.heap.size ≤ gb178)); have n5_ := A0_.mk ((by rw [hg]; exact (below_size (by repeat (first | (with_reducible first | exact HB.out | apply bal | apply pdN | apply bdr | refine bst ?_ GE174.out | refine bst ?_ GE176.out) | exact HB.out))) : w.heap.size ≤ gb178)); have n6_ := A0_.mk ((by rw [hg]; exact Nat.ne_of_lt (blk_lt (g := gb174) (o := .cells #[.slice (some ad175) l0_0.length c0_0] 36 (0, 0)) (by (with_reducible repeat (first | refine bkN ?_ _ | refine bkD ?_ | refine bkA ?_ _)); exact BK174.out)) : gb174 ≠ gb178)); have n7_ := A0_.mk ((by rw [hg]; exact Nat.ne_of_gt (blk_lt (g := gb174) (o := .cells #[.slice (some ad175) l0_0.length c0_0] 36 (0, 0)) (by (with_reducible repeat (first | refine bkN ?_ _ | refine bkD ?_ | refine bkA ?_ _)); exact BK174.out)) : gb178 ≠ gb174)); have n8_ := A0_.mk ((by rw [hg]; exact Nat.ne_of_lt (blk_lt (g := gb176) (o := .cells #[.int .i64 ((rd_T75 l0_0 0).f0), .string ((rd_T75 l0_0 0).f1), .int .i64 ((rd_T75 l0_0 0).f2)] 75 (0, 0)) (by (with_reducible repeat (first | refine bkN ?_ _ | refine bkD ?_ | refine bkA ?_ _)); exact BK176.out)) : gb176 ≠ gb178)); have n9_ := A0_.mk ((by rw [hg]; exact Nat.ne_of_gt (blk_lt (g := gb176) (o := .cells #[.int .i64 ((rd_T75 l0_0 0).f0), .string ((rd_T75 l0_0 0).f1), .int .i64 ((rd_T75 l0_0 0).f2)] 75 (0, 0)) (by (with_reducible repeat (first | refine bkN ?_ _ | refine bkD ?_ | refine bkA ?_ _)); exact BK176.out)) : gb178 ≠ gb176)); clear BK174; clear BK176; clear HB; have BK174 := n0_; have BK176 := n1_; have HB := n2_; have BK178 := n3_; have GW178 := n4_; have GE178 := n5_; have NB174_178 := n6_; have NB178_174 := n7_; have NB176_178 := n8_; have NB178_176 := n9_; clear n0_ n1_ n2_ n3_ n4_ n5_ n6_ n7_ n8_ n9_; clear hb hbox hg; have hnb36 := NB178_174.out; have hnc36 := NB174_178.out; have hnb37 := NB178_176.out; have hnc37 := NB176_178.out; have hcz38_0 : w35.cell? ⟨gb178, 0, none⟩ = some (.int .i64 0) := (bkC BK178.out 0).trans rfl; have hcz38_1 : w35.cell? ⟨gb178, 1, none⟩ = some (.string (⟨#[]⟩ : ByteArray)) := (bkC BK178.out 1).trans rfl; have hcz38_2 : w35.cell? ⟨gb178, 2, none⟩ = some (.int .i64 0) := (bkC BK178.out 2).trans rfl; have hfz38_0 := bkF BK178.out 0; have hfz38_1 := bkF BK178.out 1; have hfz38_2 := bkF BK178.out 2)); try go_wp2_with (first | ((with_reducible refine gate_dst (N := 6) rfl ?_); (try (refine gate_guard (by rfl) ?_; dsimp only)); refine box_event ?hg (N := 6) ?hd (cs := #[.int .i64 0, .string (⟨#[]⟩ : ByteArray), .int .i64 0]) (t := 75) ?hr ?_; (case hd => rfl); (case hg => rfl); (case hr => first | (go_simp; done) | (go_simp; rfl)); intro gb178 hg w35 hbox hb; have n0_ := A0_.mk (blk_below (g := gb174) (o := .cells #[.slice (some ad175) l0_0.length c0_0] 36 (0, 0)) (by (with_reducible repeat (first | refine bkN ?_ _ | refine bkD ?_ | refine bkA ?_ _)); exact BK174.out) hb); have n1_ := A0_.mk (blk_below (g := gb176) (o := .cells #[.int .i64 ((rd_T75 l0_0 0).f0), .string ((rd_T75 l0_0 0).f1), .int .i64 ((rd_T75 l0_0 0).f2)] 75 (0, 0)) (by (with_reducible repeat (first | refine bkN ?_ _ | refine bkD ?_ | refine bkA ?_ _)); exact BK176.out) hb); have n2_ := A0_.mk (below_step (by repeat (first | (with_reducible first | exact HB.out | apply bal | apply pdN | apply bdr | refine bst ?_ GE174.out | refine bst ?_ GE176.out) | exact HB.out)) hb); have n3_ := A0_.mk (hbox); have n4_ := A0_.mk ((by rw [hg]; exact (below_size (by repeat (first | (with_reducible first | exact HB.out | apply bal | apply pdN | apply bdr | refine bst ?_ GE174.out | refine bst ?_ GE176.out) | exact HB.out))) : w.heap.size ≤ gb178)); have n5_ := A0_.mk ((by rw [hg]; exact (below_size (by repeat (first | (with_reducible first | exact HB.out | apply bal | apply pdN | apply bdr | refine bst ?_ GE174.out | refine bst ?_ GE176.out) | exact HB.out))) : w.heap.size ≤ gb178)); have n6_ := A0_.mk ((by rw [hg]; exact Nat.ne_of_lt (blk_lt (g := gb174) (o := .cells #[.slice (some ad175) l0_0.length c0_0] 36 (0, 0)) (by (with_reducible repeat (first | refine bkN ?_ _ | refine bkD ?_ | refine bkA ?_ _)); exact BK174.out)) : gb174 ≠ gb178)); have n7_ := A0_.mk ((by rw [hg]; exact Nat.ne_of_gt (blk_lt (g := gb174) (o := .cells #[.slice (some ad175) l0_0.length c0_0] 36 (0, 0)) (by (with_reducible repeat (first | refine bkN ?_ _ | refine bkD ?_ | refine bkA ?_ _)); exact BK174.out)) : gb178 ≠ gb174)); have n8_ := A0_.mk ((by rw [hg]; exact Nat.ne_of_lt (blk_lt (g := gb176) (o := .cells #[.int .i64 ((rd_T75 l0_0 0).f0), .string ((rd_T75 l0_0 0).f1), .int .i64 ((rd_T75 l0_0 0).f2)] 75 (0, 0)) (by (with_reducible repeat (first | refine bkN ?_ _ | refine bkD ?_ | refine bkA ?_ _)); exact BK176.out)) : gb176 ≠ gb178)); have n9_ := A0_.mk ((by rw [hg]; exact Nat.ne_of_gt (blk_lt (g := gb176) (o := .cells #[.int .i64 ((rd_T75 l0_0 0).f0), .string ((rd_T75 l0_0 0).f1), .int .i64 ((rd_T75 l0_0 0).f2)] 75 (0, 0)) (by (with_reducible repeat (first | refine bkN ?_ _ | refine bkD ?_ | refine bkA ?_ _)); exact BK176.out)) : gb178 ≠ gb176)); clear BK174; clear BK176; clear HB; have BK174 := n0_; have BK176 := n1_; have HB := n2_; have BK178 := n3_; have GW178 := n4_; have GE178 := n5_; have NB174_178 := n6_; have NB178_174 := n7_; have NB176_178 := n8_; have NB178_176 := n9_; clear n0_ n1_ n2_ n3_ n4_ n5_ n6_ n7_ n8_ n9_; clear hb hbox hg; have hnb36 := NB178_174.out; have hnc36 := NB174_178.out; have hnb37 := NB178_176.out; have hnc37 := NB176_178.out; have hcz38_0 : w35.cell? ⟨gb178, 0, none⟩ = some (.int .i64 0) := (bkC BK178.out 0).trans rfl; have hcz38_1 : w35.cell? ⟨gb178, 1, none⟩ = some (.string (⟨#[]⟩ : ByteArray)) := (bkC BK178.out 1).trans rfl; have hcz38_2 : w35.cell? ⟨gb178, 2, none⟩ = some (.int .i64 0) := (bkC BK178.out 2).trans rfl; have hfz38_0 := bkF BK178.out 0; have hfz38_1 := bkF BK178.out 1; have hfz38_2 := bkF BK178.out 2)))
               go_ret
               exact ⟨by first | rfl | (simp [errW_none, errW_some] <;> rfl) | (simp [*, errW_none, errW_some] <;> rfl), by repeat (first | (with_reducible first | exact HB.out | apply bal | apply pdN | apply bdr | refine bst ?_ GE174.out | refine bst ?_ GE176.out | refine bst ?_ GE178.out) | exact HB.out)⟩
              ·rw [if_neg c32] at H
               have c32b0 : decide (x5_3 ≤ ((rd_T75 l0_0 x5_3).f0)) = false := decide_eq_false c32
               clear c32
               by_cases c39 : 0 ≤ ((rd_T75 l0_0 x5_3).f0)
               ·rw [if_pos c39] at H
                have c39b0 : decide (0 ≤ ((rd_T75 l0_0 x5_3).f0)) = true := decide_eq_true c39
                clear c39
                by_cases c40 : ((rd_T75 l0_0 x5_3).f0) < (l0_0.length : Int)
                ·rw [if_pos c40] at H
                 have c40b0 : decide (((rd_T75 l0_0 x5_3).f0) < (l0_0.length : Int)) = true := decide_eq_true c40
                 clear c40
                 by_cases c41 : ((rd_T75 l0_0 x5_3).f2) = (wrap64 (((rd_T75 l0_0 ((rd_T75 l0_0 x5_3).f0)).f2) + 1))
                 ·rw [if_pos c41] at H
                  have c41b0 : (((rd_T75 l0_0 x5_3).f2) == (wrap64 (((rd_T75 l0_0 ((rd_T75 l0_0 x5_3).f0)).f2) + 1))) = true := beq_iff_eq.mpr c41
                  have c41b1 : (((rd_T75 l0_0 x5_3).f2) != (wrap64 (((rd_T75 l0_0 ((rd_T75 l0_0 x5_3).f0)).f2) + 1))) = false := bne_eq_false_iff_eq.mpr c41
                  clear c41
                  by_cases c42 : ((rd_T75 l0_0 x5_3).f2) > 12
                  ·rw [if_pos c42] at H
                   have c42b0 : decide (12 < ((rd_T75 l0_0 x5_3).f2)) = true := decide_eq_true c42
                   clear c42
                   obtain rfl := Option.some.inj H
                   have hnb43 := NB174_176.out
                   have hnc43 := NB176_174.out
                   have hcz44_0 : wr.cell? ⟨gb174, 0, none⟩ = some (.slice (some ad175) l0_0.length c0_0) := (bkC BK174.out 0).trans rfl
                   have hfz44_0 := bkF BK174.out 0
                   have p177 : 0 ≤ (x5_3 : Int) := of_decide_eq_true (by first | (with_reducible assumption) | assumption)
                   have q177 : x5_3 < (l0_0.length : Int) := of_decide_eq_true (by first | (with_reducible assumption) | assumption)
                   obtain ⟨ad177, e177, hx177_0, hx177_1, hx177_2⟩ := at_T75 HR0_0.out x5_3 p177 q177
                   obtain rfl : ad175 = ad177 := (by injection e177)
                   replace hx177_0 := (HB.out.cell (World.block_lt_of_cell? w _ hx177_0)).trans hx177_0
                   replace hx177_1 := (HB.out.cell (World.block_lt_of_cell? w _ hx177_1)).trans hx177_1
                   replace hx177_2 := (HB.out.cell (World.block_lt_of_cell? w _ hx177_2)).trans hx177_2
                   replace p177 := eq_true p177
                   replace q177 := eq_true q177
                   go_wp2_with (first | ((with_reducible refine gate_dst (N := 6) rfl ?_); (try (refine gate_guard (by rfl) ?_; dsimp only)); refine box_event ?hg (N := 6) ?hd (cs := #[.int .i64 0, .string (⟨#[]⟩ : ByteArray), .int .i64 0]) (t := 75) ?hr ?_; (case hd => rfl); (case hg => rfl); (case hr => first | (go_simp; done) | (go_simp; rfl)); intro gb178 hg w45 hbox hb; have n0_ := A0_.mk (blk_below (g := gb174) (o := .cells #[.slice (some ad175) l0_0.length c0_0] 36 (0, 0)) (by (with_reducible repeat (first | refine bkN ?_ _ | refine bkD ?_ | refine bkA ?_ _)); exact BK174.out) hb); have n1_ := A0_.mk (blk_below (g := gb176) (o := .cells #[.int .i64 ((rd_T75 l0_0 0).f0), .string ((rd_T75 l0_0 0).f1), .int .i64 ((rd_T75 l0_0 0).f2)] 75 (0, 0)) (by (with_reducible repeat (first | refine bkN ?_ _ | refine bkD ?_ | refine bkA ?_ _)); exact BK176.out) hb); have n2_ := A0_.mk (below_step (by repeat (first | (with_reducible first | exact HB.out | apply bal | apply pdN | apply bdr | refine bst ?_ GE174.out | refine bst ?_ GE176.out) | exact HB.out)) hb); have n3_ := A0_.mk (hbox); have n4_ := A0_.mk ((by rw [hg]; exact (below_size (by repeat (first | (with_reducible first | exact HB.out | apply bal | apply pdN | apply bdr | refine bst ?_ GE174.out | refine bst ?_ GE176.out) | exact HB.out))) : w.heap.size ≤ gb178)); have n5_ := A0_.mk ((by rw [hg]; exact (below_size (by repeat (first | (with_reducible first | exact HB.out | apply bal | apply pdN | apply bdr | refine bst ?_ GE174.out | refine bst ?_ GE176.out) | exact HB.out))) : w.heap.size ≤ gb178)); have n6_ := A0_.mk ((by rw [hg]; exact Nat.ne_of_lt (blk_lt (g := gb174) (o := .cells #[.slice (some ad175) l0_0.length c0_0] 36 (0, 0)) (by (with_reducible repeat (first | refine bkN ?_ _ | refine bkD ?_ | refine bkA ?_ _)); exact BK174.out)) : gb174 ≠ gb178)); have n7_ := A0_.mk ((by rw [hg]; exact Nat.ne_of_gt (blk_lt (g := gb174) (o := .cells #[.slice (some ad175) l0_0.length c0_0] 36 (0, 0)) (by (with_reducible repeat (first | refine bkN ?_ _ | refine bkD ?_ | refine bkA ?_ _)); exact BK174.out)) : gb178 ≠ gb174)); have n8_ := A0_.mk ((by rw [hg]; exact Nat.ne_of_lt (blk_lt (g := gb176) (o := .cells #[.int .i64 ((rd_T75 l0_0 0).f0), .string ((rd_T75 l0_0 0).f1), .int .i64 ((rd_T75 l0_0 0).f2)] 75 (0, 0)) (by (with_reducible repeat (first | refine bkN ?_ _ | refine bkD ?_ | refine bkA ?_ _)); exact BK176.out)) : gb176 ≠ gb178)); have n9_ := A0_.mk ((by rw [hg]; exact Nat.ne_of_gt (blk_lt (g := gb176) (o := .cells #[.int .i64 ((rd_T75 l0_0 0).f0), .string ((rd_T75 l0_0 0).f1), .int .i64 ((rd_T75 l0_0 0).f2)] 75 (0, 0)) (by (with_reducible repeat (first | refine bkN ?_ _ | refine bkD ?_ | refine bkA ?_ _)); exact BK176.out)) : gb178 ≠ gb176)); clear BK174; clear BK176; clear HB; have BK174 := n0_; have BK176 := n1_; have HB := n2_; have BK178 := n3_; have GW178 := n4_; have GE178 := n5_; have NB174_178 := n6_; have NB178_174 := n7_; have NB176_178 := n8_; have NB178_176 := n9_; clear n0_ n1_ n2_ n3_ n4_ n5_ n6_ n7_ n8_ n9_; clear hb hbox hg; have hnb46 := NB178_174.out; have hnc46 := NB174_178.out; have hnb47 := NB178_176.out; have hnc47 := NB176_178.out; have hcz48_0 : w45.cell? ⟨gb178, 0, none⟩ = some (.int .i64 0) := (bkC BK178.out 0).trans rfl; have hcz48_1 : w45.cell? ⟨gb178, 1, none⟩ = some (.string (⟨#[]⟩ : ByteArray)) := (bkC BK178.out 1).trans rfl; have hcz48_2 : w45.cell? ⟨gb178, 2, none⟩ = some (.int .i64 0) := (bkC BK178.out 2).trans rfl; have hfz48_0 := bkF BK178.out 0; have hfz48_1 := bkF BK178.out 1; have hfz48_2 := bkF BK178.out 2; have hcz49_0 : w45.cell? ⟨gb174, 0, none⟩ = some (.slice (some ad175) l0_0.length c0_0) := (bkC BK174.out 0).trans rfl; have hfz49_0 := bkF BK174.out 0; have p179 : 0 ≤ (((rd_T75 l0_0 x5_3).f0) : Int) := of_decide_eq_true (by first | (with_reducible assumption) | assumption); have q179 : ((rd_T75 l0_0 x5_3).f0) < (l0_0.length : Int) := of_decide_eq_true (by first | (with_reducible assumption) | assumption); obtain ⟨ad179, e179, hx179_0, hx179_1, hx179_2⟩ := at_T75 HR0_0.out ((rd_T75 l0_0 x5_3).f0) p179 q179; obtain rfl : ad175 = ad179 := (by injection e179); have hn179_0 : ad175.block ≠ gb178 := Nat.ne_of_lt (Nat.lt_of_lt_of_le (by have := World.block_lt_of_cell? _ _ hx179_0; first | rwa [add_block] at this | exact this) GW178.out); have hn179_1 : ad175.block ≠ gb178 := Nat.ne_of_lt (Nat.lt_of_lt_of_le (by have := World.block_lt_of_cell? _ _ hx179_0; first | rwa [add_block] at this | exact this) GW178.out); have hn179_2 : ad175.block ≠ gb178 := Nat.ne_of_lt (Nat.lt_of_lt_of_le (by have := World.block_lt_of_cell? _ _ hx179_0; first | rwa [add_block] at this | exact this) GW178.out); replace hx179_0 := (HB.out.cell (World.block_lt_of_cell? w _ hx179_0)).trans hx179_0; replace hx179_1 := (HB.out.cell (World.block_lt_of_cell? w _ hx179_1)).trans hx179_1; replace hx179_2 := (HB.out.cell (World.block_lt_of_cell? w _ hx179_2)).trans hx179_2; replace hx179_0 := (cell_far (p := ⟨gb178, 0, none⟩) (by first | (rw [add_block]; exact hn179_0) | (show (Addr.add _ _).block ≠ _; rw [add_block]; exact hn179_0) | exact hn179_0) (.int .i64 ((rd_T75 l0_0 x5_3).f0))).trans hx179_0; replace hx179_1 := (cell_far (p := ⟨gb178, 0, none⟩) (by first | (rw [add_block]; exact hn179_0) | (show (Addr.add _ _).block ≠ _; rw [add_block]; exact hn179_0) | exact hn179_0) (.int .i64 ((rd_T75 l0_0 x5_3).f0))).trans hx179_1; replace hx179_2 := (cell_far (p := ⟨gb178, 0, none⟩) (by first | (rw [add_block]; exact hn179_0) | (show (Addr.add _ _).block ≠ _; rw [add_block]; exact hn179_0) | exact hn179_0) (.int .i64 ((rd_T75 l0_0 x5_3).f0))).trans hx179_2; replace hx179_0 := (cell_far (p := ⟨gb178, 1, none⟩) (by first | (rw [add_block]; exact hn179_1) | (show (Addr.add _ _).block ≠ _; rw [add_block]; exact hn179_1) | exact hn179_1) (.string ((rd_T75 l0_0 x5_3).f1))).trans hx179_0; replace hx179_1 := (cell_far (p := ⟨gb178, 1, none⟩) (by first | (rw [add_block]; exact hn179_1) | (show (Addr.add _ _).block ≠ _; rw [add_block]; exact hn179_1) | exact hn179_1) (.string ((rd_T75 l0_0 x5_3).f1))).trans hx179_1; replace hx179_2 := (cell_far (p := ⟨gb178, 1, none⟩) (by first | (rw [add_block]; exact hn179_1) | (show (Addr.add _ _).block ≠ _; rw [add_block]; exact hn179_1) | exact hn179_1) (.string ((rd_T75 l0_0 x5_3).f1))).trans hx179_2; replace hx179_0 := (cell_far (p := ⟨gb178, 2, none⟩) (by first | (rw [add_block]; exact hn179_2) | (show (Addr.add _ _).block ≠ _; rw [add_block]; exact hn179_2) | exact hn179_2) (.int .i64 ((rd_T75 l0_0 x5_3).f2))).trans hx179_0; replace hx179_1 := (cell_far (p := ⟨gb178, 2, none⟩) (by first | (rw [add_block]; exact hn179_2) | (show (Addr.add _ _).block ≠ _; rw [add_block]; exact hn179_2) | exact hn179_2) (.int .i64 ((rd_T75 l0_0 x5_3).f2))).trans hx179_1; replace hx179_2 := (cell_far (p := ⟨gb178, 2, none⟩) (by first | (rw [add_block]; exact hn179_2) | (show (Addr.add _ _).block ≠ _; rw [add_block]; exact hn179_2) | exact hn179_2) (.int .i64 ((rd_T75 l0_0 x5_3).f2))).trans hx179_2; (try have hy179_0 := fun (n_ : Nat) => (show (((((w45.drewN n_).setCell ⟨gb178, 0, none⟩ (.int .i64 ((rd_T75 l0_0 x5_3).f0))).setCell ⟨gb178, 1, none⟩ (.string ((rd_T75 l0_0 x5_3).f1))).setCell ⟨gb178, 2, none⟩ (.int .i64 ((rd_T75 l0_0 x5_3).f2)))).cell? _ = some _ from hx179_0)); (try have hy179_1 := fun (n_ : Nat) => (show (((((w45.drewN n_).setCell ⟨gb178, 0, none⟩ (.int .i64 ((rd_T75 l0_0 x5_3).f0))).setCell ⟨gb178, 1, none⟩ (.string ((rd_T75 l0_0 x5_3).f1))).setCell ⟨gb178, 2, none⟩ (.int .i64 ((rd_T75 l0_0 x5_3).f2)))).cell? _ = some _ from hx179_1)); (try have hy179_2 := fun (n_ : Nat) => (show (((((w45.drewN n_).setCell ⟨gb178, 0, none⟩ (.int .i64 ((rd_T75 l0_0 x5_3).f0))).setCell ⟨gb178, 1, none⟩ (.string ((rd_T75 l0_0 x5_3).f1))).setCell ⟨gb178, 2, none⟩ (.int .i64 ((rd_T75 l0_0 x5_3).f2)))).cell? _ = some _ from hx179_2)); clear hn179_0; clear hn179_1; clear hn179_2; replace p179 := eq_true p179; replace q179 := eq_true q179))
                   repeat (go_quiet (first | ((with_reducible refine gate_dst (N := 6) rfl ?_); (try (refine gate_guard (by rfl) ?_; dsimp only)); refine box_event ?hg (N := 6) ?hd (cs := #[.int .i64 0, .string (⟨#[]⟩ : ByteArray), .int .i64 0]) (t := 75) ?hr ?_; (case hd => rfl); (case hg => rfl); (case hr => first | (go_simp; done) | (go_simp; rfl)); intro gb178 hg w45 hbox hb; have n0_ := A0_.mk (blk_below (g := gb174) (o := .cells #[.slice (some ad175) l0_0.length c0_0] 36 (0, 0)) (by (with_reducible repeat (first | refine bkN ?_ _ | refine bkD ?_ | refine bkA ?_ _)); exact BK174.out) hb); have n1_ := A0_.mk (blk_below (g := gb176) (o := .cells #[.int .i64 ((rd_T75 l0_0 0).f0), .string ((rd_T75 l0_0 0).f1), .int .i64 ((rd_T75 l0_0 0).f2)] 75 (0, 0)) (by (with_reducible repeat (first | refine bkN ?_ _ | refine bkD ?_ | refine bkA ?_ _)); exact BK176.out) hb); have n2_ := A0_.mk (below_step (by repeat (first | (with_reducible first | exact HB.out | apply bal | apply pdN | apply bdr | refine bst ?_ GE174.out | refine bst ?_ GE176.out) | exact HB.out)) hb); have n3_ := A0_.mk (hbox); have n4_ := A0_.mk ((by rw [hg]; exact (below_size (by repeat (first | (with_reducible first | exact HB.out | apply bal | apply pdN | apply bdr | refine bst ?_ GE174.out | refine bst ?_ GE176.out) | exact HB.out))) : w.heap.size ≤ gb178)); have n5_ := A0_.mk ((by rw [hg]; exact (below_size (by repeat (first | (with_reducible first | exact HB.out | apply bal | apply pdN | apply bdr | refine bst ?_ GE174.out | refine bst ?_ GE176.out) | exact HB.out))) : w.heap.size ≤ gb178)); have n6_ := A0_.mk ((by rw [hg]; exact Nat.ne_of_lt (blk_lt (g := gb174) (o := .cells #[.slice (some ad175) l0_0.length c0_0] 36 (0, 0)) (by (with_reducible repeat (first | refine bkN ?_ _ | refine bkD ?_ | refine bkA ?_ _)); exact BK174.out)) : gb174 ≠ gb178)); have n7_ := A0_.mk ((by rw [hg]; exact Nat.ne_of_gt (blk_lt (g := gb174) (o := .cells #[.slice (some ad175) l0_0.length c0_0] 36 (0, 0)) (by (with_reducible repeat (first | refine bkN ?_ _ | refine bkD ?_ | refine bkA ?_ _)); exact BK174.out)) : gb178 ≠ gb174)); have n8_ := A0_.mk ((by rw [hg]; exact Nat.ne_of_lt (blk_lt (g := gb176) (o := .cells #[.int .i64 ((rd_T75 l0_0 0).f0), .string ((rd_T75 l0_0 0).f1), .int .i64 ((rd_T75 l0_0 0).f2)] 75 (0, 0)) (by (with_reducible repeat (first | refine bkN ?_ _ | refine bkD ?_ | refine bkA ?_ _)); exact BK176.out)) : gb176 ≠ gb178)); have n9_ := A0_.mk ((by rw [hg]; exact Nat.ne_of_gt (blk_lt (g := gb176) (o := .cells #[.int .i64 ((rd_T75 l0_0 0).f0), .string ((rd_T75 l0_0 0).f1), .int .i64 ((rd_T75 l0_0 0).f2)] 75 (0, 0)) (by (with_reducible repeat (first | refine bkN ?_ _ | refine bkD ?_ | refine bkA ?_ _)); exact BK176.out)) : gb178 ≠ gb176)); clear BK174; clear BK176; clear HB; have BK174 := n0_; have BK176 := n1_; have HB := n2_; have BK178 := n3_; have GW178 := n4_; have GE178 := n5_; have NB174_178 := n6_; have NB178_174 := n7_; have NB176_178 := n8_; have NB178_176 := n9_; clear n0_ n1_ n2_ n3_ n4_ n5_ n6_ n7_ n8_ n9_; clear hb hbox hg; have hnb46 := NB178_174.out; have hnc46 := NB174_178.out; have hnb47 := NB178_176.out; have hnc47 := NB176_178.out; have hcz48_0 : w45.cell? ⟨gb178, 0, none⟩ = some (.int .i64 0) := (bkC BK178.out 0).trans rfl; have hcz48_1 : w45.cell? ⟨gb178, 1, none⟩ = some (.string (⟨#[]⟩ : ByteArray)) := (bkC BK178.out 1).trans rfl; have hcz48_2 : w45.cell? ⟨gb178, 2, none⟩ = some (.int .i64 0) := (bkC BK178.out 2).trans rfl; have hfz48_0 := bkF BK178.out 0; have hfz48_1 := bkF BK178.out 1; have hfz48_2 := bkF BK178.out 2; have hcz49_0 : w45.cell? ⟨gb174, 0, none⟩ = some (.slice (some ad175) l0_0.length c0_0) := (bkC BK174.out 0).trans rfl; have hfz49_0 := bkF BK174.out 0; have p179 : 0 ≤ (((rd_T75 l0_0 x5_3).f0) : Int) := of_decide_eq_true (by first | (with_reducible assumption) | assumption); have q179 : ((rd_T75 l0_0 x5_3).f0) < (l0_0.length : Int) := of_decide_eq_true (by first | (with_reducible assumption) | assumption); obtain ⟨ad179, e179, hx179_0, hx179_1, hx179_2⟩ := at_T75 HR0_0.out ((rd_T75 l0_0 x5_3).f0) p179 q179; obtain rfl : ad175 = ad179 := (by injection e179); have hn179_0 : ad175.block ≠ gb178 := Nat.ne_of_lt (Nat.lt_of_lt_of_le (by have := World.block_lt_of_cell? _ _ hx179_0; first | rwa [add_block] at this | exact this) GW178.out); have hn179_1 : ad175.block ≠ gb178 := Nat.ne_of_lt (Nat.lt_of_lt_of_le (by have := World.block_lt_of_cell? _ _ hx179_0; first | rwa [add_block] at this | exact this) GW178.out); have hn179_2 : ad175.block ≠ gb178 := Nat.ne_of_lt (Nat.lt_of_lt_of_le (by have := World.block_lt_of_cell? _ _ hx179_0; first | rwa [add_block] at this | exact this) GW178.out); replace hx179_0 := (HB.out.cell (World.block_lt_of_cell? w _ hx179_0)).trans hx179_0; replace hx179_1 := (HB.out.cell (World.block_lt_of_cell? w _ hx179_1)).trans hx179_1; replace hx179_2 := (HB.out.cell (World.block_lt_of_cell? w _ hx179_2)).trans hx179_2; replace hx179_0 := (cell_far (p := ⟨gb178, 0, none⟩) (by first | (rw [add_block]; exact hn179_0) | (show (Addr.add _ _).block ≠ _; rw [add_block]; exact hn179_0) | exact hn179_0) (.int .i64 ((rd_T75 l0_0 x5_3).f0))).trans hx179_0; replace hx179_1 := (cell_far (p := ⟨gb178, 0, none⟩) (by first | (rw [add_block]; exact hn179_0) | (show (Addr.add _ _).block ≠ _; rw [add_block]; exact hn179_0) | exact hn179_0) (.int .i64 ((rd_T75 l0_0 x5_3).f0))).trans hx179_1; replace hx179_2 := (cell_far (p := ⟨gb178, 0, none⟩) (by first | (rw [add_block]; exact hn179_0) | (show (Addr.add _ _).block ≠ _; rw [add_block]; exact hn179_0) | exact hn179_0) (.int .i64 ((rd_T75 l0_0 x5_3).f0))).trans hx179_2; replace hx179_0 := (cell_far (p := ⟨gb178, 1, none⟩) (by first | (rw [add_block]; exact hn179_1) | (show (Addr.add _ _).block ≠ _; rw [add_block]; exact hn179_1) | exact hn179_1) (.string ((rd_T75 l0_0 x5_3).f1))).trans hx179_0; replace hx179_1 := (cell_far (p := ⟨gb178, 1, none⟩) (by first | (rw [add_block]; exact hn179_1) | (show (Addr.add _ _).block ≠ _; rw [add_block]; exact hn179_1) | exact hn179_1) (.string ((rd_T75 l0_0 x5_3).f1))).trans hx179_1; replace hx179_2 := (cell_far (p := ⟨gb178, 1, none⟩) (by first | (rw [add_block]; exact hn179_1) | (show (Addr.add _ _).block ≠ _; rw [add_block]; exact hn179_1) | exact hn179_1) (.string ((rd_T75 l0_0 x5_3).f1))).trans hx179_2; replace hx179_0 := (cell_far (p := ⟨gb178, 2, none⟩) (by first | (rw [add_block]; exact hn179_2) | (show (Addr.add _ _).block ≠ _; rw [add_block]; exact hn179_2) | exact hn179_2) (.int .i64 ((rd_T75 l0_0 x5_3).f2))).trans hx179_0; replace hx179_1 := (cell_far (p := ⟨gb178, 2, none⟩) (by first | (rw [add_block]; exact hn179_2) | (show (Addr.add _ _).block ≠ _; rw [add_block]; exact hn179_2) | exact hn179_2) (.int .i64 ((rd_T75 l0_0 x5_3).f2))).trans hx179_1; replace hx179_2 := (cell_far (p := ⟨gb178, 2, none⟩) (by first | (rw [add_block]; exact hn179_2) | (show (Addr.add _ _).block ≠ _; rw [add_block]; exact hn179_2) | exact hn179_2) (.int .i64 ((rd_T75 l0_0 x5_3).f2))).trans hx179_2; (try have hy179_0 := fun (n_ : Nat) => (show (((((w45.drewN n_).setCell ⟨gb178, 0, none⟩ (.int .i64 ((rd_T75 l0_0 x5_3).f0))).setCell ⟨gb178, 1, none⟩ (.string ((rd_T75 l0_0 x5_3).f1))).setCell ⟨gb178, 2, none⟩ (.int .i64 ((rd_T75 l0_0 x5_3).f2)))).cell? _ = some _ from hx179_0)); (try have hy179_1 := fun (n_ : Nat) => (show (((((w45.drewN n_).setCell ⟨gb178, 0, none⟩ (.int .i64 ((rd_T75 l0_0 x5_3).f0))).setCell ⟨gb178, 1, none⟩ (.string ((rd_T75 l0_0 x5_3).f1))).setCell ⟨gb178, 2, none⟩ (.int .i64 ((rd_T75 l0_0 x5_3).f2)))).cell? _ = some _ from hx179_1)); (try have hy179_2 := fun (n_ : Nat) => (show (((((w45.drewN n_).setCell ⟨gb178, 0, none⟩ (.int .i64 ((rd_T75 l0_0 x5_3).f0))).setCell ⟨gb178, 1, none⟩ (.string ((rd_T75 l0_0 x5_3).f1))).setCell ⟨gb178, 2, none⟩ (.int .i64 ((rd_T75 l0_0 x5_3).f2)))).cell? _ = some _ from hx179_2)); clear hn179_0; clear hn179_1; clear hn179_2; replace p179 := eq_true p179; replace q179 := eq_true q179)); try go_wp2_with (first | ((with_reducible refine gate_dst (N := 6) rfl ?_); (try (refine gate_guard (by rfl) ?_; dsimp only)); refine box_event ?hg (N := 6) ?hd (cs := #[.int .i64 0, .string (⟨#[]⟩ : ByteArray), .int .i64 0]) (t := 75) ?hr ?_; (case hd => rfl); (case hg => rfl); (case hr => first | (go_simp; done) | (go_simp; rfl)); intro gb178 hg w45 hbox hb; have n0_ := A0_.mk (blk_below (g := gb174) (o := .cells #[.slice (some ad175) l0_0.length c0_0] 36 (0, 0)) (by (with_reducible repeat (first | refine bkN ?_ _ | refine bkD ?_ | refine bkA ?_ _)); exact BK174.out) hb); have n1_ := A0_.mk (blk_below (g := gb176) (o := .cells #[.int .i64 ((rd_T75 l0_0 0).f0), .string ((rd_T75 l0_0 0).f1), .int .i64 ((rd_T75 l0_0 0).f2)] 75 (0, 0)) (by (with_reducible repeat (first | refine bkN ?_ _ | refine bkD ?_ | refine bkA ?_ _)); exact BK176.out) hb); have n2_ := A0_.mk (below_step (by repeat (first | (with_reducible first | exact HB.out | apply bal | apply pdN | apply bdr | refine bst ?_ GE174.out | refine bst ?_ GE176.out) | exact HB.out)) hb); have n3_ := A0_.mk (hbox); have n4_ := A0_.mk ((by rw [hg]; exact (below_size (by repeat (first | (with_reducible first | exact HB.out | apply bal | apply pdN | apply bdr | refine bst ?_ GE174.out | refine bst ?_ GE176.out) | exact HB.out))) : w.heap.size ≤ gb178)); have n5_ := A0_.mk ((by rw [hg]; exact (below_size (by repeat (first | (with_reducible first | exact HB.out | apply bal | apply pdN | apply bdr | refine bst ?_ GE174.out | refine bst ?_ GE176.out) | exact HB.out))) : w.heap.size ≤ gb178)); have n6_ := A0_.mk ((by rw [hg]; exact Nat.ne_of_lt (blk_lt (g := gb174) (o := .cells #[.slice (some ad175) l0_0.length c0_0] 36 (0, 0)) (by (with_reducible repeat (first | refine bkN ?_ _ | refine bkD ?_ | refine bkA ?_ _)); exact BK174.out)) : gb174 ≠ gb178)); have n7_ := A0_.mk ((by rw [hg]; exact Nat.ne_of_gt (blk_lt (g := gb174) (o := .cells #[.slice (some ad175) l0_0.length c0_0] 36 (0, 0)) (by (with_reducible repeat (first | refine bkN ?_ _ | refine bkD ?_ | refine bkA ?_ _)); exact BK174.out)) : gb178 ≠ gb174)); have n8_ := A0_.mk ((by rw [hg]; exact Nat.ne_of_lt (blk_lt (g := gb176) (o := .cells #[.int .i64 ((rd_T75 l0_0 0).f0), .string ((rd_T75 l0_0 0).f1), .int .i64 ((rd_T75 l0_0 0).f2)] 75 (0, 0)) (by (with_reducible repeat (first | refine bkN ?_ _ | refine bkD ?_ | refine bkA ?_ _)); exact BK176.out)) : gb176 ≠ gb178)); have n9_ := A0_.mk ((by rw [hg]; exact Nat.ne_of_gt (blk_lt (g := gb176) (o := .cells #[.int .i64 ((rd_T75 l0_0 0).f0), .string ((rd_T75 l0_0 0).f1), .int .i64 ((rd_T75 l0_0 0).f2)] 75 (0, 0)) (by (with_reducible repeat (first | refine bkN ?_ _ | refine bkD ?_ | refine bkA ?_ _)); exact BK176.out)) : gb178 ≠ gb176)); clear BK174; clear BK176; clear HB; have BK174 := n0_; have BK176 := n1_; have HB := n2_; have BK178 := n3_; have GW178 := n4_; have GE178 := n5_; have NB174_178 := n6_; have NB178_174 := n7_; have NB176_178 := n8_; have NB178_176 := n9_; clear n0_ n1_ n2_ n3_ n4_ n5_ n6_ n7_ n8_ n9_; clear hb hbox hg; have hnb46 := NB178_174.out; have hnc46 := NB174_178.out; have hnb47 := NB178_176.out; have hnc47 := NB176_178.out; have hcz48_0 : w45.cell? ⟨gb178, 0, none⟩ = some (.int .i64 0) := (bkC BK178.out 0).trans rfl; have hcz48_1 : w45.cell? ⟨gb178, 1, none⟩ = some (.string (⟨#[]⟩ : ByteArray)) := (bkC BK178.out 1).trans rfl; have hcz48_2 : w45.cell? ⟨gb178, 2, none⟩ = some (.int .i64 0) := (bkC BK178.out 2).trans rfl; have hfz48_0 := bkF BK178.out 0; have hfz48_1 := bkF BK178.out 1; have hfz48_2 := bkF BK178.out 2; have hcz49_0 : w45.cell? ⟨gb174, 0, none⟩ = some (.slice (some ad175) l0_0.length c0_0) := (bkC BK174.out 0).trans rfl; have hfz49_0 := bkF BK174.out 0; have p179 : 0 ≤ (((rd_T75 l0_0 x5_3).f0) : Int) := of_decide_eq_true (by first | (with_reducible assumption) | assumption); have q179 : ((rd_T75 l0_0 x5_3).f0) < (l0_0.length : Int) := of_decide_eq_true (by first | (with_reducible assumption) | assumption); obtain ⟨ad179, e179, hx179_0, hx179_1, hx179_2⟩ := at_T75 HR0_0.out ((rd_T75 l0_0 x5_3).f0) p179 q179; obtain rfl : ad175 = ad179 := (by injection e179); have hn179_0 : ad175.block ≠ gb178 := Nat.ne_of_lt (Nat.lt_of_lt_of_le (by have := World.block_lt_of_cell? _ _ hx179_0; first | rwa [add_block] at this | exact this) GW178.out); have hn179_1 : ad175.block ≠ gb178 := Nat.ne_of_lt (Nat.lt_of_lt_of_le (by have := World.block_lt_of_cell? _ _ hx179_0; first | rwa [add_block] at this | exact this) GW178.out); have hn179_2 : ad175.block ≠ gb178 := Nat.ne_of_lt (Nat.lt_of_lt_of_le (by have := World.block_lt_of_cell? _ _ hx179_0; first | rwa [add_block] at this | exact this) GW178.out); replace hx179_0 := (HB.out.cell (World.block_lt_of_cell? w _ hx179_0)).trans hx179_0; replace hx179_1 := (HB.out.cell (World.block_lt_of_cell? w _ hx179_1)).trans hx179_1; replace hx179_2 := (HB.out.cell (World.block_lt_of_cell? w _ hx179_2)).trans hx179_2; replace hx179_0 := (cell_far (p := ⟨gb178, 0, none⟩) (by first | (rw [add_block]; exact hn179_0) | (show (Addr.add _ _).block ≠ _; rw [add_block]; exact hn179_0) | exact hn179_0) (.int .i64 ((rd_T75 l0_0 x5_3).f0))).trans hx179_0; replace hx179_1 := (cell_far (p := ⟨gb178, 0, none⟩) (by first | (rw [add_block]; exact hn179_0) | (show (Addr.add _ _).block ≠ _; rw [add_block]; exact hn179_0) | exact hn179_0) (.int .i64 ((rd_T75 l0_0 x5_3).f0))).trans hx179_1; replace hx179_2 := (cell_far (p := ⟨gb178, 0, none⟩) (by first | (rw [add_block]; exact hn179_0) | (show (Addr.add _ _).block ≠ _; rw [add_block]; exact hn179_0) | exact hn179_0) (.int .i64 ((rd_T75 l0_0 x5_3).f0))).trans hx179_2; replace hx179_0 := (cell_far (p := ⟨gb178, 1, none⟩) (by first | (rw [add_block]; exact hn179_1) | (show (Addr.add _ _).block ≠ _; rw [add_block]; exact hn179_1) | exact hn179_1) (.string ((rd_T75 l0_0 x5_3).f1))).trans hx179_0; replace hx179_1 := (cell_far (p := ⟨gb178, 1, none⟩) (by first | (rw [add_block]; exact hn179_1) | (show (Addr.add _ _).block ≠ _; rw [add_block]; exact hn179_1) | exact hn179_1) (.string ((rd_T75 l0_0 x5_3).f1))).trans hx179_1; replace hx179_2 := (cell_far (p := ⟨gb178, 1, none⟩) (by first | (rw [add_block]; exact hn179_1) | (show (Addr.add _ _).block ≠ _; rw [add_block]; exact hn179_1) | exact hn179_1) (.string ((rd_T75 l0_0 x5_3).f1))).trans hx179_2; replace hx179_0 := (cell_far (p := ⟨gb178, 2, none⟩) (by first | (rw [add_block]; exact hn179_2) | (show (Addr.add _ _).block ≠ _; rw [add_block]; exact hn179_2) | exact hn179_2) (.int .i64 ((rd_T75 l0_0 x5_3).f2))).trans hx179_0; replace hx179_1 := (cell_far (p := ⟨gb178, 2, none⟩) (by first | (rw [add_block]; exact hn179_2) | (show (Addr.add _ _).block ≠ _; rw [add_block]; exact hn179_2) | exact hn179_2) (.int .i64 ((rd_T75 l0_0 x5_3).f2))).trans hx179_1; replace hx179_2 := (cell_far (p := ⟨gb178, 2, none⟩) (by first | (rw [add_block]; exact hn179_2) | (show (Addr.add _ _).block ≠ _; rw [add_block]; exact hn179_2) | exact hn179_2) (.int .i64 ((rd_T75 l0_0 x5_3).f2))).trans hx179_2; (try have hy179_0 := fun (n_ : Nat) => (show (((((w45.drewN n_).setCell ⟨gb178, 0, none⟩ (.int .i64 ((rd_T75 l0_0 x5_3).f0))).setCell ⟨gb178, 1, none⟩ (.string ((rd_T75 l0_0 x5_3).f1))).setCell ⟨gb178, 2, none⟩ (.int .i64 ((rd_T75 l0_0 x5_3).f2)))).cell? _ = some _ from hx179_0)); (try have hy179_1 := fun (n_ : Nat) => (show (((((w45.drewN n_).setCell ⟨gb178, 0, none⟩ (.int .i64 ((rd_T75 l0_0 x5_3).f0))).setCell ⟨gb178, 1, none⟩ (.string ((rd_T75 l0_0 x5_3).f1))).setCell ⟨gb178, 2, none⟩ (.int .i64 ((rd_T75 l0_0 x5_3).f2)))).cell? _ = some _ from hx179_1)); (try have hy179_2 := fun (n_ : Nat) => (show (((((w45.drewN n_).setCell ⟨gb178, 0, none⟩ (.int .i64 ((rd_T75 l0_0 x5_3).f0))).setCell ⟨gb178, 1, none⟩ (.string ((rd_T75 l0_0 x5_3).f1))).setCell ⟨gb178, 2, none⟩ (.int .i64 ((rd_T75 l0_0 x5_3).f2)))).cell? _ = some _ from hx179_2)); clear hn179_0; clear hn179_1; clear hn179_2; replace p179 := eq_true p179; replace q179 := eq_true q179)))
                   go_ret
                   exact ⟨by first | rfl | (simp [errW_none, errW_some] <;> rfl) | (simp [*, errW_none, errW_some] <;> rfl), by repeat (first | (with_reducible first | exact HB.out | apply bal | apply pdN | apply bdr | refine bst ?_ GE174.out | refine bst ?_ GE176.out | refine bst ?_ GE178.out) | exact HB.out)⟩
                  ·rw [if_neg c42] at H
                   have c42b0 : decide (12 < ((rd_T75 l0_0 x5_3).f2)) = false := decide_eq_false c42
                   clear c42
                   by_cases c50 : (((rd_T75 l0_0 x5_3).f1).size : Int) > 4000
                   ·rw [if_pos c50] at H
                    have c50b0 : decide (4000 < (((rd_T75 l0_0 x5_3).f1).size : Int)) = true := decide_eq_true c50
                    have c50b1 : decide (4000 < ((rd_T75 l0_0 x5_3).f1).size) = true := decide_eq_true (by omega)
                    clear c50
                    obtain rfl := Option.some.inj H
                    have hnb51 := NB174_176.out
                    have hnc51 := NB176_174.out
                    have hcz52_0 : wr.cell? ⟨gb174, 0, none⟩ = some (.slice (some ad175) l0_0.length c0_0) := (bkC BK174.out 0).trans rfl
                    have hfz52_0 := bkF BK174.out 0
                    have p177 : 0 ≤ (x5_3 : Int) := of_decide_eq_true (by first | (with_reducible assumption) | assumption)
                    have q177 : x5_3 < (l0_0.length : Int) := of_decide_eq_true (by first | (with_reducible assumption) | assumption)
                    obtain ⟨ad177, e177, hx177_0, hx177_1, hx177_2⟩ := at_T75 HR0_0.out x5_3 p177 q177
                    obtain rfl : ad175 = ad177 := (by injection e177)
                    replace hx177_0 := (HB.out.cell (World.block_lt_of_cell? w _ hx177_0)).trans hx177_0
                    replace hx177_1 := (HB.out.cell (World.block_lt_of_cell? w _ hx177_1)).trans hx177_1
                    replace hx177_2 := (HB.out.cell (World.block_lt_of_cell? w _ hx177_2)).trans hx177_2
                    replace p177 := eq_true p177
                    replace q177 := eq_true q177
                    go_wp2_with (first | ((with_reducible refine gate_dst (N := 6) rfl ?_); (try (refine gate_guard (by rfl) ?_; dsimp only)); refine box_event ?hg (N := 6) ?hd (cs := #[.int .i64 0, .string (⟨#[]⟩ : ByteArray), .int .i64 0]) (t := 75) ?hr ?_; (case hd => rfl); (case hg => rfl); (case hr => first | (go_simp; done) | (go_simp; rfl)); intro gb178 hg w53 hbox hb; have n0_ := A0_.mk (blk_below (g := gb174) (o := .cells #[.slice (some ad175) l0_0.length c0_0] 36 (0, 0)) (by (with_reducible repeat (first | refine bkN ?_ _ | refine bkD ?_ | refine bkA ?_ _)); exact BK174.out) hb); have n1_ := A0_.mk (blk_below (g := gb176) (o := .cells #[.int .i64 ((rd_T75 l0_0 0).f0), .string ((rd_T75 l0_0 0).f1), .int .i64 ((rd_T75 l0_0 0).f2)] 75 (0, 0)) (by (with_reducible repeat (first | refine bkN ?_ _ | refine bkD ?_ | refine bkA ?_ _)); exact BK176.out) hb); have n2_ := A0_.mk (below_step (by repeat (first | (with_reducible first | exact HB.out | apply bal | apply pdN | apply bdr | refine bst ?_ GE174.out | refine bst ?_ GE176.out) | exact HB.out)) hb); have n3_ := A0_.mk (hbox); have n4_ := A0_.mk ((by rw [hg]; exact (below_size (by repeat (first | (with_reducible first | exact HB.out | apply bal | apply pdN | apply bdr | refine bst ?_ GE174.out | refine bst ?_ GE176.out) | exact HB.out))) : w.heap.size ≤ gb178)); have n5_ := A0_.mk ((by rw [hg]; exact (below_size (by repeat (first | (with_reducible first | exact HB.out | apply bal | apply pdN | apply bdr | refine bst ?_ GE174.out | refine bst ?_ GE176.out) | exact HB.out))) : w.heap.size ≤ gb178)); have n6_ := A0_.mk ((by rw [hg]; exact Nat.ne_of_lt (blk_lt (g := gb174) (o := .cells #[.slice (some ad175) l0_0.length c0_0] 36 (0, 0)) (by (with_reducible repeat (first | refine bkN ?_ _ | refine bkD ?_ | refine bkA ?_ _)); exact BK174.out)) : gb174 ≠ gb178)); have n7_ := A0_.mk ((by rw [hg]; exact Nat.ne_of_gt (blk_lt (g := gb174) (o := .cells #[.slice (some ad175) l0_0.length c0_0] 36 (0, 0)) (by (with_reducible repeat (first | refine bkN ?_ _ | refine bkD ?_ | refine bkA ?_ _)); exact BK174.out)) : gb178 ≠ gb174)); have n8_ := A0_.mk ((by rw [hg]; exact Nat.ne_of_lt (blk_lt (g := gb176) (o := .cells #[.int .i64 ((rd_T75 l0_0 0).f0), .string ((rd_T75 l0_0 0).f1), .int .i64 ((rd_T75 l0_0 0).f2)] 75 (0, 0)) (by (with_reducible repeat (first | refine bkN ?_ _ | refine bkD ?_ | refine bkA ?_ _)); exact BK176.out)) : gb176 ≠ gb178)); have n9_ := A0_.mk ((by rw [hg]; exact Nat.ne_of_gt (blk_lt (g := gb176) (o := .cells #[.int .i64 ((rd_T75 l0_0 0).f0), .string ((rd_T75 l0_0 0).f1), .int .i64 ((rd_T75 l0_0 0).f2)] 75 (0, 0)) (by (with_reducible repeat (first | refine bkN ?_ _ | refine bkD ?_ | refine bkA ?_ _)); exact BK176.out)) : gb178 ≠ gb176)); clear BK174; clear BK176; clear HB; have BK174 := n0_; have BK176 := n1_; have HB := n2_; have BK178 := n3_; have GW178 := n4_; have GE178 := n5_; have NB174_178 := n6_; have NB178_174 := n7_; have NB176_178 := n8_; have NB178_176 := n9_; clear n0_ n1_ n2_ n3_ n4_ n5_ n6_ n7_ n8_ n9_; clear hb hbox hg; have hnb54 := NB178_174.out; have hnc54 := NB174_178.out; have hnb55 := NB178_176.out; have hnc55 := NB176_178.out; have hcz56_0 : w53.cell? ⟨gb178, 0, none⟩ = some (.int .i64 0) := (bkC BK178.out 0).trans rfl; have hcz56_1 : w53.cell? ⟨gb178, 1, none⟩ = some (.string (⟨#[]⟩ : ByteArray)) := (bkC BK178.out 1).trans rfl; have hcz56_2 : w53.cell? ⟨gb178, 2, none⟩ = some (.int .i64 0) := (bkC BK178.out 2).trans rfl; have hfz56_0 := bkF BK178.out 0; have hfz56_1 := bkF BK178.out 1; have hfz56_2 := bkF BK178.out 2; have hcz57_0 : w53.cell? ⟨gb174, 0, none⟩ = some (.slice (some ad175) l0_0.length c0_0) := (bkC BK174.out 0).trans rfl; have hfz57_0 := bkF BK174.out 0; have p179 : 0 ≤ (((rd_T75 l0_0 x5_3).f0) : Int) := of_decide_eq_true (by first | (with_reducible assumption) | assumption); have q179 : ((rd_T75 l0_0 x5_3).f0) < (l0_0.length : Int) := of_decide_eq_true (by first | (with_reducible assumption) | assumption); obtain ⟨ad179, e179, hx179_0, hx179_1, hx179_2⟩ := at_T75 HR0_0.out ((rd_T75 l0_0 x5_3).f0) p179 q179; obtain rfl : ad175 = ad179 := (by injection e179); have hn179_0 : ad175.block ≠ gb178 := Nat.ne_of_lt (Nat.lt_of_lt_of_le (by have := World.block_lt_of_cell? _ _ hx179_0; first | rwa [add_block] at this | exact this) GW178.out); have hn179_1 : ad175.block ≠ gb178 := Nat.ne_of_lt (Nat.lt_of_lt_of_le (by have := World.block_lt_of_cell? _ _ hx179_0; first | rwa [add_block] at this | exact this) GW178.out); have hn179_2 : ad175.block ≠ gb178 := Nat.ne_of_lt (Nat.lt_of_lt_of_le (by have := World.block_lt_of_cell? _ _ hx179_0; first | rwa [add_block] at this | exact this) GW178.out); replace hx179_0 := (HB.out.cell (World.block_lt_of_cell? w _ hx179_0)).trans hx179_0; replace hx179_1 := (HB.out.cell (World.block_lt_of_cell? w _ hx179_1)).trans hx179_1; replace hx179_2 := (HB.out.cell (World.block_lt_of_cell? w _ hx179_2)).trans hx179_2; replace hx179_0 := (cell_far (p := ⟨gb178, 0, none⟩) (by first | (rw [add_block]; exact hn179_0) | (show (Addr.add _ _).block ≠ _; rw [add_block]; exact hn179_0) | exact hn179_0) (.int .i64 ((rd_T75 l0_0 x5_3).f0))).trans hx179_0; replace hx179_1 := (cell_far (p := ⟨gb178, 0, none⟩) (by first | (rw [add_block]; exact hn179_0) | (show (Addr.add _ _).block ≠ _; rw [add_block]; exact hn179_0) | exact hn179_0) (.int .i64 ((rd_T75 l0_0 x5_3).f0))).trans hx179_1; replace hx179_2 := (cell_far (p := ⟨gb178, 0, none⟩) (by first | (rw [add_block]; exact hn179_0) | (show (Addr.add _ _).block ≠ _; rw [add_block]; exact hn179_0) | exact hn179_0) (.int .i64 ((rd_T75 l0_0 x5_3).f0))).trans hx179_2; replace hx179_0 := (cell_far (p := ⟨gb178, 1, none⟩) (by first | (rw [add_block]; exact hn179_1) | (show (Addr.add _ _).block ≠ _; rw [add_block]; exact hn179_1) | exact hn179_1) (.string ((rd_T75 l0_0 x5_3).f1))).trans hx179_0; replace hx179_1 := (cell_far (p := ⟨gb178, 1, none⟩) (by first | (rw [add_block]; exact hn179_1) | (show (Addr.add _ _).block ≠ _; rw [add_block]; exact hn179_1) | exact hn179_1) (.string ((rd_T75 l0_0 x5_3).f1))).trans hx179_1; replace hx179_2 := (cell_far (p := ⟨gb178, 1, none⟩) (by first | (rw [add_block]; exact hn179_1) | (show (Addr.add _ _).block ≠ _; rw [add_block]; exact hn179_1) | exact hn179_1) (.string ((rd_T75 l0_0 x5_3).f1))).trans hx179_2; replace hx179_0 := (cell_far (p := ⟨gb178, 2, none⟩) (by first | (rw [add_block]; exact hn179_2) | (show (Addr.add _ _).block ≠ _; rw [add_block]; exact hn179_2) | exact hn179_2) (.int .i64 ((rd_T75 l0_0 x5_3).f2))).trans hx179_0; replace hx179_1 := (cell_far (p := ⟨gb178, 2, none⟩) (by first | (rw [add_block]; exact hn179_2) | (show (Addr.add _ _).block ≠ _; rw [add_block]; exact hn179_2) | exact hn179_2) (.int .i64 ((rd_T75 l0_0 x5_3).f2))).trans hx179_1; replace hx179_2 := (cell_far (p := ⟨gb178, 2, none⟩) (by first | (rw [add_block]; exact hn179_2) | (show (Addr.add _ _).block ≠ _; rw [add_block]; exact hn179_2) | exact hn179_2) (.int .i64 ((rd_T75 l0_0 x5_3).f2))).trans hx179_2; (try have hy179_0 := fun (n_ : Nat) => (show (((((w53.drewN n_).setCell ⟨gb178, 0, none⟩ (.int .i64 ((rd_T75 l0_0 x5_3).f0))).setCell ⟨gb178, 1, none⟩ (.string ((rd_T75 l0_0 x5_3).f1))).setCell ⟨gb178, 2, none⟩ (.int .i64 ((rd_T75 l0_0 x5_3).f2)))).cell? _ = some _ from hx179_0)); (try have hy179_1 := fun (n_ : Nat) => (show (((((w53.drewN n_).setCell ⟨gb178, 0, none⟩ (.int .i64 ((rd_T75 l0_0 x5_3).f0))).setCell ⟨gb178, 1, none⟩ (.string ((rd_T75 l0_0 x5_3).f1))).setCell ⟨gb178, 2, none⟩ (.int .i64 ((rd_T75 l0_0 x5_3).f2)))).cell? _ = some _ from hx179_1)); (try have hy179_2 := fun (n_ : Nat) => (show (((((w53.drewN n_).setCell ⟨gb178, 0, none⟩ (.int .i64 ((rd_T75 l0_0 x5_3).f0))).setCell ⟨gb178, 1, none⟩ (.string ((rd_T75 l0_0 x5_3).f1))).setCell ⟨gb178, 2, none⟩ (.int .i64 ((rd_T75 l0_0 x5_3).f2)))).cell? _ = some _ from hx179_2)); clear hn179_0; clear hn179_1; clear hn179_2; replace p179 := eq_true p179; replace q179 := eq_true q179))
                    repeat (go_quiet (first | ((with_reducible refine gate_dst (N := 6) rfl ?_); (try (refine gate_guard (by rfl) ?_; dsimp only)); refine box_event ?hg (N := 6) ?hd (cs := #[.int .i64 0, .string (⟨#[]⟩ : ByteArray), .int .i64 0]) (t := 75) ?hr ?_; (case hd => rfl); (case hg => rfl); (case hr => first | (go_simp; done) | (go_simp; rfl)); intro gb178 hg w53 hbox hb; have n0_ := A0_.mk (blk_below (g := gb174) (o := .cells #[.slice (some ad175) l0_0.length c0_0] 36 (0, 0)) (by (with_reducible repeat (first | refine bkN ?_ _ | refine bkD ?_ | refine bkA ?_ _)); exact BK174.out) hb); have n1_ := A0_.mk (blk_below (g := gb176) (o := .cells #[.int .i64 ((rd_T75 l0_0 0).f0), .string ((rd_T75 l0_0 0).f1), .int .i64 ((rd_T75 l0_0 0).f2)] 75 (0, 0)) (by (with_reducible repeat (first | refine bkN ?_ _ | refine bkD ?_ | refine bkA ?_ _)); exact BK176.out) hb); have n2_ := A0_.mk (below_step (by repeat (first | (with_reducible first | exact HB.out | apply bal | apply pdN | apply bdr | refine bst ?_ GE174.out | refine bst ?_ GE176.out) | exact HB.out)) hb); have n3_ := A0_.mk (hbox); have n4_ := A0_.mk ((by rw [hg]; exact (below_size (by repeat (first | (with_reducible first | exact HB.out | apply bal | apply pdN | apply bdr | refine bst ?_ GE174.out | refine bst ?_ GE176.out) | exact HB.out))) : w.heap.size ≤ gb178)); have n5_ := A0_.mk ((by rw [hg]; exact (below_size (by repeat (first | (with_reducible first | exact HB.out | apply bal | apply pdN | apply bdr | refine bst ?_ GE174.out | refine bst ?_ GE176.out) | exact HB.out))) : w.heap.size ≤ gb178)); have n6_ := A0_.mk ((by rw [hg]; exact Nat.ne_of_lt (blk_lt (g := gb174) (o := .cells #[.slice (some ad175) l0_0.length c0_0] 36 (0, 0)) (by (with_reducible repeat (first | refine bkN ?_ _ | refine bkD ?_ | refine bkA ?_ _)); exact BK174.out)) : gb174 ≠ gb178)); have n7_ := A0_.mk ((by rw [hg]; exact Nat.ne_of_gt (blk_lt (g := gb174) (o := .cells #[.slice (some ad175) l0_0.length c0_0] 36 (0, 0)) (by (with_reducible repeat (first | refine bkN ?_ _ | refine bkD ?_ | refine bkA ?_ _)); exact BK174.out)) : gb178 ≠ gb174)); have n8_ := A0_.mk ((by rw [hg]; exact Nat.ne_of_lt (blk_lt (g := gb176) (o := .cells #[.int .i64 ((rd_T75 l0_0 0).f0), .string ((rd_T75 l0_0 0).f1), .int .i64 ((rd_T75 l0_0 0).f2)] 75 (0, 0)) (by (with_reducible repeat (first | refine bkN ?_ _ | refine bkD ?_ | refine bkA ?_ _)); exact BK176.out)) : gb176 ≠ gb178)); have n9_ := A0_.mk ((by rw [hg]; exact Nat.ne_of_gt (blk_lt (g := gb176) (o := .cells #[.int .i64 ((rd_T75 l0_0 0).f0), .string ((rd_T75 l0_0 0).f1), .int .i64 ((rd_T75 l0_0 0).f2)] 75 (0, 0)) (by (with_reducible repeat (first | refine bkN ?_ _ | refine bkD ?_ | refine bkA ?_ _)); exact BK176.out)) : gb178 ≠ gb176)); clear BK174; clear BK176; clear HB; have BK174 := n0_; have BK176 := n1_; have HB := n2_; have BK178 := n3_; have GW178 := n4_; have GE178 := n5_; have NB174_178 := n6_; have NB178_174 := n7_; have NB176_178 := n8_; have NB178_176 := n9_; clear n0_ n1_ n2_ n3_ n4_ n5_ n6_ n7_ n8_ n9_; clear hb hbox hg; have hnb54 := NB178_174.out; have hnc54 := NB174_178.out; have hnb55 := NB178_176.out; have hnc55 := NB176_178.out; have hcz56_0 : w53.cell? ⟨gb178, 0, none⟩ = some (.int .i64 0) := (bkC BK178.out 0).trans rfl; have hcz56_1 : w53.cell? ⟨gb178, 1, none⟩ = some (.string (⟨#[]⟩ : ByteArray)) := (bkC BK178.out 1).trans rfl; have hcz56_2 : w53.cell? ⟨gb178, 2, none⟩ = some (.int .i64 0) := (bkC BK178.out 2).trans rfl; have hfz56_0 := bkF BK178.out 0; have hfz56_1 := bkF BK178.out 1; have hfz56_2 := bkF BK178.out 2; have hcz57_0 : w53.cell? ⟨gb174, 0, none⟩ = some (.slice (some ad175) l0_0.length c0_0) := (bkC BK174.out 0).trans rfl; have hfz57_0 := bkF BK174.out 0; have p179 : 0 ≤ (((rd_T75 l0_0 x5_3).f0) : Int) := of_decide_eq_true (by first | (with_reducible assumption) | assumption); have q179 : ((rd_T75 l0_0 x5_3).f0) < (l0_0.length : Int) := of_decide_eq_true (by first | (with_reducible assumption) | assumption); obtain ⟨ad179, e179, hx179_0, hx179_1, hx179_2⟩ := at_T75 HR0_0.out ((rd_T75 l0_0 x5_3).f0) p179 q179; obtain rfl : ad175 = ad179 := (by injection e179); have hn179_0 : ad175.block ≠ gb178 := Nat.ne_of_lt (Nat.lt_of_lt_of_le (by have := World.block_lt_of_cell? _ _ hx179_0; first | rwa [add_block] at this | exact this) GW178.out); have hn179_1 : ad175.block ≠ gb178 := Nat.ne_of_lt (Nat.lt_of_lt_of_le (by have := World.block_lt_of_cell? _ _ hx179_0; first | rwa [add_block] at this | exact this) GW178.out); have hn179_2 : ad175.block ≠ gb178 := Nat.ne_of_lt (Nat.lt_of_lt_of_le (by have := World.block_lt_of_cell? _ _ hx179_0; first | rwa [add_block] at this | exact this) GW178.out); replace hx179_0 := (HB.out.cell (World.block_lt_of_cell? w _ hx179_0)).trans hx179_0; replace hx179_1 := (HB.out.cell (World.block_lt_of_cell? w _ hx179_1)).trans hx179_1; replace hx179_2 := (HB.out.cell (World.block_lt_of_cell? w _ hx179_2)).trans hx179_2; replace hx179_0 := (cell_far (p := ⟨gb178, 0, none⟩) (by first | (rw [add_block]; exact hn179_0) | (show (Addr.add _ _).block ≠ _; rw [add_block]; exact hn179_0) | exact hn179_0) (.int .i64 ((rd_T75 l0_0 x5_3).f0))).trans hx179_0; replace hx179_1 := (cell_far (p := ⟨gb178, 0, none⟩) (by first | (rw [add_block]; exact hn179_0) | (show (Addr.add _ _).block ≠ _; rw [add_block]; exact hn179_0) | exact hn179_0) (.int .i64 ((rd_T75 l0_0 x5_3).f0))).trans hx179_1; replace hx179_2 := (cell_far (p := ⟨gb178, 0, none⟩) (by first | (rw [add_block]; exact hn179_0) | (show (Addr.add _ _).block ≠ _; rw [add_block]; exact hn179_0) | exact hn179_0) (.int .i64 ((rd_T75 l0_0 x5_3).f0))).trans hx179_2; replace hx179_0 := (cell_far (p := ⟨gb178, 1, none⟩) (by first | (rw [add_block]; exact hn179_1) | (show (Addr.add _ _).block ≠ _; rw [add_block]; exact hn179_1) | exact hn179_1) (.string ((rd_T75 l0_0 x5_3).f1))).trans hx179_0; replace hx179_1 := (cell_far (p := ⟨gb178, 1, none⟩) (by first | (rw [add_block]; exact hn179_1) | (show (Addr.add _ _).block ≠ _; rw [add_block]; exact hn179_1) | exact hn179_1) (.string ((rd_T75 l0_0 x5_3).f1))).trans hx179_1; replace hx179_2 := (cell_far (p := ⟨gb178, 1, none⟩) (by first | (rw [add_block]; exact hn179_1) | (show (Addr.add _ _).block ≠ _; rw [add_block]; exact hn179_1) | exact hn179_1) (.string ((rd_T75 l0_0 x5_3).f1))).trans hx179_2; replace hx179_0 := (cell_far (p := ⟨gb178, 2, none⟩) (by first | (rw [add_block]; exact hn179_2) | (show (Addr.add _ _).block ≠ _; rw [add_block]; exact hn179_2) | exact hn179_2) (.int .i64 ((rd_T75 l0_0 x5_3).f2))).trans hx179_0; replace hx179_1 := (cell_far (p := ⟨gb178, 2, none⟩) (by first | (rw [add_block]; exact hn179_2) | (show (Addr.add _ _).block ≠ _; rw [add_block]; exact hn179_2) | exact hn179_2) (.int .i64 ((rd_T75 l0_0 x5_3).f2))).trans hx179_1; replace hx179_2 := (cell_far (p := ⟨gb178, 2, none⟩) (by first | (rw [add_block]; exact hn179_2) | (show (Addr.add _ _).block ≠ _; rw [add_block]; exact hn179_2) | exact hn179_2) (.int .i64 ((rd_T75 l0_0 x5_3).f2))).trans hx179_2; (try have hy179_0 := fun (n_ : Nat) => (show (((((w53.drewN n_).setCell ⟨gb178, 0, none⟩ (.int .i64 ((rd_T75 l0_0 x5_3).f0))).setCell ⟨gb178, 1, none⟩ (.string ((rd_T75 l0_0 x5_3).f1))).setCell ⟨gb178, 2, none⟩ (.int .i64 ((rd_T75 l0_0 x5_3).f2)))).cell? _ = some _ from hx179_0)); (try have hy179_1 := fun (n_ : Nat) => (show (((((w53.drewN n_).setCell ⟨gb178, 0, none⟩ (.int .i64 ((rd_T75 l0_0 x5_3).f0))).setCell ⟨gb178, 1, none⟩ (.string ((rd_T75 l0_0 x5_3).f1))).setCell ⟨gb178, 2, none⟩ (.int .i64 ((rd_T75 l0_0 x5_3).f2)))).cell? _ = some _ from hx179_1)); (try have hy179_2 := fun (n_ : Nat) => (show (((((w53.drewN n_).setCell ⟨gb178, 0, none⟩ (.int .i64 ((rd_T75 l0_0 x5_3).f0))).setCell ⟨gb178, 1, none⟩ (.string ((rd_T75 l0_0 x5_3).f1))).setCell ⟨gb178, 2, none⟩ (.int .i64 ((rd_T75 l0_0 x5_3).f2)))).cell? _ = some _ from hx179_2)); clear hn179_0; clear hn179_1; clear hn179_2; replace p179 := eq_true p179; replace q179 := eq_true q179)); try go_wp2_with (first | ((with_reducible refine gate_dst (N := 6) rfl ?_); (try (refine gate_guard (by rfl) ?_; dsimp only)); refine box_event ?hg (N := 6) ?hd (cs := #[.int .i64 0, .string (⟨#[]⟩ : ByteArray), .int .i64 0]) (t := 75) ?hr ?_; (case hd => rfl); (case hg => rfl); (case hr => first | (go_simp; done) | (go_simp; rfl)); intro gb178 hg w53 hbox hb; have n0_ := A0_.mk (blk_below (g := gb174) (o := .cells #[.slice (some ad175) l0_0.length c0_0] 36 (0, 0)) (by (with_reducible repeat (first | refine bkN ?_ _ | refine bkD ?_ | refine bkA ?_ _)); exact BK174.out) hb); have n1_ := A0_.mk (blk_below (g := gb176) (o := .cells #[.int .i64 ((rd_T75 l0_0 0).f0), .string ((rd_T75 l0_0 0).f1), .int .i64 ((rd_T75 l0_0 0).f2)] 75 (0, 0)) (by (with_reducible repeat (first | refine bkN ?_ _ | refine bkD ?_ | refine bkA ?_ _)); exact BK176.out) hb); have n2_ := A0_.mk (below_step (by repeat (first | (with_reducible first | exact HB.out | apply bal | apply pdN | apply bdr | refine bst ?_ GE174.out | refine bst ?_ GE176.out) | exact HB.out)) hb); have n3_ := A0_.mk (hbox); have n4_ := A0_.mk ((by rw [hg]; exact (below_size (by repeat (first | (with_reducible first | exact HB.out | apply bal | apply pdN | apply bdr | refine bst ?_ GE174.out | refine bst ?_ GE176.out) | exact HB.out))) : w.heap.size ≤ gb178)); have n5_ := A0_.mk ((by rw [hg]; exact (below_size (by repeat (first | (with_reducible first | exact HB.out | apply bal | apply pdN | apply bdr | refine bst ?_ GE174.out | refine bst ?_ GE176.out) | exact HB.out))) : w.heap.size ≤ gb178)); have n6_ := A0_.mk ((by rw [hg]; exact Nat.ne_of_lt (blk_lt (g := gb174) (o := .cells #[.slice (some ad175) l0_0.length c0_0] 36 (0, 0)) (by (with_reducible repeat (first | refine bkN ?_ _ | refine bkD ?_ | refine bkA ?_ _)); exact BK174.out)) : gb174 ≠ gb178)); have n7_ := A0_.mk ((by rw [hg]; exact Nat.ne_of_gt (blk_lt (g := gb174) (o := .cells #[.slice (some ad175) l0_0.length c0_0] 36 (0, 0)) (by (with_reducible repeat (first | refine bkN ?_ _ | refine bkD ?_ | refine bkA ?_ _)); exact BK174.out)) : gb178 ≠ gb174)); have n8_ := A0_.mk ((by rw [hg]; exact Nat.ne_of_lt (blk_lt (g := gb176) (o := .cells #[.int .i64 ((rd_T75 l0_0 0).f0), .string ((rd_T75 l0_0 0).f1), .int .i64 ((rd_T75 l0_0 0).f2)] 75 (0, 0)) (by (with_reducible repeat (first | refine bkN ?_ _ | refine bkD ?_ | refine bkA ?_ _)); exact BK176.out)) : gb176 ≠ gb178)); have n9_ := A0_.mk ((by rw [hg]; exact Nat.ne_of_gt (blk_lt (g := gb176) (o := .cells #[.int .i64 ((rd_T75 l0_0 0).f0), .string ((rd_T75 l0_0 0).f1), .int .i64 ((rd_T75 l0_0 0).f2)] 75 (0, 0)) (by (with_reducible repeat (first | refine bkN ?_ _ | refine bkD ?_ | refine bkA ?_ _)); exact BK176.out)) : gb178 ≠ gb176)); clear BK174; clear BK176; clear HB; have BK174 := n0_; have BK176 := n1_; have HB := n2_; have BK178 := n3_; have GW178 := n4_; have GE178 := n5_; have NB174_178 := n6_; have NB178_174 := n7_; have NB176_178 := n8_; have NB178_176 := n9_; clear n0_ n1_ n2_ n3_ n4_ n5_ n6_ n7_ n8_ n9_; clear hb hbox hg; have hnb54 := NB178_174.out; have hnc54 := NB174_178.out; have hnb55 := NB178_176.out; have hnc55 := NB176_178.out; have hcz56_0 : w53.cell? ⟨gb178, 0, none⟩ = some (.int .i64 0) := (bkC BK178.out 0).trans rfl; have hcz56_1 : w53.cell? ⟨gb178, 1, none⟩ = some (.string (⟨#[]⟩ : ByteArray)) := (bkC BK178.out 1).trans rfl; have hcz56_2 : w53.cell? ⟨gb178, 2, none⟩ = some (.int .i64 0) := (bkC BK178.out 2).trans rfl; have hfz56_0 := bkF BK178.out 0; have hfz56_1 := bkF BK178.out 1; have hfz56_2 := bkF BK178.out 2; have hcz57_0 : w53.cell? ⟨gb174, 0, none⟩ = some (.slice (some ad175) l0_0.length c0_0) := (bkC BK174.out 0).trans rfl; have hfz57_0 := bkF BK174.out 0; have p179 : 0 ≤ (((rd_T75 l0_0 x5_3).f0) : Int) := of_decide_eq_true (by first | (with_reducible assumption) | assumption); have q179 : ((rd_T75 l0_0 x5_3).f0) < (l0_0.length : Int) := of_decide_eq_true (by first | (with_reducible assumption) | assumption); obtain ⟨ad179, e179, hx179_0, hx179_1, hx179_2⟩ := at_T75 HR0_0.out ((rd_T75 l0_0 x5_3).f0) p179 q179; obtain rfl : ad175 = ad179 := (by injection e179); have hn179_0 : ad175.block ≠ gb178 := Nat.ne_of_lt (Nat.lt_of_lt_of_le (by have := World.block_lt_of_cell? _ _ hx179_0; first | rwa [add_block] at this | exact this) GW178.out); have hn179_1 : ad175.block ≠ gb178 := Nat.ne_of_lt (Nat.lt_of_lt_of_le (by have := World.block_lt_of_cell? _ _ hx179_0; first | rwa [add_block] at this | exact this) GW178.out); have hn179_2 : ad175.block ≠ gb178 := Nat.ne_of_lt (Nat.lt_of_lt_of_le (by have := World.block_lt_of_cell? _ _ hx179_0; first | rwa [add_block] at this | exact this) GW178.out); replace hx179_0 := (HB.out.cell (World.block_lt_of_cell? w _ hx179_0)).trans hx179_0; replace hx179_1 := (HB.out.cell (World.block_lt_of_cell? w _ hx179_1)).trans hx179_1; replace hx179_2 := (HB.out.cell (World.block_lt_of_cell? w _ hx179_2)).trans hx179_2; replace hx179_0 := (cell_far (p := ⟨gb178, 0, none⟩) (by first | (rw [add_block]; exact hn179_0) | (show (Addr.add _ _).block ≠ _; rw [add_block]; exact hn179_0) | exact hn179_0) (.int .i64 ((rd_T75 l0_0 x5_3).f0))).trans hx179_0; replace hx179_1 := (cell_far (p := ⟨gb178, 0, none⟩) (by first | (rw [add_block]; exact hn179_0) | (show (Addr.add _ _).block ≠ _; rw [add_block]; exact hn179_0) | exact hn179_0) (.int .i64 ((rd_T75 l0_0 x5_3).f0))).trans hx179_1; replace hx179_2 := (cell_far (p := ⟨gb178, 0, none⟩) (by first | (rw [add_block]; exact hn179_0) | (show (Addr.add _ _).block ≠ _; rw [add_block]; exact hn179_0) | exact hn179_0) (.int .i64 ((rd_T75 l0_0 x5_3).f0))).trans hx179_2; replace hx179_0 := (cell_far (p := ⟨gb178, 1, none⟩) (by first | (rw [add_block]; exact hn179_1) | (show (Addr.add _ _).block ≠ _; rw [add_block]; exact hn179_1) | exact hn179_1) (.string ((rd_T75 l0_0 x5_3).f1))).trans hx179_0; replace hx179_1 := (cell_far (p := ⟨gb178, 1, none⟩) (by first | (rw [add_block]; exact hn179_1) | (show (Addr.add _ _).block ≠ _; rw [add_block]; exact hn179_1) | exact hn179_1) (.string ((rd_T75 l0_0 x5_3).f1))).trans hx179_1; replace hx179_2 := (cell_far (p := ⟨gb178, 1, none⟩) (by first | (rw [add_block]; exact hn179_1) | (show (Addr.add _ _).block ≠ _; rw [add_block]; exact hn179_1) | exact hn179_1) (.string ((rd_T75 l0_0 x5_3).f1))).trans hx179_2; replace hx179_0 := (cell_far (p := ⟨gb178, 2, none⟩) (by first | (rw [add_block]; exact hn179_2) | (show (Addr.add _ _).block ≠ _; rw [add_block]; exact hn179_2) | exact hn179_2) (.int .i64 ((rd_T75 l0_0 x5_3).f2))).trans hx179_0; replace hx179_1 := (cell_far (p := ⟨gb178, 2, none⟩) (by first | (rw [add_block]; exact hn179_2) | (show (Addr.add _ _).block ≠ _; rw [add_block]; exact hn179_2) | exact hn179_2) (.int .i64 ((rd_T75 l0_0 x5_3).f2))).trans hx179_1; replace hx179_2 := (cell_far (p := ⟨gb178, 2, none⟩) (by first | (rw [add_block]; exact hn179_2) | (show (Addr.add _ _).block ≠ _; rw [add_block]; exact hn179_2) | exact hn179_2) (.int .i64 ((rd_T75 l0_0 x5_3).f2))).trans hx179_2; (try have hy179_0 := fun (n_ : Nat) => (show (((((w53.drewN n_).setCell ⟨gb178, 0, none⟩ (.int .i64 ((rd_T75 l0_0 x5_3).f0))).setCell ⟨gb178, 1, none⟩ (.string ((rd_T75 l0_0 x5_3).f1))).setCell ⟨gb178, 2, none⟩ (.int .i64 ((rd_T75 l0_0 x5_3).f2)))).cell? _ = some _ from hx179_0)); (try have hy179_1 := fun (n_ : Nat) => (show (((((w53.drewN n_).setCell ⟨gb178, 0, none⟩ (.int .i64 ((rd_T75 l0_0 x5_3).f0))).setCell ⟨gb178, 1, none⟩ (.string ((rd_T75 l0_0 x5_3).f1))).setCell ⟨gb178, 2, none⟩ (.int .i64 ((rd_T75 l0_0 x5_3).f2)))).cell? _ = some _ from hx179_1)); (try have hy179_2 := fun (n_ : Nat) => (show (((((w53.drewN n_).setCell ⟨gb178, 0, none⟩ (.int .i64 ((rd_T75 l0_0 x5_3).f0))).setCell ⟨gb178, 1, none⟩ (.string ((rd_T75 l0_0 x5_3).f1))).setCell ⟨gb178, 2, none⟩ (.int .i64 ((rd_T75 l0_0 x5_3).f2)))).cell? _ = some _ from hx179_2)); clear hn179_0; clear hn179_1; clear hn179_2; replace p179 := eq_true p179; replace q179 := eq_true q179)))
                    go_ret
                    exact ⟨by first | rfl | (simp [errW_none, errW_some] <;> rfl) | (simp [*, errW_none, errW_some] <;> rfl), by repeat (first | (with_reducible first | exact HB.out | apply bal | apply pdN | apply bdr | refine bst ?_ GE174.out | refine bst ?_ GE176.out | refine bst ?_ GE178.out) | exact HB.out)⟩
                   ·rw [if_neg c50] at H
                    have c50b0 : decide (4000 < (((rd_T75 l0_0 x5_3).f1).size : Int)) = false := decide_eq_false c50
                    have c50b1 : decide (4000 < ((rd_T75 l0_0 x5_3).f1).size) = false := decide_eq_false (by omega)
                    clear c50
                    have H' := A0_.mk H
                    clear H
                    have hnb58 := NB174_176.out
                    have hnc58 := NB176_174.out
                    have hcz59_0 : wr.cell? ⟨gb174, 0, none⟩ = some (.slice (some ad175) l0_0.length c0_0) := (bkC BK174.out 0).trans rfl
                    have hfz59_0 := bkF BK174.out 0
                    have p177 : 0 ≤ (x5_3 : Int) := of_decide_eq_true (by first | (with_reducible assumption) | assumption)
                    have q177 : x5_3 < (l0_0.length : Int) := of_decide_eq_true (by first | (with_reducible assumption) | assumption)
                    obtain ⟨ad177, e177, hx177_0, hx177_1, hx177_2⟩ := at_T75 HR0_0.out x5_3 p177 q177
                    obtain rfl : ad175 = ad177 := (by injection e177)
                    replace hx177_0 := (HB.out.cell (World.block_lt_of_cell? w _ hx177_0)).trans hx177_0
                    replace hx177_1 := (HB.out.cell (World.block_lt_of_cell? w _ hx177_1)).trans hx177_1
                    replace hx177_2 := (HB.out.cell (World.block_lt_of_cell? w _ hx177_2)).trans hx177_2
                    replace p177 := eq_true p177
                    replace q177 := eq_true q177
                    go_wp2_with (first | ((with_reducible refine gate_dst (N := 6) rfl ?_); (try (refine gate_guard (by rfl) ?_; dsimp only)); refine box_event ?hg (N := 6) ?hd (cs := #[.int .i64 0, .string (⟨#[]⟩ : ByteArray), .int .i64 0]) (t := 75) ?hr ?_; (case hd => rfl); (case hg => rfl); (case hr => first | (go_simp; done) | (go_simp; rfl)); intro gb178 hg w60 hbox hb; have n0_ := A0_.mk (blk_below (g := gb174) (o := .cells #[.slice (some ad175) l0_0.length c0_0] 36 (0, 0)) (by (with_reducible repeat (first | refine bkN ?_ _ | refine bkD ?_ | refine bkA ?_ _)); exact BK174.out) hb); have n1_ := A0_.mk (blk_below (g := gb176) (o := .cells #[.int .i64 ((rd_T75 l0_0 0).f0), .string ((rd_T75 l0_0 0).f1), .int .i64 ((rd_T75 l0_0 0).f2)] 75 (0, 0)) (by (with_reducible repeat (first | refine bkN ?_ _ | refine bkD ?_ | refine bkA ?_ _)); exact BK176.out) hb); have n2_ := A0_.mk (below_step (by repeat (first | (with_reducible first | exact HB.out | apply bal | apply pdN | apply bdr | refine bst ?_ GE174.out | refine bst ?_ GE176.out) | exact HB.out)) hb); have n3_ := A0_.mk (hbox); have n4_ := A0_.mk ((by rw [hg]; exact (below_size (by repeat (first | (with_reducible first | exact HB.out | apply bal | apply pdN | apply bdr | refine bst ?_ GE174.out | refine bst ?_ GE176.out) | exact HB.out))) : w.heap.size ≤ gb178)); have n5_ := A0_.mk ((by rw [hg]; exact (below_size (by repeat (first | (with_reducible first | exact HB.out | apply bal | apply pdN | apply bdr | refine bst ?_ GE174.out | refine bst ?_ GE176.out) | exact HB.out))) : w.heap.size ≤ gb178)); have n6_ := A0_.mk ((by rw [hg]; exact Nat.ne_of_lt (blk_lt (g := gb174) (o := .cells #[.slice (some ad175) l0_0.length c0_0] 36 (0, 0)) (by (with_reducible repeat (first | refine bkN ?_ _ | refine bkD ?_ | refine bkA ?_ _)); exact BK174.out)) : gb174 ≠ gb178)); have n7_ := A0_.mk ((by rw [hg]; exact Nat.ne_of_gt (blk_lt (g := gb174) (o := .cells #[.slice (some ad175) l0_0.length c0_0] 36 (0, 0)) (by (with_reducible repeat (first | refine bkN ?_ _ | refine bkD ?_ | refine bkA ?_ _)); exact BK174.out)) : gb178 ≠ gb174)); have n8_ := A0_.mk ((by rw [hg]; exact Nat.ne_of_lt (blk_lt (g := gb176) (o := .cells #[.int .i64 ((rd_T75 l0_0 0).f0), .string ((rd_T75 l0_0 0).f1), .int .i64 ((rd_T75 l0_0 0).f2)] 75 (0, 0)) (by (with_reducible repeat (first | refine bkN ?_ _ | refine bkD ?_ | refine bkA ?_ _)); exact BK176.out)) : gb176 ≠ gb178)); have n9_ := A0_.mk ((by rw [hg]; exact Nat.ne_of_gt (blk_lt (g := gb176) (o := .cells #[.int .i64 ((rd_T75 l0_0 0).f0), .string ((rd_T75 l0_0 0).f1), .int .i64 ((rd_T75 l0_0 0).f2)] 75 (0, 0)) (by (with_reducible repeat (first | refine bkN ?_ _ | refine bkD ?_ | refine bkA ?_ _)); exact BK176.out)) : gb178 ≠ gb176)); clear BK174; clear BK176; clear HB; have BK174 := n0_; have BK176 := n1_; have HB := n2_; have BK178 := n3_; have GW178 := n4_; have GE178 := n5_; have NB174_178 := n6_; have NB178_174 := n7_; have NB176_178 := n8_; have NB178_176 := n9_; clear n0_ n1_ n2_ n3_ n4_ n5_ n6_ n7_ n8_ n9_; clear hb hbox hg; have hnb61 := NB178_174.out; have hnc61 := NB174_178.out; have hnb62 := NB178_176.out; have hnc62 := NB176_178.out; have hcz63_0 : w60.cell? ⟨gb178, 0, none⟩ = some (.int .i64 0) := (bkC BK178.out 0).trans rfl; have hcz63_1 : w60.cell? ⟨gb178, 1, none⟩ = some (.string (⟨#[]⟩ : ByteArray)) := (bkC BK178.out 1).trans rfl; have hcz63_2 : w60.cell? ⟨gb178, 2, none⟩ = some (.int .i64 0) := (bkC BK178.out 2).trans rfl; have hfz63_0 := bkF BK178.out 0; have hfz63_1 := bkF BK178.out 1; have hfz63_2 := bkF BK178.out 2; have hcz64_0 : w60.cell? ⟨gb174, 0, none⟩ = some (.slice (some ad175) l0_0.length c0_0) := (bkC BK174.out 0).trans rfl; have hfz64_0 := bkF BK174.out 0; have p179 : 0 ≤ (((rd_T75 l0_0 x5_3).f0) : Int) := of_decide_eq_true (by first | (with_reducible assumption) | assumption); have q179 : ((rd_T75 l0_0 x5_3).f0) < (l0_0.length : Int) := of_decide_eq_true (by first | (with_reducible assumption) | assumption); obtain ⟨ad179, e179, hx179_0, hx179_1, hx179_2⟩ := at_T75 HR0_0.out ((rd_T75 l0_0 x5_3).f0) p179 q179; obtain rfl : ad175 = ad179 := (by injection e179); have hn179_0 : ad175.block ≠ gb178 := Nat.ne_of_lt (Nat.lt_of_lt_of_le (by have := World.block_lt_of_cell? _ _ hx179_0; first | rwa [add_block] at this | exact this) GW178.out); have hn179_1 : ad175.block ≠ gb178 := Nat.ne_of_lt (Nat.lt_of_lt_of_le (by have := World.block_lt_of_cell? _ _ hx179_0; first | rwa [add_block] at this | exact this) GW178.out); have hn179_2 : ad175.block ≠ gb178 := Nat.ne_of_lt (Nat.lt_of_lt_of_le (by have := World.block_lt_of_cell? _ _ hx179_0; first | rwa [add_block] at this | exact this) GW178.out); replace hx179_0 := (HB.out.cell (World.block_lt_of_cell? w _ hx179_0)).trans hx179_0; replace hx179_1 := (HB.out.cell (World.block_lt_of_cell? w _ hx179_1)).trans hx179_1; replace hx179_2 := (HB.out.cell (World.block_lt_of_cell? w _ hx179_2)).trans hx179_2; replace hx179_0 := (cell_far (p := ⟨gb178, 0, none⟩) (by first | (rw [add_block]; exact hn179_0) | (show (Addr.add _ _).block ≠ _; rw [add_block]; exact hn179_0) | exact hn179_0) (.int .i64 ((rd_T75 l0_0 x5_3).f0))).trans hx179_0; replace hx179_1 := (cell_far (p := ⟨gb178, 0, none⟩) (by first | (rw [add_block]; exact hn179_0) | (show (Addr.add _ _).block ≠ _; rw [add_block]; exact hn179_0) | exact hn179_0) (.int .i64 ((rd_T75 l0_0 x5_3).f0))).trans hx179_1; replace hx179_2 := (cell_far (p := ⟨gb178, 0, none⟩) (by first | (rw [add_block]; exact hn179_0) | (show (Addr.add _ _).block ≠ _; rw [add_block]; exact hn179_0) | exact hn179_0) (.int .i64 ((rd_T75 l0_0 x5_3).f0))).trans hx179_2; replace hx179_0 := (cell_far (p := ⟨gb178, 1, none⟩) (by first | (rw [add_block]; exact hn179_1) | (show (Addr.add _ _).block ≠ _; rw [add_block]; exact hn179_1) | exact hn179_1) (.string ((rd_T75 l0_0 x5_3).f1))).trans hx179_0; replace hx179_1 := (cell_far (p := ⟨gb178, 1, none⟩) (by first | (rw [add_block]; exact hn179_1) | (show (Addr.add _ _).block ≠ _; rw [add_block]; exact hn179_1) | exact hn179_1) (.string ((rd_T75 l0_0 x5_3).f1))).trans hx179_1; replace hx179_2 := (cell_far (p := ⟨gb178, 1, none⟩) (by first | (rw [add_block]; exact hn179_1) | (show (Addr.add _ _).block ≠ _; rw [add_block]; exact hn179_1) | exact hn179_1) (.string ((rd_T75 l0_0 x5_3).f1))).trans hx179_2; replace hx179_0 := (cell_far (p := ⟨gb178, 2, none⟩) (by first | (rw [add_block]; exact hn179_2) | (show (Addr.add _ _).block ≠ _; rw [add_block]; exact hn179_2) | exact hn179_2) (.int .i64 ((rd_T75 l0_0 x5_3).f2))).trans hx179_0; replace hx179_1 := (cell_far (p := ⟨gb178, 2, none⟩) (by first | (rw [add_block]; exact hn179_2) | (show (Addr.add _ _).block ≠ _; rw [add_block]; exact hn179_2) | exact hn179_2) (.int .i64 ((rd_T75 l0_0 x5_3).f2))).trans hx179_1; replace hx179_2 := (cell_far (p := ⟨gb178, 2, none⟩) (by first | (rw [add_block]; exact hn179_2) | (show (Addr.add _ _).block ≠ _; rw [add_block]; exact hn179_2) | exact hn179_2) (.int .i64 ((rd_T75 l0_0 x5_3).f2))).trans hx179_2; (try have hy179_0 := fun (n_ : Nat) => (show (((((w60.drewN n_).setCell ⟨gb178, 0, none⟩ (.int .i64 ((rd_T75 l0_0 x5_3).f0))).setCell ⟨gb178, 1, none⟩ (.string ((rd_T75 l0_0 x5_3).f1))).setCell ⟨gb178, 2, none⟩ (.int .i64 ((rd_T75 l0_0 x5_3).f2)))).cell? _ = some _ from hx179_0)); (try have hy179_1 := fun (n_ : Nat) => (show (((((w60.drewN n_).setCell ⟨gb178, 0, none⟩ (.int .i64 ((rd_T75 l0_0 x5_3).f0))).setCell ⟨gb178, 1, none⟩ (.string ((rd_T75 l0_0 x5_3).f1))).setCell ⟨gb178, 2, none⟩ (.int .i64 ((rd_T75 l0_0 x5_3).f2)))).cell? _ = some _ from hx179_1)); (try have hy179_2 := fun (n_ : Nat) => (show (((((w60.drewN n_).setCell ⟨gb178, 0, none⟩ (.int .i64 ((rd_T75 l0_0 x5_3).f0))).setCell ⟨gb178, 1, none⟩ (.string ((rd_T75 l0_0 x5_3).f1))).setCell ⟨gb178, 2, none⟩ (.int .i64 ((rd_T75 l0_0 x5_3).f2)))).cell? _ = some _ from hx179_2)); clear hn179_0; clear hn179_1; clear hn179_2; replace p179 := eq_true p179; replace q179 := eq_true q179))
                    repeat (go_quiet (first | ((with_reducible refine gate_dst (N := 6) rfl ?_); (try (refine gate_guard (by rfl) ?_; dsimp only)); refine box_event ?hg (N := 6) ?hd (cs := #[.int .i64 0, .string (⟨#[]⟩ : ByteArray), .int .i64 0]) (t := 75) ?hr ?_; (case hd => rfl); (case hg => rfl); (case hr => first | (go_simp; done) | (go_simp; rfl)); intro gb178 hg w60 hbox hb; have n0_ := A0_.mk (blk_below (g := gb174) (o := .cells #[.slice (some ad175) l0_0.length c0_0] 36 (0, 0)) (by (with_reducible repeat (first | refine bkN ?_ _ | refine bkD ?_ | refine bkA ?_ _)); exact BK174.out) hb); have n1_ := A0_.mk (blk_below (g := gb176) (o := .cells #[.int .i64 ((rd_T75 l0_0 0).f0), .string ((rd_T75 l0_0 0).f1), .int .i64 ((rd_T75 l0_0 0).f2)] 75 (0, 0)) (by (with_reducible repeat (first | refine bkN ?_ _ | refine bkD ?_ | refine bkA ?_ _)); exact BK176.out) hb); have n2_ := A0_.mk (below_step (by repeat (first | (with_reducible first | exact HB.out | apply bal | apply pdN | apply bdr | refine bst ?_ GE174.out | refine bst ?_ GE176.out) | exact HB.out)) hb); have n3_ := A0_.mk (hbox); have n4_ := A0_.mk ((by rw [hg]; exact (below_size (by repeat (first | (with_reducible first | exact HB.out | apply bal | apply pdN | apply bdr | refine bst ?_ GE174.out | refine bst ?_ GE176.out) | exact HB.out))) : w.heap.size ≤ gb178)); have n5_ := A0_.mk ((by rw [hg]; exact (below_size (by repeat (first | (with_reducible first | exact HB.out | apply bal | apply pdN | apply bdr | refine bst ?_ GE174.out | refine bst ?_ GE176.out) | exact HB.out))) : w.heap.size ≤ gb178)); have n6_ := A0_.mk ((by rw [hg]; exact Nat.ne_of_lt (blk_lt (g := gb174) (o := .cells #[.slice (some ad175) l0_0.length c0_0] 36 (0, 0)) (by (with_reducible repeat (first | refine bkN ?_ _ | refine bkD ?_ | refine bkA ?_ _)); exact BK174.out)) : gb174 ≠ gb178)); have n7_ := A0_.mk ((by rw [hg]; exact Nat.ne_of_gt (blk_lt (g := gb174) (o := .cells #[.slice (some ad175) l0_0.length c0_0] 36 (0, 0)) (by (with_reducible repeat (first | refine bkN ?_ _ | refine bkD ?_ | refine bkA ?_ _)); exact BK174.out)) : gb178 ≠ gb174)); have n8_ := A0_.mk ((by rw [hg]; exact Nat.ne_of_lt (blk_lt (g := gb176) (o := .cells #[.int .i64 ((rd_T75 l0_0 0).f0), .string ((rd_T75 l0_0 0).f1), .int .i64 ((rd_T75 l0_0 0).f2)] 75 (0, 0)) (by (with_reducible repeat (first | refine bkN ?_ _ | refine bkD ?_ | refine bkA ?_ _)); exact BK176.out)) : gb176 ≠ gb178)); have n9_ := A0_.mk ((by rw [hg]; exact Nat.ne_of_gt (blk_lt (g := gb176) (o := .cells #[.int .i64 ((rd_T75 l0_0 0).f0), .string ((rd_T75 l0_0 0).f1), .int .i64 ((rd_T75 l0_0 0).f2)] 75 (0, 0)) (by (with_reducible repeat (first | refine bkN ?_ _ | refine bkD ?_ | refine bkA ?_ _)); exact BK176.out)) : gb178 ≠ gb176)); clear BK174; clear BK176; clear HB; have BK174 := n0_; have BK176 := n1_; have HB := n2_; have BK178 := n3_; have GW178 := n4_; have GE178 := n5_; have NB174_178 := n6_; have NB178_174 := n7_; have NB176_178 := n8_; have NB178_176 := n9_; clear n0_ n1_ n2_ n3_ n4_ n5_ n6_ n7_ n8_ n9_; clear hb hbox hg; have hnb61 := NB178_174.out; have hnc61 := NB174_178.out; have hnb62 := NB178_176.out; have hnc62 := NB176_178.out; have hcz63_0 : w60.cell? ⟨gb178, 0, none⟩ = some (.int .i64 0) := (bkC BK178.out 0).trans rfl; have hcz63_1 : w60.cell? ⟨gb178, 1, none⟩ = some (.string (⟨#[]⟩ : ByteArray)) := (bkC BK178.out 1).trans rfl; have hcz63_2 : w60.cell? ⟨gb178, 2, none⟩ = some (.int .i64 0) := (bkC BK178.out 2).trans rfl; have hfz63_0 := bkF BK178.out 0; have hfz63_1 := bkF BK178.out 1; have hfz63_2 := bkF BK178.out 2; have hcz64_0 : w60.cell? ⟨gb174, 0, none⟩ = some (.slice (some ad175) l0_0.length c0_0) := (bkC BK174.out 0).trans rfl; have hfz64_0 := bkF BK174.out 0; have p179 : 0 ≤ (((rd_T75 l0_0 x5_3).f0) : Int) := of_decide_eq_true (by first | (with_reducible assumption) | assumption); have q179 : ((rd_T75 l0_0 x5_3).f0) < (l0_0.length : Int) := of_decide_eq_true (by first | (with_reducible assumption) | assumption); obtain ⟨ad179, e179, hx179_0, hx179_1, hx179_2⟩ := at_T75 HR0_0.out ((rd_T75 l0_0 x5_3).f0) p179 q179; obtain rfl : ad175 = ad179 := (by injection e179); have hn179_0 : ad175.block ≠ gb178 := Nat.ne_of_lt (Nat.lt_of_lt_of_le (by have := World.block_lt_of_cell? _ _ hx179_0; first | rwa [add_block] at this | exact this) GW178.out); have hn179_1 : ad175.block ≠ gb178 := Nat.ne_of_lt (Nat.lt_of_lt_of_le (by have := World.block_lt_of_cell? _ _ hx179_0; first | rwa [add_block] at this | exact this) GW178.out); have hn179_2 : ad175.block ≠ gb178 := Nat.ne_of_lt (Nat.lt_of_lt_of_le (by have := World.block_lt_of_cell? _ _ hx179_0; first | rwa [add_block] at this | exact this) GW178.out); replace hx179_0 := (HB.out.cell (World.block_lt_of_cell? w _ hx179_0)).trans hx179_0; replace hx179_1 := (HB.out.cell (World.block_lt_of_cell? w _ hx179_1)).trans hx179_1; replace hx179_2 := (HB.out.cell (World.block_lt_of_cell? w _ hx179_2)).trans hx179_2; replace hx179_0 := (cell_far (p := ⟨gb178, 0, none⟩) (by first | (rw [add_block]; exact hn179_0) | (show (Addr.add _ _).block ≠ _; rw [add_block]; exact hn179_0) | exact hn179_0) (.int .i64 ((rd_T75 l0_0 x5_3).f0))).trans hx179_0; replace hx179_1 := (cell_far (p := ⟨gb178, 0, none⟩) (by first | (rw [add_block]; exact hn179_0) | (show (Addr.add _ _).block ≠ _; rw [add_block]; exact hn179_0) | exact hn179_0) (.int .i64 ((rd_T75 l0_0 x5_3).f0))).trans hx179_1; replace hx179_2 := (cell_far (p := ⟨gb178, 0, none⟩) (by first | (rw [add_block]; exact hn179_0) | (show (Addr.add _ _).block ≠ _; rw [add_block]; exact hn179_0) | exact hn179_0) (.int .i64 ((rd_T75 l0_0 x5_3).f0))).trans hx179_2; replace hx179_0 := (cell_far (p := ⟨gb178, 1, none⟩) (by first | (rw [add_block]; exact hn179_1) | (show (Addr.add _ _).block ≠ _; rw [add_block]; exact hn179_1) | exact hn179_1) (.string ((rd_T75 l0_0 x5_3).f1))).trans hx179_0; replace hx179_1 := (cell_far (p := ⟨gb178, 1, none⟩) (by first | (rw [add_block]; exact hn179_1) | (show (Addr.add _ _).block ≠ _; rw [add_block]; exact hn179_1) | exact hn179_1) (.string ((rd_T75 l0_0 x5_3).f1))).trans hx179_1; replace hx179_2 := (cell_far (p := ⟨gb178, 1, none⟩) (by first | (rw [add_block]; exact hn179_1) | (show (Addr.add _ _).block ≠ _; rw [add_block]; exact hn179_1) | exact hn179_1) (.string ((rd_T75 l0_0 x5_3).f1))).trans hx179_2; replace hx179_0 := (cell_far (p := ⟨gb178, 2, none⟩) (by first | (rw [add_block]; exact hn179_2) | (show (Addr.add _ _).block ≠ _; rw [add_block]; exact hn179_2) | exact hn179_2) (.int .i64 ((rd_T75 l0_0 x5_3).f2))).trans hx179_0; replace hx179_1 := (cell_far (p := ⟨gb178, 2, none⟩) (by first | (rw [add_block]; exact hn179_2) | (show (Addr.add _ _).block ≠ _; rw [add_block]; exact hn179_2) | exact hn179_2) (.int .i64 ((rd_T75 l0_0 x5_3).f2))).trans hx179_1; replace hx179_2 := (cell_far (p := ⟨gb178, 2, none⟩) (by first | (rw [add_block]; exact hn179_2) | (show (Addr.add _ _).block ≠ _; rw [add_block]; exact hn179_2) | exact hn179_2) (.int .i64 ((rd_T75 l0_0 x5_3).f2))).trans hx179_2; (try have hy179_0 := fun (n_ : Nat) => (show (((((w60.drewN n_).setCell ⟨gb178, 0, none⟩ (.int .i64 ((rd_T75 l0_0 x5_3).f0))).setCell ⟨gb178, 1, none⟩ (.string ((rd_T75 l0_0 x5_3).f1))).setCell ⟨gb178, 2, none⟩ (.int .i64 ((rd_T75 l0_0 x5_3).f2)))).cell? _ = some _ from hx179_0)); (try have hy179_1 := fun (n_ : Nat) => (show (((((w60.drewN n_).setCell ⟨gb178, 0, none⟩ (.int .i64 ((rd_T75 l0_0 x5_3).f0))).setCell ⟨gb178, 1, none⟩ (.string ((rd_T75 l0_0 x5_3).f1))).setCell ⟨gb178, 2, none⟩ (.int .i64 ((rd_T75 l0_0 x5_3).f2)))).cell? _ = some _ from hx179_1)); (try have hy179_2 := fun (n_ : Nat) => (show (((((w60.drewN n_).setCell ⟨gb178, 0, none⟩ (.int .i64 ((rd_T75 l0_0 x5_3).f0))).setCell ⟨gb178, 1, none⟩ (.string ((rd_T75 l0_0 x5_3).f1))).setCell ⟨gb178, 2, none⟩ (.int .i64 ((rd_T75 l0_0 x5_3).f2)))).cell? _ = some _ from hx179_2)); clear hn179_0; clear hn179_1; clear hn179_2; replace p179 := eq_true p179; replace q179 := eq_true q179)); try go_wp2_with (first | ((with_reducible refine gate_dst (N := 6) rfl ?_); (try (refine gate_guard (by rfl) ?_; dsimp only)); refine box_event ?hg (N := 6) ?hd (cs := #[.int .i64 0, .string (⟨#[]⟩ : ByteArray), .int .i64 0]) (t := 75) ?hr ?_; (case hd => rfl); (case hg => rfl); (case hr => first | (go_simp; done) | (go_simp; rfl)); intro gb178 hg w60 hbox hb; have n0_ := A0_.mk (blk_below (g := gb174) (o := .cells #[.slice (some ad175) l0_0.length c0_0] 36 (0, 0)) (by (with_reducible repeat (first | refine bkN ?_ _ | refine bkD ?_ | refine bkA ?_ _)); exact BK174.out) hb); have n1_ := A0_.mk (blk_below (g := gb176) (o := .cells #[.int .i64 ((rd_T75 l0_0 0).f0), .string ((rd_T75 l0_0 0).f1), .int .i64 ((rd_T75 l0_0 0).f2)] 75 (0, 0)) (by (with_reducible repeat (first | refine bkN ?_ _ | refine bkD ?_ | refine bkA ?_ _)); exact BK176.out) hb); have n2_ := A0_.mk (below_step (by repeat (first | (with_reducible first | exact HB.out | apply bal | apply pdN | apply bdr | refine bst ?_ GE174.out | refine bst ?_ GE176.out) | exact HB.out)) hb); have n3_ := A0_.mk (hbox); have n4_ := A0_.mk ((by rw [hg]; exact (below_size (by repeat (first | (with_reducible first | exact HB.out | apply bal | apply pdN | apply bdr | refine bst ?_ GE174.out | refine bst ?_ GE176.out) | exact HB.out))) : w.heap.size ≤ gb178)); have n5_ := A0_.mk ((by rw [hg]; exact (below_size (by repeat (first | (with_reducible first | exact HB.out | apply bal | apply pdN | apply bdr | refine bst ?_ GE174.out | refine bst ?_ GE176.out) | exact HB.out))) : w.heap.size ≤ gb178)); have n6_ := A0_.mk ((by rw [hg]; exact Nat.ne_of_lt (blk_lt (g := gb174) (o := .cells #[.slice (some ad175) l0_0.length c0_0] 36 (0, 0)) (by (with_reducible repeat (first | refine bkN ?_ _ | refine bkD ?_ | refine bkA ?_ _)); exact BK174.out)) : gb174 ≠ gb178)); have n7_ := A0_.mk ((by rw [hg]; exact Nat.ne_of_gt (blk_lt (g := gb174) (o := .cells #[.slice (some ad175) l0_0.length c0_0] 36 (0, 0)) (by (with_reducible repeat (first | refine bkN ?_ _ | refine bkD ?_ | refine bkA ?_ _)); exact BK174.out)) : gb178 ≠ gb174)); have n8_ := A0_.mk ((by rw [hg]; exact Nat.ne_of_lt (blk_lt (g := gb176) (o := .cells #[.int .i64 ((rd_T75 l0_0 0).f0), .string ((rd_T75 l0_0 0).f1), .int .i64 ((rd_T75 l0_0 0).f2)] 75 (0, 0)) (by (with_reducible repeat (first | refine bkN ?_ _ | refine bkD ?_ | refine bkA ?_ _)); exact BK176.out)) : gb176 ≠ gb178)); have n9_ := A0_.mk ((by rw [hg]; exact Nat.ne_of_gt (blk_lt (g := gb176) (o := .cells #[.int .i64 ((rd_T75 l0_0 0).f0), .string ((rd_T75 l0_0 0).f1), .int .i64 ((rd_T75 l0_0 0).f2)] 75 (0, 0)) (by (with_reducible repeat (first | refine bkN ?_ _ | refine bkD ?_ | refine bkA ?_ _)); exact BK176.out)) : gb178 ≠ gb176)); clear BK174; clear BK176; clear HB; have BK174 := n0_; have BK176 := n1_; have HB := n2_; have BK178 := n3_; have GW178 := n4_; have GE178 := n5_; have NB174_178 := n6_; have NB178_174 := n7_; have NB176_178 := n8_; have NB178_176 := n9_; clear n0_ n1_ n2_ n3_ n4_ n5_ n6_ n7_ n8_ n9_; clear hb hbox hg; have hnb61 := NB178_174.out; have hnc61 := NB174_178.out; have hnb62 := NB178_176.out; have hnc62 := NB176_178.out; have hcz63_0 : w60.cell? ⟨gb178, 0, none⟩ = some (.int .i64 0) := (bkC BK178.out 0).trans rfl; have hcz63_1 : w60.cell? ⟨gb178, 1, none⟩ = some (.string (⟨#[]⟩ : ByteArray)) := (bkC BK178.out 1).trans rfl; have hcz63_2 : w60.cell? ⟨gb178, 2, none⟩ = some (.int .i64 0) := (bkC BK178.out 2).trans rfl; have hfz63_0 := bkF BK178.out 0; have hfz63_1 := bkF BK178.out 1; have hfz63_2 := bkF BK178.out 2; have hcz64_0 : w60.cell? ⟨gb174, 0, none⟩ = some (.slice (some ad175) l0_0.length c0_0) := (bkC BK174.out 0).trans rfl; have hfz64_0 := bkF BK174.out 0; have p179 : 0 ≤ (((rd_T75 l0_0 x5_3).f0) : Int) := of_decide_eq_true (by first | (with_reducible assumption) | assumption); have q179 : ((rd_T75 l0_0 x5_3).f0) < (l0_0.length : Int) := of_decide_eq_true (by first | (with_reducible assumption) | assumption); obtain ⟨ad179, e179, hx179_0, hx179_1, hx179_2⟩ := at_T75 HR0_0.out ((rd_T75 l0_0 x5_3).f0) p179 q179; obtain rfl : ad175 = ad179 := (by injection e179); have hn179_0 : ad175.block ≠ gb178 := Nat.ne_of_lt (Nat.lt_of_lt_of_le (by have := World.block_lt_of_cell? _ _ hx179_0; first | rwa [add_block] at this | exact this) GW178.out); have hn179_1 : ad175.block ≠ gb178 := Nat.ne_of_lt (Nat.lt_of_lt_of_le (by have := World.block_lt_of_cell? _ _ hx179_0; first | rwa [add_block] at this | exact this) GW178.out); have hn179_2 : ad175.block ≠ gb178 := Nat.ne_of_lt (Nat.lt_of_lt_of_le (by have := World.block_lt_of_cell? _ _ hx179_0; first | rwa [add_block] at this | exact this) GW178.out); replace hx179_0 := (HB.out.cell (World.block_lt_of_cell? w _ hx179_0)).trans hx179_0; replace hx179_1 := (HB.out.cell (World.block_lt_of_cell? w _ hx179_1)).trans hx179_1; replace hx179_2 := (HB.out.cell (World.block_lt_of_cell? w _ hx179_2)).trans hx179_2; replace hx179_0 := (cell_far (p := ⟨gb178, 0, none⟩) (by first | (rw [add_block]; exact hn179_0) | (show (Addr.add _ _).block ≠ _; rw [add_block]; exact hn179_0) | exact hn179_0) (.int .i64 ((rd_T75 l0_0 x5_3).f0))).trans hx179_0; replace hx179_1 := (cell_far (p := ⟨gb178, 0, none⟩) (by first | (rw [add_block]; exact hn179_0) | (show (Addr.add _ _).block ≠ _; rw [add_block]; exact hn179_0) | exact hn179_0) (.int .i64 ((rd_T75 l0_0 x5_3).f0))).trans hx179_1; replace hx179_2 := (cell_far (p := ⟨gb178, 0, none⟩) (by first | (rw [add_block]; exact hn179_0) | (show (Addr.add _ _).block ≠ _; rw [add_block]; exact hn179_0) | exact hn179_0) (.int .i64 ((rd_T75 l0_0 x5_3).f0))).trans hx179_2; replace hx179_0 := (cell_far (p := ⟨gb178, 1, none⟩) (by first | (rw [add_block]; exact hn179_1) | (show (Addr.add _ _).block ≠ _; rw [add_block]; exact hn179_1) | exact hn179_1) (.string ((rd_T75 l0_0 x5_3).f1))).trans hx179_0; replace hx179_1 := (cell_far (p := ⟨gb178, 1, none⟩) (by first | (rw [add_block]; exact hn179_1) | (show (Addr.add _ _).block ≠ _; rw [add_block]; exact hn179_1) | exact hn179_1) (.string ((rd_T75 l0_0 x5_3).f1))).trans hx179_1; replace hx179_2 := (cell_far (p := ⟨gb178, 1, none⟩) (by first | (rw [add_block]; exact hn179_1) | (show (Addr.add _ _).block ≠ _; rw [add_block]; exact hn179_1) | exact hn179_1) (.string ((rd_T75 l0_0 x5_3).f1))).trans hx179_2; replace hx179_0 := (cell_far (p := ⟨gb178, 2, none⟩) (by first | (rw [add_block]; exact hn179_2) | (show (Addr.add _ _).block ≠ _; rw [add_block]; exact hn179_2) | exact hn179_2) (.int .i64 ((rd_T75 l0_0 x5_3).f2))).trans hx179_0; replace hx179_1 := (cell_far (p := ⟨gb178, 2, none⟩) (by first | (rw [add_block]; exact hn179_2) | (show (Addr.add _ _).block ≠ _; rw [add_block]; exact hn179_2) | exact hn179_2) (.int .i64 ((rd_T75 l0_0 x5_3).f2))).trans hx179_1; replace hx179_2 := (cell_far (p := ⟨gb178, 2, none⟩) (by first | (rw [add_block]; exact hn179_2) | (show (Addr.add _ _).block ≠ _; rw [add_block]; exact hn179_2) | exact hn179_2) (.int .i64 ((rd_T75 l0_0 x5_3).f2))).trans hx179_2; (try have hy179_0 := fun (n_ : Nat) => (show (((((w60.drewN n_).setCell ⟨gb178, 0, none⟩ (.int .i64 ((rd_T75 l0_0 x5_3).f0))).setCell ⟨gb178, 1, none⟩ (.string ((rd_T75 l0_0 x5_3).f1))).setCell ⟨gb178, 2, none⟩ (.int .i64 ((rd_T75 l0_0 x5_3).f2)))).cell? _ = some _ from hx179_0)); (try have hy179_1 := fun (n_ : Nat) => (show (((((w60.drewN n_).setCell ⟨gb178, 0, none⟩ (.int .i64 ((rd_T75 l0_0 x5_3).f0))).setCell ⟨gb178, 1, none⟩ (.string ((rd_T75 l0_0 x5_3).f1))).setCell ⟨gb178, 2, none⟩ (.int .i64 ((rd_T75 l0_0 x5_3).f2)))).cell? _ = some _ from hx179_1)); (try have hy179_2 := fun (n_ : Nat) => (show (((((w60.drewN n_).setCell ⟨gb178, 0, none⟩ (.int .i64 ((rd_T75 l0_0 x5_3).f0))).setCell ⟨gb178, 1, none⟩ (.string ((rd_T75 l0_0 x5_3).f1))).setCell ⟨gb178, 2, none⟩ (.int .i64 ((rd_T75 l0_0 x5_3).f2)))).cell? _ = some _ from hx179_2)); clear hn179_0; clear hn179_1; clear hn179_2; replace p179 := eq_true p179; replace q179 := eq_true q179)))
                    go_roundg k3
                    case measure => have := HJ1.out; have := HJ7.out; have := HK3.out; omega
                    case rel => exact ⟨(wrap64 (x5_3 + 1)), (by first | rfl | (simp; done) | (simp [*]; done)), H', ⟨by have := HJ1.out; have := HJ7.out; have := HK3.out; omega⟩, ⟨by (with_reducible repeat (first | refine bkN ?_ _ | refine bkD ?_ | refine bkA ?_ _)); refine blk_far ?_ NB174_178.out _; (with_reducible repeat (first | refine bkN ?_ _ | refine bkD ?_ | refine bkA ?_ _)); refine blk_far ?_ NB174_178.out _; (with_reducible repeat (first | refine bkN ?_ _ | refine bkD ?_ | refine bkA ?_ _)); refine blk_far ?_ NB174_178.out _; (with_reducible repeat (first | refine bkN ?_ _ | refine bkD ?_ | refine bkA ?_ _)); exact BK174.out⟩, ⟨by (with_reducible repeat (first | refine bkN ?_ _ | refine bkD ?_ | refine bkA ?_ _)); refine blk_far ?_ NB176_178.out _; (with_reducible repeat (first | refine bkN ?_ _ | refine bkD ?_ | refine bkA ?_ _)); refine blk_far ?_ NB176_178.out _; (with_reducible repeat (first | refine bkN ?_ _ | refine bkD ?_ | refine bkA ?_ _)); refine blk_far ?_ NB176_178.out _; (with_reducible repeat (first | refine bkN ?_ _ | refine bkD ?_ | refine bkA ?_ _)); exact BK176.out⟩, ⟨by repeat (first | (with_reducible first | exact HB.out | apply bal | apply pdN | apply bdr | refine bst ?_ GE174.out | refine bst ?_ GE176.out | refine bst ?_ GE178.out) | exact HB.out)⟩⟩
                 ·rw [if_neg c41] at H
                  have c41b0 : (((rd_T75 l0_0 x5_3).f2) == (wrap64 (((rd_T75 l0_0 ((rd_T75 l0_0 x5_3).f0)).f2) + 1))) = false := beq_eq_false_iff_ne.mpr c41
                  have c41b1 : (((rd_T75 l0_0 x5_3).f2) != (wrap64 (((rd_T75 l0_0 ((rd_T75 l0_0 x5_3).f0)).f2) + 1))) = true := bne_iff_ne.mpr c41
                  obtain rfl := Option.some.inj H
                  have hnb65 := NB174_176.out
                  have hnc65 := NB176_174.out
                  have hcz66_0 : wr.cell? ⟨gb174, 0, none⟩ = some (.slice (some ad175) l0_0.length c0_0) := (bkC BK174.out 0).trans rfl
                  have hfz66_0 := bkF BK174.out 0
                  have p177 : 0 ≤ (x5_3 : Int) := of_decide_eq_true (by first | (with_reducible assumption) | assumption)
                  have q177 : x5_3 < (l0_0.length : Int) := of_decide_eq_true (by first | (with_reducible assumption) | assumption)
                  obtain ⟨ad177, e177, hx177_0, hx177_1, hx177_2⟩ := at_T75 HR0_0.out x5_3 p177 q177
                  obtain rfl : ad175 = ad177 := (by injection e177)
                  replace hx177_0 := (HB.out.cell (World.block_lt_of_cell? w _ hx177_0)).trans hx177_0
                  replace hx177_1 := (HB.out.cell (World.block_lt_of_cell? w _ hx177_1)).trans hx177_1
                  replace hx177_2 := (HB.out.cell (World.block_lt_of_cell? w _ hx177_2)).trans hx177_2
                  replace p177 := eq_true p177
                  replace q177 := eq_true q177
                  go_wp2_with (first | ((with_reducible refine gate_dst (N := 6) rfl ?_); (try (refine gate_guard (by rfl) ?_; dsimp only)); refine box_event ?hg (N := 6) ?hd (cs := #[.int .i64 0, .string (⟨#[]⟩ : ByteArray), .int .i64 0]) (t := 75) ?hr ?_; (case hd => rfl); (case hg => rfl); (case hr => first | (go_simp; done) | (go_simp; rfl)); intro gb178 hg w67 hbox hb; have n0_ := A0_.mk (blk_below (g := gb174) (o := .cells #[.slice (some ad175) l0_0.length c0_0] 36 (0, 0)) (by (with_reducible repeat (first | refine bkN ?_ _ | refine bkD ?_ | refine bkA ?_ _)); exact BK174.out) hb); have n1_ := A0_.mk (blk_below (g := gb176) (o := .cells #[.int .i64 ((rd_T75 l0_0 0).f0), .string ((rd_T75 l0_0 0).f1), .int .i64 ((rd_T75 l0_0 0).f2)] 75 (0, 0)) (by (with_reducible repeat (first | refine bkN ?_ _ | refine bkD ?_ | refine bkA ?_ _)); exact BK176.out) hb); have n2_ := A0_.mk (below_step (by repeat (first | (with_reducible first | exact HB.out | apply bal | apply pdN | apply bdr | refine bst ?_ GE174.out | refine bst ?_ GE176.out) | exact HB.out)) hb); have n3_ := A0_.mk (hbox); have n4_ := A0_.mk ((by rw [hg]; exact (below_size (by repeat (first | (with_reducible first | exact HB.out | apply bal | apply pdN | apply bdr | refine bst ?_ GE174.out | refine bst ?_ GE176.out) | exact HB.out))) : w.heap.size ≤ gb178)); have n5_ := A0_.mk ((by rw [hg]; exact (below_size (by repeat (first | (with_reducible first | exact HB.out | apply bal | apply pdN | apply bdr | refine bst ?_ GE174.out | refine bst ?_ GE176.out) | exact HB.out))) : w.heap.size ≤ gb178)); have n6_ := A0_.mk ((by rw [hg]; exact Nat.ne_of_lt (blk_lt (g := gb174) (o := .cells #[.slice (some ad175) l0_0.length c0_0] 36 (0, 0)) (by (with_reducible repeat (first | refine bkN ?_ _ | refine bkD ?_ | refine bkA ?_ _)); exact BK174.out)) : gb174 ≠ gb178)); have n7_ := A0_.mk ((by rw [hg]; exact Nat.ne_of_gt (blk_lt (g := gb174) (o := .cells #[.slice (some ad175) l0_0.length c0_0] 36 (0, 0)) (by (with_reducible repeat (first | refine bkN ?_ _ | refine bkD ?_ | refine bkA ?_ _)); exact BK174.out)) : gb178 ≠ gb174)); have n8_ := A0_.mk ((by rw [hg]; exact Nat.ne_of_lt (blk_lt (g := gb176) (o := .cells #[.int .i64 ((rd_T75 l0_0 0).f0), .string ((rd_T75 l0_0 0).f1), .int .i64 ((rd_T75 l0_0 0).f2)] 75 (0, 0)) (by (with_reducible repeat (first | refine bkN ?_ _ | refine bkD ?_ | refine bkA ?_ _)); exact BK176.out)) : gb176 ≠ gb178)); have n9_ := A0_.mk ((by rw [hg]; exact Nat.ne_of_gt (blk_lt (g := gb176) (o := .cells #[.int .i64 ((rd_T75 l0_0 0).f0), .string ((rd_T75 l0_0 0).f1), .int .i64 ((rd_T75 l0_0 0).f2)] 75 (0, 0)) (by (with_reducible repeat (first | refine bkN ?_ _ | refine bkD ?_ | refine bkA ?_ _)); exact BK176.out)) : gb178 ≠ gb176)); clear BK174; clear BK176; clear HB; have BK174 := n0_; have BK176 := n1_; have HB := n2_; have BK178 := n3_; have GW178 := n4_; have GE178 := n5_; have NB174_178 := n6_; have NB178_174 := n7_; have NB176_178 := n8_; have NB178_176 := n9_; clear n0_ n1_ n2_ n3_ n4_ n5_ n6_ n7_ n8_ n9_; clear hb hbox hg; have hnb68 := NB178_174.out; have hnc68 := NB174_178.out; have hnb69 := NB178_176.out; have hnc69 := NB176_178.out; have hcz70_0 : w67.cell? ⟨gb178, 0, none⟩ = some (.int .i64 0) := (bkC BK178.out 0).trans rfl; have hcz70_1 : w67.cell? ⟨gb178, 1, none⟩ = some (.string (⟨#[]⟩ : ByteArray)) := (bkC BK178.out 1).trans rfl; have hcz70_2 : w67.cell? ⟨gb178, 2, none⟩ = some (.int .i64 0) := (bkC BK178.out 2).trans rfl; have hfz70_0 := bkF BK178.out 0; have hfz70_1 := bkF BK178.out 1; have hfz70_2 := bkF BK178.out 2; have hcz71_0 : w67.cell? ⟨gb174, 0, none⟩ = some (.slice (some ad175) l0_0.length c0_0) := (bkC BK174.out 0).trans rfl; have hfz71_0 := bkF BK174.out 0; have p179 : 0 ≤ (((rd_T75 l0_0 x5_3).f0) : Int) := of_decide_eq_true (by first | (with_reducible assumption) | assumption); have q179 : ((rd_T75 l0_0 x5_3).f0) < (l0_0.length : Int) := of_decide_eq_true (by first | (with_reducible assumption) | assumption); obtain ⟨ad179, e179, hx179_0, hx179_1, hx179_2⟩ := at_T75 HR0_0.out ((rd_T75 l0_0 x5_3).f0) p179 q179; obtain rfl : ad175 = ad179 := (by injection e179); have hn179_0 : ad175.block ≠ gb178 := Nat.ne_of_lt (Nat.lt_of_lt_of_le (by have := World.block_lt_of_cell? _ _ hx179_0; first | rwa [add_block] at this | exact this) GW178.out); have hn179_1 : ad175.block ≠ gb178 := Nat.ne_of_lt (Nat.lt_of_lt_of_le (by have := World.block_lt_of_cell? _ _ hx179_0; first | rwa [add_block] at this | exact this) GW178.out); have hn179_2 : ad175.block ≠ gb178 := Nat.ne_of_lt (Nat.lt_of_lt_of_le (by have := World.block_lt_of_cell? _ _ hx179_0; first | rwa [add_block] at this | exact this) GW178.out); replace hx179_0 := (HB.out.cell (World.block_lt_of_cell? w _ hx179_0)).trans hx179_0; replace hx179_1 := (HB.out.cell (World.block_lt_of_cell? w _ hx179_1)).trans hx179_1; replace hx179_2 := (HB.out.cell (World.block_lt_of_cell? w _ hx179_2)).trans hx179_2; replace hx179_0 := (cell_far (p := ⟨gb178, 0, none⟩) (by first | (rw [add_block]; exact hn179_0) | (show (Addr.add _ _).block ≠ _; rw [add_block]; exact hn179_0) | exact hn179_0) (.int .i64 ((rd_T75 l0_0 x5_3).f0))).trans hx179_0; replace hx179_1 := (cell_far (p := ⟨gb178, 0, none⟩) (by first | (rw [add_block]; exact hn179_0) | (show (Addr.add _ _).block ≠ _; rw [add_block]; exact hn179_0) | exact hn179_0) (.int .i64 ((rd_T75 l0_0 x5_3).f0))).trans hx179_1; replace hx179_2 := (cell_far (p := ⟨gb178, 0, none⟩) (by first | (rw [add_block]; exact hn179_0) | (show (Addr.add _ _).block ≠ _; rw [add_block]; exact hn179_0) | exact hn179_0) (.int .i64 ((rd_T75 l0_0 x5_3).f0))).trans hx179_2; replace hx179_0 := (cell_far (p := ⟨gb178, 1, none⟩) (by first | (rw [add_block]; exact hn179_1) | (show (Addr.add _ _).block ≠ _; rw [add_block]; exact hn179_1) | exact hn179_1) (.string ((rd_T75 l0_0 x5_3).f1))).trans hx179_0; replace hx179_1 := (cell_far (p := ⟨gb178, 1, none⟩) (by first | (rw [add_block]; exact hn179_1) | (show (Addr.add _ _).block ≠ _; rw [add_block]; exact hn179_1) | exact hn179_1) (.string ((rd_T75 l0_0 x5_3).f1))).trans hx179_1; replace hx179_2 := (cell_far (p := ⟨gb178, 1, none⟩) (by first | (rw [add_block]; exact hn179_1) | (show (Addr.add _ _).block ≠ _; rw [add_block]; exact hn179_1) | exact hn179_1) (.string ((rd_T75 l0_0 x5_3).f1))).trans hx179_2; replace hx179_0 := (cell_far (p := ⟨gb178, 2, none⟩) (by first | (rw [add_block]; exact hn179_2) | (show (Addr.add _ _).block ≠ _; rw [add_block]; exact hn179_2) | exact hn179_2) (.int .i64 ((rd_T75 l0_0 x5_3).f2))).trans hx179_0; replace hx179_1 := (cell_far (p := ⟨gb178, 2, none⟩) (by first | (rw [add_block]; exact hn179_2) | (show (Addr.add _ _).block ≠ _; rw [add_block]; exact hn179_2) | exact hn179_2) (.int .i64 ((rd_T75 l0_0 x5_3).f2))).trans hx179_1; replace hx179_2 := (cell_far (p := ⟨gb178, 2, none⟩) (by first | (rw [add_block]; exact hn179_2) | (show (Addr.add _ _).block ≠ _; rw [add_block]; exact hn179_2) | exact hn179_2) (.int .i64 ((rd_T75 l0_0 x5_3).f2))).trans hx179_2; (try have hy179_0 := fun (n_ : Nat) => (show (((((w67.drewN n_).setCell ⟨gb178, 0, none⟩ (.int .i64 ((rd_T75 l0_0 x5_3).f0))).setCell ⟨gb178, 1, none⟩ (.string ((rd_T75 l0_0 x5_3).f1))).setCell ⟨gb178, 2, none⟩ (.int .i64 ((rd_T75 l0_0 x5_3).f2)))).cell? _ = some _ from hx179_0)); (try have hy179_1 := fun (n_ : Nat) => (show (((((w67.drewN n_).setCell ⟨gb178, 0, none⟩ (.int .i64 ((rd_T75 l0_0 x5_3).f0))).setCell ⟨gb178, 1, none⟩ (.string ((rd_T75 l0_0 x5_3).f1))).setCell ⟨gb178, 2, none⟩ (.int .i64 ((rd_T75 l0_0 x5_3).f2)))).cell? _ = some _ from hx179_1)); (try have hy179_2 := fun (n_ : Nat) => (show (((((w67.drewN n_).setCell ⟨gb178, 0, none⟩ (.int .i64 ((rd_T75 l0_0 x5_3).f0))).setCell ⟨gb178, 1, none⟩ (.string ((rd_T75 l0_0 x5_3).f1))).setCell ⟨gb178, 2, none⟩ (.int .i64 ((rd_T75 l0_0 x5_3).f2)))).cell? _ = some _ from hx179_2)); clear hn179_0; clear hn179_1; clear hn179_2; replace p179 := eq_true p179; replace q179 := eq_true q179))
                  repeat (go_quiet (first | ((with_reducible refine gate_dst (N := 6) rfl ?_); (try (refine gate_guard (by rfl) ?_; dsimp only)); refine box_event ?hg (N := 6) ?hd (cs := #[.int .i64 0, .string (⟨#[]⟩ : ByteArray), .int .i64 0]) (t := 75) ?hr ?_; (case hd => rfl); (case hg => rfl); (case hr => first | (go_simp; done) | (go_simp; rfl)); intro gb178 hg w67 hbox hb; have n0_ := A0_.mk (blk_below (g := gb174) (o := .cells #[.slice (some ad175) l0_0.length c0_0] 36 (0, 0)) (by (with_reducible repeat (first | refine bkN ?_ _ | refine bkD ?_ | refine bkA ?_ _)); exact BK174.out) hb); have n1_ := A0_.mk (blk_below (g := gb176) (o := .cells #[.int .i64 ((rd_T75 l0_0 0).f0), .string ((rd_T75 l0_0 0).f1), .int .i64 ((rd_T75 l0_0 0).f2)] 75 (0, 0)) (by (with_reducible repeat (first | refine bkN ?_ _ | refine bkD ?_ | refine bkA ?_ _)); exact BK176.out) hb); have n2_ := A0_.mk (below_step (by repeat (first | (with_reducible first | exact HB.out | apply bal | apply pdN | apply bdr | refine bst ?_ GE174.out | refine bst ?_ GE176.out) | exact HB.out)) hb); have n3_ := A0_.mk (hbox); have n4_ := A0_.mk ((by rw [hg]; exact (below_size (by repeat (first | (with_reducible first | exact HB.out | apply bal | apply pdN | apply bdr | refine bst ?_ GE174.out | refine bst ?_ GE176.out) | exact HB.out))) : w.heap.size ≤ gb178)); have n5_ := A0_.mk ((by rw [hg]; exact (below_size (by repeat (first | (with_reducible first | exact HB.out | apply bal | apply pdN | apply bdr | refine bst ?_ GE174.out | refine bst ?_ GE176.out) | exact HB.out))) : w.heap.size ≤ gb178)); have n6_ := A0_.mk ((by rw [hg]; exact Nat.ne_of_lt (blk_lt (g := gb174) (o := .cells #[.slice (some ad175) l0_0.length c0_0] 36 (0, 0)) (by (with_reducible repeat (first | refine bkN ?_ _ | refine bkD ?_ | refine bkA ?_ _)); exact BK174.out)) : gb174 ≠ gb178)); have n7_ := A0_.mk ((by rw [hg]; exact Nat.ne_of_gt (blk_lt (g := gb174) (o := .cells #[.slice (some ad175) l0_0.length c0_0] 36 (0, 0)) (by (with_reducible repeat (first | refine bkN ?_ _ | refine bkD ?_ | refine bkA ?_ _)); exact BK174.out)) : gb178 ≠ gb174)); have n8_ := A0_.mk ((by rw [hg]; exact Nat.ne_of_lt (blk_lt (g := gb176) (o := .cells #[.int .i64 ((rd_T75 l0_0 0).f0), .string ((rd_T75 l0_0 0).f1), .int .i64 ((rd_T75 l0_0 0).f2)] 75 (0, 0)) (by (with_reducible repeat (first | refine bkN ?_ _ | refine bkD ?_ | refine bkA ?_ _)); exact BK176.out)) : gb176 ≠ gb178)); have n9_ := A0_.mk ((by rw [hg]; exact Nat.ne_of_gt (blk_lt (g := gb176) (o := .cells #[.int .i64 ((rd_T75 l0_0 0).f0), .string ((rd_T75 l0_0 0).f1), .int .i64 ((rd_T75 l0_0 0).f2)] 75 (0, 0)) (by (with_reducible repeat (first | refine bkN ?_ _ | refine bkD ?_ | refine bkA ?_ _)); exact BK176.out)) : gb178 ≠ gb176)); clear BK174; clear BK176; clear HB; have BK174 := n0_; have BK176 := n1_; have HB := n2_; have BK178 := n3_; have GW178 := n4_; have GE178 := n5_; have NB174_178 := n6_; have NB178_174 := n7_; have NB176_178 := n8_; have NB178_176 := n9_; clear n0_ n1_ n2_ n3_ n4_ n5_ n6_ n7_ n8_ n9_; clear hb hbox hg; have hnb68 := NB178_174.out; have hnc68 := NB174_178.out; have hnb69 := NB178_176.out; have hnc69 := NB176_178.out; have hcz70_0 : w67.cell? ⟨gb178, 0, none⟩ = some (.int .i64 0) := (bkC BK178.out 0).trans rfl; have hcz70_1 : w67.cell? ⟨gb178, 1, none⟩ = some (.string (⟨#[]⟩ : ByteArray)) := (bkC BK178.out 1).trans rfl; have hcz70_2 : w67.cell? ⟨gb178, 2, none⟩ = some (.int .i64 0) := (bkC BK178.out 2).trans rfl; have hfz70_0 := bkF BK178.out 0; have hfz70_1 := bkF BK178.out 1; have hfz70_2 := bkF BK178.out 2; have hcz71_0 : w67.cell? ⟨gb174, 0, none⟩ = some (.slice (some ad175) l0_0.length c0_0) := (bkC BK174.out 0).trans rfl; have hfz71_0 := bkF BK174.out 0; have p179 : 0 ≤ (((rd_T75 l0_0 x5_3).f0) : Int) := of_decide_eq_true (by first | (with_reducible assumption) | assumption); have q179 : ((rd_T75 l0_0 x5_3).f0) < (l0_0.length : Int) := of_decide_eq_true (by first | (with_reducible assumption) | assumption); obtain ⟨ad179, e179, hx179_0, hx179_1, hx179_2⟩ := at_T75 HR0_0.out ((rd_T75 l0_0 x5_3).f0) p179 q179; obtain rfl : ad175 = ad179 := (by injection e179); have hn179_0 : ad175.block ≠ gb178 := Nat.ne_of_lt (Nat.lt_of_lt_of_le (by have := World.block_lt_of_cell? _ _ hx179_0; first | rwa [add_block] at this | exact this) GW178.out); have hn179_1 : ad175.block ≠ gb178 := Nat.ne_of_lt (Nat.lt_of_lt_of_le (by have := World.block_lt_of_cell? _ _ hx179_0; first | rwa [add_block] at this | exact this) GW178.out); have hn179_2 : ad175.block ≠ gb178 := Nat.ne_of_lt (Nat.lt_of_lt_of_le (by have := World.block_lt_of_cell? _ _ hx179_0; first | rwa [add_block] at this | exact this) GW178.out); replace hx179_0 := (HB.out.cell (World.block_lt_of_cell? w _ hx179_0)).trans hx179_0; replace hx179_1 := (HB.out.cell (World.block_lt_of_cell? w _ hx179_1)).trans hx179_1; replace hx179_2 := (HB.out.cell (World.block_lt_of_cell? w _ hx179_2)).trans hx179_2; replace hx179_0 := (cell_far (p := ⟨gb178, 0, none⟩) (by first | (rw [add_block]; exact hn179_0) | (show (Addr.add _ _).block ≠ _; rw [add_block]; exact hn179_0) | exact hn179_0) (.int .i64 ((rd_T75 l0_0 x5_3).f0))).trans hx179_0; replace hx179_1 := (cell_far (p := ⟨gb178, 0, none⟩) (by first | (rw [add_block]; exact hn179_0) | (show (Addr.add _ _).block ≠ _; rw [add_block]; exact hn179_0) | exact hn179_0) (.int .i64 ((rd_T75 l0_0 x5_3).f0))).trans hx179_1; replace hx179_2 := (cell_far (p := ⟨gb178, 0, none⟩) (by first | (rw [add_block]; exact hn179_0) | (show (Addr.add _ _).block ≠ _; rw [add_block]; exact hn179_0) | exact hn179_0) (.int .i64 ((rd_T75 l0_0 x5_3).f0))).trans hx179_2; replace hx179_0 := (cell_far (p := ⟨gb178, 1, none⟩) (by first | (rw [add_block]; exact hn179_1) | (show (Addr.add _ _).block ≠ _; rw [add_block]; exact hn179_1) | exact hn179_1) (.string ((rd_T75 l0_0 x5_3).f1))).trans hx179_0; replace hx179_1 := (cell_far (p := ⟨gb178, 1, none⟩) (by first | (rw [add_block]; exact hn179_1) | (show (Addr.add _ _).block ≠ _; rw [add_block]; exact hn179_1) | exact hn179_1) (.string ((rd_T75 l0_0 x5_3).f1))).trans hx179_1; replace hx179_2 := (cell_far (p := ⟨gb178, 1, none⟩) (by first | (rw [add_block]; exact hn179_1) | (show (Addr.add _ _).block ≠ _; rw [add_block]; exact hn179_1) | exact hn179_1) (.string ((rd_T75 l0_0 x5_3).f1))).trans hx179_2; replace hx179_0 := (cell_far (p := ⟨gb178, 2, none⟩) (by first | (rw [add_block]; exact hn179_2) | (show (Addr.add _ _).block ≠ _; rw [add_block]; exact hn179_2) | exact hn179_2) (.int .i64 ((rd_T75 l0_0 x5_3).f2))).trans hx179_0; replace hx179_1 := (cell_far (p := ⟨gb178, 2, none⟩) (by first | (rw [add_block]; exact hn179_2) | (show (Addr.add _ _).block ≠ _; rw [add_block]; exact hn179_2) | exact hn179_2) (.int .i64 ((rd_T75 l0_0 x5_3).f2))).trans hx179_1; replace hx179_2 := (cell_far (p := ⟨gb178, 2, none⟩) (by first | (rw [add_block]; exact hn179_2) | (show (Addr.add _ _).block ≠ _; rw [add_block]; exact hn179_2) | exact hn179_2) (.int .i64 ((rd_T75 l0_0 x5_3).f2))).trans hx179_2; (try have hy179_0 := fun (n_ : Nat) => (show (((((w67.drewN n_).setCell ⟨gb178, 0, none⟩ (.int .i64 ((rd_T75 l0_0 x5_3).f0))).setCell ⟨gb178, 1, none⟩ (.string ((rd_T75 l0_0 x5_3).f1))).setCell ⟨gb178, 2, none⟩ (.int .i64 ((rd_T75 l0_0 x5_3).f2)))).cell? _ = some _ from hx179_0)); (try have hy179_1 := fun (n_ : Nat) => (show (((((w67.drewN n_).setCell ⟨gb178, 0, none⟩ (.int .i64 ((rd_T75 l0_0 x5_3).f0))).setCell ⟨gb178, 1, none⟩ (.string ((rd_T75 l0_0 x5_3).f1))).setCell ⟨gb178, 2, none⟩ (.int .i64 ((rd_T75 l0_0 x5_3).f2)))).cell? _ = some _ from hx179_1)); (try have hy179_2 := fun (n_ : Nat) => (show (((((w67.drewN n_).setCell ⟨gb178, 0, none⟩ (.int .i64 ((rd_T75 l0_0 x5_3).f0))).setCell ⟨gb178, 1, none⟩ (.string ((rd_T75 l0_0 x5_3).f1))).setCell ⟨gb178, 2, none⟩ (.int .i64 ((rd_T75 l0_0 x5_3).f2)))).cell? _ = some _ from hx179_2)); clear hn179_0; clear hn179_1; clear hn179_2; replace p179 := eq_true p179; replace q179 := eq_true q179)); try go_wp2_with (first | ((with_reducible refine gate_dst (N := 6) rfl ?_); (try (refine gate_guard (by rfl) ?_; dsimp only)); refine box_event ?hg (N := 6) ?hd (cs := #[.int .i64 0, .string (⟨#[]⟩ : ByteArray), .int .i64 0]) (t := 75) ?hr ?_; (case hd => rfl); (case hg => rfl); (case hr => first | (go_simp; done) | (go_simp; rfl)); intro gb178 hg w67 hbox hb; have n0_ := A0_.mk (blk_below (g := gb174) (o := .cells #[.slice (some ad175) l0_0.length c0_0] 36 (0, 0)) (by (with_reducible repeat (first | refine bkN ?_ _ | refine bkD ?_ | refine bkA ?_ _)); exact BK174.out) hb); have n1_ := A0_.mk (blk_below (g := gb176) (o := .cells #[.int .i64 ((rd_T75 l0_0 0).f0), .string ((rd_T75 l0_0 0).f1), .int .i64 ((rd_T75 l0_0 0).f2)] 75 (0, 0)) (by (with_reducible repeat (first | refine bkN ?_ _ | refine bkD ?_ | refine bkA ?_ _)); exact BK176.out) hb); have n2_ := A0_.mk (below_step (by repeat (first | (with_reducible first | exact HB.out | apply bal | apply pdN | apply bdr | refine bst ?_ GE174.out | refine bst ?_ GE176.out) | exact HB.out)) hb); have n3_ := A0_.mk (hbox); have n4_ := A0_.mk ((by rw [hg]; exact (below_size (by repeat (first | (with_reducible first | exact HB.out | apply bal | apply pdN | apply bdr | refine bst ?_ GE174.out | refine bst ?_ GE176.out) | exact HB.out))) : w.heap.size ≤ gb178)); have n5_ := A0_.mk ((by rw [hg]; exact (below_size (by repeat (first | (with_reducible first | exact HB.out | apply bal | apply pdN | apply bdr | refine bst ?_ GE174.out | refine bst ?_ GE176.out) | exact HB.out))) : w.heap.size ≤ gb178)); have n6_ := A0_.mk ((by rw [hg]; exact Nat.ne_of_lt (blk_lt (g := gb174) (o := .cells #[.slice (some ad175) l0_0.length c0_0] 36 (0, 0)) (by (with_reducible repeat (first | refine bkN ?_ _ | refine bkD ?_ | refine bkA ?_ _)); exact BK174.out)) : gb174 ≠ gb178)); have n7_ := A0_.mk ((by rw [hg]; exact Nat.ne_of_gt (blk_lt (g := gb174) (o := .cells #[.slice (some ad175) l0_0.length c0_0] 36 (0, 0)) (by (with_reducible repeat (first | refine bkN ?_ _ | refine bkD ?_ | refine bkA ?_ _)); exact BK174.out)) : gb178 ≠ gb174)); have n8_ := A0_.mk ((by rw [hg]; exact Nat.ne_of_lt (blk_lt (g := gb176) (o := .cells #[.int .i64 ((rd_T75 l0_0 0).f0), .string ((rd_T75 l0_0 0).f1), .int .i64 ((rd_T75 l0_0 0).f2)] 75 (0, 0)) (by (with_reducible repeat (first | refine bkN ?_ _ | refine bkD ?_ | refine bkA ?_ _)); exact BK176.out)) : gb176 ≠ gb178)); have n9_ := A0_.mk ((by rw [hg]; exact Nat.ne_of_gt (blk_lt (g := gb176) (o := .cells #[.int .i64 ((rd_T75 l0_0 0).f0), .string ((rd_T75 l0_0 0).f1), .int .i64 ((rd_T75 l0_0 0).f2)] 75 (0, 0)) (by (with_reducible repeat (first | refine bkN ?_ _ | refine bkD ?_ | refine bkA ?_ _)); exact BK176.out)) : gb178 ≠ gb176)); clear BK174; clear BK176; clear HB; have BK174 := n0_; have BK176 := n1_; have HB := n2_; have BK178 := n3_; have GW178 := n4_; have GE178 := n5_; have NB174_178 := n6_; have NB178_174 := n7_; have NB176_178 := n8_; have NB178_176 := n9_; clear n0_ n1_ n2_ n3_ n4_ n5_ n6_ n7_ n8_ n9_; clear hb hbox hg; have hnb68 := NB178_174.out; have hnc68 := NB174_178.out; have hnb69 := NB178_176.out; have hnc69 := NB176_178.out; have hcz70_0 : w67.cell? ⟨gb178, 0, none⟩ = some (.int .i64 0) := (bkC BK178.out 0).trans rfl; have hcz70_1 : w67.cell? ⟨gb178, 1, none⟩ = some (.string (⟨#[]⟩ : ByteArray)) := (bkC BK178.out 1).trans rfl; have hcz70_2 : w67.cell? ⟨gb178, 2, none⟩ = some (.int .i64 0) := (bkC BK178.out 2).trans rfl; have hfz70_0 := bkF BK178.out 0; have hfz70_1 := bkF BK178.out 1; have hfz70_2 := bkF BK178.out 2; have hcz71_0 : w67.cell? ⟨gb174, 0, none⟩ = some (.slice (some ad175) l0_0.length c0_0) := (bkC BK174.out 0).trans rfl; have hfz71_0 := bkF BK174.out 0; have p179 : 0 ≤ (((rd_T75 l0_0 x5_3).f0) : Int) := of_decide_eq_true (by first | (with_reducible assumption) | assumption); have q179 : ((rd_T75 l0_0 x5_3).f0) < (l0_0.length : Int) := of_decide_eq_true (by first | (with_reducible assumption) | assumption); obtain ⟨ad179, e179, hx179_0, hx179_1, hx179_2⟩ := at_T75 HR0_0.out ((rd_T75 l0_0 x5_3).f0) p179 q179; obtain rfl : ad175 = ad179 := (by injection e179); have hn179_0 : ad175.block ≠ gb178 := Nat.ne_of_lt (Nat.lt_of_lt_of_le (by have := World.block_lt_of_cell? _ _ hx179_0; first | rwa [add_block] at this | exact this) GW178.out); have hn179_1 : ad175.block ≠ gb178 := Nat.ne_of_lt (Nat.lt_of_lt_of_le (by have := World.block_lt_of_cell? _ _ hx179_0; first | rwa [add_block] at this | exact this) GW178.out); have hn179_2 : ad175.block ≠ gb178 := Nat.ne_of_lt (Nat.lt_of_lt_of_le (by have := World.block_lt_of_cell? _ _ hx179_0; first | rwa [add_block] at this | exact this) GW178.out); replace hx179_0 := (HB.out.cell (World.block_lt_of_cell? w _ hx179_0)).trans hx179_0; replace hx179_1 := (HB.out.cell (World.block_lt_of_cell? w _ hx179_1)).trans hx179_1; replace hx179_2 := (HB.out.cell (World.block_lt_of_cell? w _ hx179_2)).trans hx179_2; replace hx179_0 := (cell_far (p := ⟨gb178, 0, none⟩) (by first | (rw [add_block]; exact hn179_0) | (show (Addr.add _ _).block ≠ _; rw [add_block]; exact hn179_0) | exact hn179_0) (.int .i64 ((rd_T75 l0_0 x5_3).f0))).trans hx179_0; replace hx179_1 := (cell_far (p := ⟨gb178, 0, none⟩) (by first | (rw [add_block]; exact hn179_0) | (show (Addr.add _ _).block ≠ _; rw [add_block]; exact hn179_0) | exact hn179_0) (.int .i64 ((rd_T75 l0_0 x5_3).f0))).trans hx179_1; replace hx179_2 := (cell_far (p := ⟨gb178, 0, none⟩) (by first | (rw [add_block]; exact hn179_0) | (show (Addr.add _ _).block ≠ _; rw [add_block]; exact hn179_0) | exact hn179_0) (.int .i64 ((rd_T75 l0_0 x5_3).f0))).trans hx179_2; replace hx179_0 := (cell_far (p := ⟨gb178, 1, none⟩) (by first | (rw [add_block]; exact hn179_1) | (show (Addr.add _ _).block ≠ _; rw [add_block]; exact hn179_1) | exact hn179_1) (.string ((rd_T75 l0_0 x5_3).f1))).trans hx179_0; replace hx179_1 := (cell_far (p := ⟨gb178, 1, none⟩) (by first | (rw [add_block]; exact hn179_1) | (show (Addr.add _ _).block ≠ _; rw [add_block]; exact hn179_1) | exact hn179_1) (.string ((rd_T75 l0_0 x5_3).f1))).trans hx179_1; replace hx179_2 := (cell_far (p := ⟨gb178, 1, none⟩) (by first | (rw [add_block]; exact hn179_1) | (show (Addr.add _ _).block ≠ _; rw [add_block]; exact hn179_1) | exact hn179_1) (.string ((rd_T75 l0_0 x5_3).f1))).trans hx179_2; replace hx179_0 := (cell_far (p := ⟨gb178, 2, none⟩) (by first | (rw [add_block]; exact hn179_2) | (show (Addr.add _ _).block ≠ _; rw [add_block]; exact hn179_2) | exact hn179_2) (.int .i64 ((rd_T75 l0_0 x5_3).f2))).trans hx179_0; replace hx179_1 := (cell_far (p := ⟨gb178, 2, none⟩) (by first | (rw [add_block]; exact hn179_2) | (show (Addr.add _ _).block ≠ _; rw [add_block]; exact hn179_2) | exact hn179_2) (.int .i64 ((rd_T75 l0_0 x5_3).f2))).trans hx179_1; replace hx179_2 := (cell_far (p := ⟨gb178, 2, none⟩) (by first | (rw [add_block]; exact hn179_2) | (show (Addr.add _ _).block ≠ _; rw [add_block]; exact hn179_2) | exact hn179_2) (.int .i64 ((rd_T75 l0_0 x5_3).f2))).trans hx179_2; (try have hy179_0 := fun (n_ : Nat) => (show (((((w67.drewN n_).setCell ⟨gb178, 0, none⟩ (.int .i64 ((rd_T75 l0_0 x5_3).f0))).setCell ⟨gb178, 1, none⟩ (.string ((rd_T75 l0_0 x5_3).f1))).setCell ⟨gb178, 2, none⟩ (.int .i64 ((rd_T75 l0_0 x5_3).f2)))).cell? _ = some _ from hx179_0)); (try have hy179_1 := fun (n_ : Nat) => (show (((((w67.drewN n_).setCell ⟨gb178, 0, none⟩ (.int .i64 ((rd_T75 l0_0 x5_3).f0))).setCell ⟨gb178, 1, none⟩ (.string ((rd_T75 l0_0 x5_3).f1))).setCell ⟨gb178, 2, none⟩ (.int .i64 ((rd_T75 l0_0 x5_3).f2)))).cell? _ = some _ from hx179_1)); (try have hy179_2 := fun (n_ : Nat) => (show (((((w67.drewN n_).setCell ⟨gb178, 0, none⟩ (.int .i64 ((rd_T75 l0_0 x5_3).f0))).setCell ⟨gb178, 1, none⟩ (.string ((rd_T75 l0_0 x5_3).f1))).setCell ⟨gb178, 2, none⟩ (.int .i64 ((rd_T75 l0_0 x5_3).f2)))).cell? _ = some _ from hx179_2)); clear hn179_0; clear hn179_1; clear hn179_2; replace p179 := eq_true p179; replace q179 := eq_true q179)))
                  go_ret
                  exact ⟨by first | rfl | (simp [errW_none, errW_some] <;> rfl) | (simp [*, errW_none, errW_some] <;> rfl), by repeat (first | (with_reducible first | exact HB.out | apply bal | apply pdN | apply bdr | refine bst ?_ GE174.out | refine bst ?_ GE176.out | refine bst ?_ GE178.out) | exact HB.out)⟩
                ·rw [if_neg c40] at H
                 exact absurd H (by simp)
               ·rw [if_neg c39] at H
                exact absurd H (by simp)
            ·rw [if_neg c24] at H
             exact absurd H (by simp)
           ·rw [if_neg c23] at H
            exact absurd H (by simp)
          ·rw [if_neg c22] at H
           have c22b0 : decide (x5_3 < (l0_0.length : Int)) = false := decide_eq_false c22
           clear c22
           have H' := A0_.mk H
           clear H
           go_wp2
           repeat (go_quiet (fail); try go_wp2)
           go_loopg [7] k3 (fun kq v7 w' => ∃ (x7_4 : Int), v7 = .int .i64 x7_4 ∧ A0_ (spec_ForestOk.l1 kq (l0_0.length : Int) x7_4 l0_0 = some r) ∧ A0_ (kq ≤ k3) ∧ A0_ (w'.heap[gb174]? = some (.cells #[(.slice (some ad175) l0_0.length c0_0)] 36 (0, 0))) ∧ A0_ (w'.heap[gb176]? = some (.cells #[.int .i64 ((rd_T75 l0_0 0).f0), .string ((rd_T75 l0_0 0).f1), .int .i64 ((rd_T75 l0_0 0).f2)] 75 (0, 0))) ∧ A0_ (Below w.heap.size w w'))
           case atStart => exact ⟨(1), (by first | rfl | (simp; done) | (simp [*]; done)), H', ⟨Nat.le_refl _⟩, ⟨by (with_reducible repeat (first | refine bkN ?_ _ | refine bkD ?_ | refine bkA ?_ _)); exact BK174.out⟩, ⟨by (with_reducible repeat (first | refine bkN ?_ _ | refine bkD ?_ | refine bkA ?_ _)); exact BK176.out⟩, ⟨by repeat (first | (with_reducible first | exact HB.out | apply bal | apply pdN | apply bdr | refine bst ?_ GE174.out | refine bst ?_ GE176.out) | exact HB.out)⟩⟩
           case round =>
            clear H'
            try clear c1
            try clear p1
            try clear q1
            try clear hx1
            try clear qi1
            try clear c2
            try clear p2
            try clear c3
            try clear c4
            try clear c5
            try clear c5b0
            try clear c5b1
            try clear c5b2
            try clear c6
            try clear p6
            try clear c7
            try clear c7b0
            try clear c7b1
            try clear c11
            try clear c13
            try clear c13b0
            try clear c13b1
            try clear c14
            try clear c14b0
            try clear c14b1
            try clear c15
            try clear c17
            try clear p17
            try clear q17
            try clear hx17
            try clear qi17
            try clear c19
            try clear c21
            try clear c22
            try clear c22b0
            try clear c23
            try clear c23b0
            try clear c24
            try clear c24b0
            try clear c25
            try clear c25b0
            try clear c26
            try clear c29
            try clear c30
            try clear c32
            try clear c32b0
            try clear c33
            try clear c36
            try clear c37
            try clear c39
            try clear c39b0
            try clear c40
            try clear c40b0
            try clear c41
            try clear c41b0
            try clear c41b1
            try clear c42
            try clear c42b0
            try clear c43
            try clear c46
            try clear c47
            try clear c50
            try clear c50b0
            try clear c50b1
            try clear c51
            try clear c54
            try clear c55
            try clear c58
            try clear c61
            try clear c62
            try clear p64
            try clear c65
            try clear c68
            try clear c69
            try clear hcz12_0
            try clear hcz12_1
            try clear hcz12_2
            try clear hcz16_0
            try clear hcz16_1
            try clear hcz16_2
            try clear hcz18_0
            try clear hcz18_1
            try clear hcz18_2
            try clear hcz20_0
            try clear hcz20_1
            try clear hcz20_2
            try clear hcz27_0
            try clear hcz31_0
            try clear hcz31_1
            try clear hcz31_2
            try clear hcz34_0
            try clear hcz38_0
            try clear hcz38_1
            try clear hcz38_2
            try clear hcz44_0
            try clear hcz48_0
            try clear hcz48_1
            try clear hcz48_2
            try clear hcz49_0
            try clear hcz4_0
            try clear hcz52_0
            try clear hcz56_0
            try clear hcz56_1
            try clear hcz56_2
            try clear hcz57_0
            try clear hcz59_0
            try clear hcz63_0
            try clear hcz63_1
            try clear hcz63_2
            try clear hcz64_0
            try clear hcz66_0
            try clear hcz70_0
            try clear hcz70_1
            try clear hcz70_2
            try clear hcz71_0
            try clear hcz9_0
            try clear hfz12_0
            try clear hfz12_1
            try clear hfz12_2
            try clear hfz16_0
            try clear hfz16_1
            try clear hfz16_2
            try clear hfz18_0
            try clear hfz18_1
            try clear hfz18_2
            try clear hfz20_0
            try clear hfz20_1
            try clear hfz20_2
            try clear hfz27_0
            try clear hfz31_0
            try clear hfz31_1
            try clear hfz31_2
            try clear hfz34_0
            try clear hfz38_0
            try clear hfz38_1
            try clear hfz38_2
            try clear hfz44_0
            try clear hfz48_0
            try clear hfz48_1
            try clear hfz48_2
            try clear hfz49_0
            try clear hfz4_0
            try clear hfz52_0
            try clear hfz56_0
            try clear hfz56_1
            try clear hfz56_2
            try clear hfz57_0
            try clear hfz59_0
            try clear hfz63_0
            try clear hfz63_1
            try clear hfz63_2
            try clear hfz64_0
            try clear hfz66_0
            try clear hfz70_0
            try clear hfz70_1
            try clear hfz70_2
            try clear hfz71_0
            try clear hfz9_0
            try clear hx175_0
            try clear hx175_1
            try clear hx175_2
            try clear hx177_0
            try clear hx177_1
            try clear hx177_2
            try clear hx179_0
            try clear hx179_1
            try clear hx179_2
            try clear p1
            try clear p17
            try clear p175
            try clear p177
            try clear p179
            try clear p2
            try clear q1
            try clear q17
            try clear q175
            try clear q177
            try clear q179
            obtain ⟨x7_4, rfl, HA, HK4, BK174, BK176, HB⟩ := hrel
            cases gk with
            | zero => exact absurd HA.out (by simp [spec_ForestOk.l1])
            | succ k4 =>
             have H := HA.out
             clear HA
             simp only [spec_ForestOk.l1] at H
             by_cases c72 : x7_4 < (l0_0.length : Int)
             ·rw [if_pos c72] at H
              have c72b0 : decide (x7_4 < (l0_0.length : Int)) = true := decide_eq_true c72
              clear c72
              have H' := A0_.mk H
              clear H
              go_wp2
              repeat (go_quiet (fail); try go_wp2)
              go_loopg [8] k4 (fun kq v8 w' => ∃ (x8_5 : Int), v8 = .int .i64 x8_5 ∧ A0_ (spec_ForestOk.l2 kq (l0_0.length : Int) x7_4 x8_5 l0_0 = some r) ∧ A0_ (kq ≤ k4) ∧ A0_ (w'.heap[gb174]? = some (.cells #[(.slice (some ad175) l0_0.length c0_0)] 36 (0, 0))) ∧ A0_ (w'.heap[gb176]? = some (.cells #[.int .i64 ((rd_T75 l0_0 0).f0), .string ((rd_T75 l0_0 0).f1), .int .i64 ((rd_T75 l0_0 0).f2)] 75 (0, 0))) ∧ A0_ (Below w.heap.size w w'))
              case atStart => exact ⟨(1), (by first | rfl | (simp; done) | (simp [*]; done)), H', ⟨Nat.le_refl _⟩, ⟨by (with_reducible repeat (first | refine bkN ?_ _ | refine bkD ?_ | refine bkA ?_ _)); exact BK174.out⟩, ⟨by (with_reducible repeat (first | refine bkN ?_ _ | refine bkD ?_ | refine bkA ?_ _)); exact BK176.out⟩, ⟨by repeat (first | (with_reducible first | exact HB.out | apply bal | apply pdN | apply bdr | refine bst ?_ GE174.out | refine bst ?_ GE176.out) | exact HB.out)⟩⟩
              case round =>
               clear H'
               try clear c1
               try clear p1
               try clear q1
               try clear hx1
               try clear qi1
               try clear c2
               try clear p2
               try clear c3
               try clear c4
               try clear c5
               try clear c5b0
               try clear c5b1
               try clear c5b2
               try clear c6
               try clear p6
               try clear c7
               try clear c7b0
               try clear c7b1
               try clear c11
               try clear c13
               try clear c13b0
               try clear c13b1
               try clear c14
               try clear c14b0
               try clear c14b1
               try clear c15
               try clear c17
               try clear p17
               try clear q17
               try clear hx17
               try clear qi17
               try clear c19
               try clear c21
               try clear c22
               try clear c22b0
               try clear c23
               try clear c23b0
               try clear c24
               try clear c24b0
               try clear c25
               try clear c25b0
               try clear c26
               try clear c29
               try clear c30
               try clear c32
               try clear c32b0
               try clear c33
               try clear c36
               try clear c37
               try clear c39
               try clear c39b0
               try clear c40
               try clear c40b0
               try clear c41
               try clear c41b0
               try clear c41b1
               try clear c42
               try clear c42b0
               try clear c43
               try clear c46
               try clear c47
               try clear c50
               try clear c50b0
               try clear c50b1
               try clear c51
               try clear c54
               try clear c55
               try clear c58
               try clear c61
               try clear c62
               try clear p64
               try clear c65
               try clear c68
               try clear c69
               try clear c72
               try clear c72b0
               try clear hcz12_0
               try clear hcz12_1
               try clear hcz12_2
               try clear hcz16_0
               try clear hcz16_1
               try clear hcz16_2
               try clear hcz18_0
               try clear hcz18_1
               try clear hcz18_2
               try clear hcz20_0
               try clear hcz20_1
               try clear hcz20_2
               try clear hcz27_0
               try clear hcz31_0
               try clear hcz31_1
               try clear hcz31_2
               try clear hcz34_0
               try clear hcz38_0
               try clear hcz38_1
               try clear hcz38_2
               try clear hcz44_0
               try clear hcz48_0
               try clear hcz48_1
               try clear hcz48_2
               try clear hcz49_0
               try clear hcz4_0
               try clear hcz52_0
               try clear hcz56_0
               try clear hcz56_1
               try clear hcz56_2
               try clear hcz57_0
               try clear hcz59_0
               try clear hcz63_0
               try clear hcz63_1
               try clear hcz63_2
               try clear hcz64_0
               try clear hcz66_0
               try clear hcz70_0
               try clear hcz70_1
               try clear hcz70_2
               try clear hcz71_0
               try clear hcz9_0
               try clear hfz12_0
               try clear hfz12_1
               try clear hfz12_2
               try clear hfz16_0
               try clear hfz16_1
               try clear hfz16_2
               try clear hfz18_0
               try clear hfz18_1
               try clear hfz18_2
               try clear hfz20_0
               try clear hfz20_1
               try clear hfz20_2
               try clear hfz27_0
               try clear hfz31_0
               try clear hfz31_1
               try clear hfz31_2
               try clear hfz34_0
               try clear hfz38_0
               try clear hfz38_1
               try clear hfz38_2
               try clear hfz44_0
               try clear hfz48_0
               try clear hfz48_1
               try clear hfz48_2
               try clear hfz49_0
               try clear hfz4_0
               try clear hfz52_0
               try clear hfz56_0
               try clear hfz56_1
               try clear hfz56_2
               try clear hfz57_0
               try clear hfz59_0
               try clear hfz63_0
               try clear hfz63_1
               try clear hfz63_2
               try clear hfz64_0
               try clear hfz66_0
               try clear hfz70_0
               try clear hfz70_1
               try clear hfz70_2
               try clear hfz71_0
               try clear hfz9_0
               try clear hx175_0
               try clear hx175_1
               try clear hx175_2
               try clear hx177_0
               try clear hx177_1
               try clear hx177_2
               try clear hx179_0
               try clear hx179_1
               try clear hx179_2
               try clear p1
               try clear p17
               try clear p175
               try clear p177
               try clear p179
               try clear p2
               try clear p6
               try clear p64
               try clear q1
               try clear q17
               try clear q175
               try clear q177
               try clear q179
               obtain ⟨x8_5, rfl, HA, HK5, BK174, BK176, HB⟩ := hrel
               cases gk with
               | zero => exact absurd HA.out (by simp [spec_ForestOk.l2])
               | succ k5 =>
                have H := HA.out
                clear HA
                simp only [spec_ForestOk.l2] at H
                by_cases c73 : x8_5 < x7_4
                ·rw [if_pos c73] at H
                 have c73b0 : decide (x8_5 < x7_4) = true := decide_eq_true c73
                 clear c73
                 by_cases c74 : 0 ≤ x8_5
                 ·rw [if_pos c74] at H
                  have c74b0 : decide (0 ≤ x8_5) = true := decide_eq_true c74
                  clear c74
                  by_cases c75 : x8_5 < (l0_0.length : Int)
                  ·rw [if_pos c75] at H
                   have c75b0 : decide (x8_5 < (l0_0.length : Int)) = true := decide_eq_true c75
                   clear c75
                   by_cases c76 : 0 ≤ x7_4
                   ·rw [if_pos c76] at H
                    have c76b0 : decide (0 ≤ x7_4) = true := decide_eq_true c76
                    clear c76
                    by_cases c77 : x7_4 < (l0_0.length : Int)
                    ·rw [if_pos c77] at H
                     have c77b0 : decide (x7_4 < (l0_0.length : Int)) = true := decide_eq_true c77
                     clear c77
                     by_cases c78 : ((rd_T75 l0_0 x8_5).f0) = ((rd_T75 l0_0 x7_4).f0)
                     ·rw [if_pos c78] at H
                      have c78b0 : (((rd_T75 l0_0 x8_5).f0) == ((rd_T75 l0_0 x7_4).f0)) = true := beq_iff_eq.mpr c78
                      have c78b1 : (((rd_T75 l0_0 x8_5).f0) != ((rd_T75 l0_0 x7_4).f0)) = false := bne_eq_false_iff_eq.mpr c78
                      clear c78
                      by_cases c79 : ((rd_T75 l0_0 x8_5).f1).toList = ((rd_T75 l0_0 x7_4).f1).toList
                      ·rw [if_pos c79] at H
                       have c79b0 : (((rd_T75 l0_0 x8_5).f1).toList == ((rd_T75 l0_0 x7_4).f1).toList) = true := beq_iff_eq.mpr c79
                       have c79b1 : (((rd_T75 l0_0 x8_5).f1).toList != ((rd_T75 l0_0 x7_4).f1).toList) = false := bne_eq_false_iff_eq.mpr c79
                       clear c79
                       obtain rfl := Option.some.inj H
                       have hnb80 := NB174_176.out
                       have hnc80 := NB176_174.out
                       have hcz81_0 : wr.cell? ⟨gb174, 0, none⟩ = some (.slice (some ad175) l0_0.length c0_0) := (bkC BK174.out 0).trans rfl
                       have hfz81_0 := bkF BK174.out 0
                       have p180 : 0 ≤ (x8_5 : Int) := of_decide_eq_true (by first | (with_reducible assumption) | assumption)
                       have q180 : x8_5 < (l0_0.length : Int) := of_decide_eq_true (by first | (with_reducible assumption) | assumption)
                       obtain ⟨ad180, e180, hx180_0, hx180_1, hx180_2⟩ := at_T75 HR0_0.out x8_5 p180 q180
                       obtain rfl : ad175 = ad180 := (by injection e180)
                       replace hx180_0 := (HB.out.cell (World.block_lt_of_cell? w _ hx180_0)).trans hx180_0
                       replace hx180_1 := (HB.out.cell (World.block_lt_of_cell? w _ hx180_1)).trans hx180_1
                       replace hx180_2 := (HB.out.cell (World.block_lt_of_cell? w _ hx180_2)).trans hx180_2
                       replace p180 := eq_true p180
                       replace q180 := eq_true q180
                       have p181 : 0 ≤ (x7_4 : Int) := of_decide_eq_true (by first | (with_reducible assumption) | assumption)
                       have q181 : x7_4 < (l0_0.length : Int) := of_decide_eq_true (by first | (with_reducible assumption) | assumption)
                       obtain ⟨ad181, e181, hx181_0, hx181_1, hx181_2⟩ := at_T75 HR0_0.out x7_4 p181 q181
                       obtain rfl : ad175 = ad181 := (by injection e181)
                       replace hx181_0 := (HB.out.cell (World.block_lt_of_cell? w _ hx181_0)).trans hx181_0
                       replace hx181_1 := (HB.out.cell (World.block_lt_of_cell? w _ hx181_1)).trans hx181_1
                       replace hx181_2 := (HB.out.cell (World.block_lt_of_cell? w _ hx181_2)).trans hx181_2
                       replace p181 := eq_true p181
                       replace q181 := eq_true q181
                       have p182 : 0 ≤ (x8_5 : Int) := of_decide_eq_true (by first | (with_reducible assumption) | assumption)
                       have q182 : x8_5 < (l0_0.length : Int) := of_decide_eq_true (by first | (with_reducible assumption) | assumption)
                       obtain ⟨ad182, e182, hx182_0, hx182_1, hx182_2⟩ := at_T75 HR0_0.out x8_5 p182 q182
                       obtain rfl : ad175 = ad182 := (by injection e182)
                       replace hx182_0 := (HB.out.cell (World.block_lt_of_cell? w _ hx182_0)).trans hx182_0
                       replace hx182_1 := (HB.out.cell (World.block_lt_of_cell? w _ hx182_1)).trans hx182_1
                       replace hx182_2 := (HB.out.cell (World.block_lt_of_cell? w _ hx182_2)).trans hx182_2
                       replace p182 := eq_true p182
                       replace q182 := eq_true q182
                       have p183 : 0 ≤ (x7_4 : Int) := of_decide_eq_true (by first | (with_reducible assumption) | assumption)
                       have q183 : x7_4 < (l0_0.length : Int) := of_decide_eq_true (by first | (with_reducible assumption) | assumption)
                       obtain ⟨ad183, e183, hx183_0, hx183_1, hx183_2⟩ := at_T75 HR0_0.out x7_4 p183 q183
                       obtain rfl : ad175 = ad183 := (by injection e183)
                       replace hx183_0 := (HB.out.cell (World.block_lt_of_cell? w _ hx183_0)).trans hx183_0
                       replace hx183_1 := (HB.out.cell (World.block_lt_of_cell? w _ hx183_1)).trans hx183_1
                       replace hx183_2 := (HB.out.cell (World.block_lt_of_cell? w _ hx183_2)).trans hx183_2
                       replace p183 := eq_true p183
                       replace q183 := eq_true q183
                       go_wp2
                       repeat (go_quiet (fail); try go_wp2)
                       go_ret
                       exact ⟨by first | rfl | (simp [errW_none, errW_some] <;> rfl) | (simp [*, errW_none, errW_some] <;> rfl), by repeat (first | (with_reducible first | exact HB.out | apply bal | apply pdN | apply bdr | refine bst ?_ GE174.out | refine bst ?_ GE176.out) | exact HB.out)⟩
                      ·rw [if_neg c79] at H
                       have c79b0 : (((rd_T75 l0_0 x8_5).f1).toList == ((rd_T75 l0_0 x7_4).f1).toList) = false := beq_eq_false_iff_ne.mpr c79
                       have c79b1 : (((rd_T75 l0_0 x8_5).f1).toList != ((rd_T75 l0_0 x7_4).f1).toList) = true := bne_iff_ne.mpr c79
                       have H' := A0_.mk H
                       clear H
                       have hnb82 := NB174_176.out
                       have hnc82 := NB176_174.out
                       have hcz83_0 : wr.cell? ⟨gb174, 0, none⟩ = some (.slice (some ad175) l0_0.length c0_0) := (bkC BK174.out 0).trans rfl
                       have hfz83_0 := bkF BK174.out 0
                       have p180 : 0 ≤ (x8_5 : Int) := of_decide_eq_true (by first | (with_reducible assumption) | assumption)
                       have q180 : x8_5 < (l0_0.length : Int) := of_decide_eq_true (by first | (with_reducible assumption) | assumption)
                       obtain ⟨ad180, e180, hx180_0, hx180_1, hx180_2⟩ := at_T75 HR0_0.out x8_5 p180 q180
                       obtain rfl : ad175 = ad180 := (by injection e180)
                       replace hx180_0 := (HB.out.cell (World.block_lt_of_cell? w _ hx180_0)).trans hx180_0
                       replace hx180_1 := (HB.out.cell (World.block_lt_of_cell? w _ hx180_1)).trans hx180_1
                       replace hx180_2 := (HB.out.cell (World.block_lt_of_cell? w _ hx180_2)).trans hx180_2
                       replace p180 := eq_true p180
                       replace q180 := eq_true q180
                       have p181 : 0 ≤ (x7_4 : Int) := of_decide_eq_true (by first | (with_reducible assumption) | assumption)
                       have q181 : x7_4 < (l0_0.length : Int) := of_decide_eq_true (by first | (with_reducible assumption) | assumption)
                       obtain ⟨ad181, e181, hx181_0, hx181_1, hx181_2⟩ := at_T75 HR0_0.out x7_4 p181 q181
                       obtain rfl : ad175 = ad181 := (by injection e181)
                       replace hx181_0 := (HB.out.cell (World.block_lt_of_cell? w _ hx181_0)).trans hx181_0
                       replace hx181_1 := (HB.out.cell (World.block_lt_of_cell? w _ hx181_1)).trans hx181_1
                       replace hx181_2 := (HB.out.cell (World.block_lt_of_cell? w _ hx181_2)).trans hx181_2
                       replace p181 := eq_true p181
                       replace q181 := eq_true q181
                       have p182 : 0 ≤ (x8_5 : Int) := of_decide_eq_true (by first | (with_reducible assumption) | assumption)
                       have q182 : x8_5 < (l0_0.length : Int) := of_decide_eq_true (by first | (with_reducible assumption) | assumption)
                       obtain ⟨ad182, e182, hx182_0, hx182_1, hx182_2⟩ := at_T75 HR0_0.out x8_5 p182 q182
                       obtain rfl : ad175 = ad182 := (by injection e182)
                       replace hx182_0 := (HB.out.cell (World.block_lt_of_cell? w _ hx182_0)).trans hx182_0
                       replace hx182_1 := (HB.out.cell (World.block_lt_of_cell? w _ hx182_1)).trans hx182_1
                       replace hx182_2 := (HB.out.cell (World.block_lt_of_cell? w _ hx182_2)).trans hx182_2
                       replace p182 := eq_true p182
                       replace q182 := eq_true q182
                       have p183 : 0 ≤ (x7_4 : Int) := of_decide_eq_true (by first | (with_reducible assumption) | assumption)
                       have q183 : x7_4 < (l0_0.length : Int) := of_decide_eq_true (by first | (with_reducible assumption) | assumption)
                       obtain ⟨ad183, e183, hx183_0, hx183_1, hx183_2⟩ := at_T75 HR0_0.out x7_4 p183 q183
                       obtain rfl : ad175 = ad183 := (by injection e183)
                       replace hx183_0 := (HB.out.cell (World.block_lt_of_cell? w _ hx183_0)).trans hx183_0
                       replace hx183_1 := (HB.out.cell (World.block_lt_of_cell? w _ hx183_1)).trans hx183_1
                       replace hx183_2 := (HB.out.cell (World.block_lt_of_cell? w _ hx183_2)).trans hx183_2
                       replace p183 := eq_true p183
                       replace q183 := eq_true q183
                       go_wp2
                       repeat (go_quiet (fail); try go_wp2)
                       go_roundg k5
                       case measure => have := HJ1.out; have := HJ7.out; have := HK3.out; have := HK4.out; have := HK5.out; omega
                       case rel => exact ⟨(wrap64 (x8_5 + 1)), (by first | rfl | (simp; done) | (simp [*]; done)), H', ⟨by have := HJ1.out; have := HJ7.out; have := HK3.out; have := HK4.out; have := HK5.out; omega⟩, ⟨by (with_reducible repeat (first | refine bkN ?_ _ | refine bkD ?_ | refine bkA ?_ _)); exact BK174.out⟩, ⟨by (with_reducible repeat (first | refine bkN ?_ _ | refine bkD ?_ | refine bkA ?_ _)); exact BK176.out⟩, ⟨by repeat (first | (with_reducible first | exact HB.out | apply bal | apply pdN | apply bdr | refine bst ?_ GE174.out | refine bst ?_ GE176.out) | exact HB.out)⟩⟩
                     ·rw [if_neg c78] at H
                      have c78b0 : (((rd_T75 l0_0 x8_5).f0) == ((rd_T75 l0_0 x7_4).f0)) = false := beq_eq_false_iff_ne.mpr c78
                      have c78b1 : (((rd_T75 l0_0 x8_5).f0) != ((rd_T75 l0_0 x7_4).f0)) = true := bne_iff_ne.mpr c78
                      have H' := A0_.mk H
                      clear H
                      have hnb84 := NB174_176.out
                      have hnc84 := NB176_174.out
                      have hcz85_0 : wr.cell? ⟨gb174, 0, none⟩ = some (.slice (some ad175) l0_0.length c0_0) := (bkC BK174.out 0).trans rfl
                      have hfz85_0 := bkF BK174.out 0
                      have p180 : 0 ≤ (x8_5 : Int) := of_decide_eq_true (by first | (with_reducible assumption) | assumption)
                      have q180 : x8_5 < (l0_0.length : Int) := of_decide_eq_true (by first | (with_reducible assumption) | assumption)
                      obtain ⟨ad180, e180, hx180_0, hx180_1, hx180_2⟩ := at_T75 HR0_0.out x8_5 p180 q180
                      obtain rfl : ad175 = ad180 := (by injection e180)
                      replace hx180_0 := (HB.out.cell (World.block_lt_of_cell? w _ hx180_0)).trans hx180_0
                      replace hx180_1 := (HB.out.cell (World.block_lt_of_cell? w _ hx180_1)).trans hx180_1
                      replace hx180_2 := (HB.out.cell (World.block_lt_of_cell? w _ hx180_2)).trans hx180_2
                      replace p180 := eq_true p180
                      replace q180 := eq_true q180
                      have p181 : 0 ≤ (x7_4 : Int) := of_decide_eq_true (by first | (with_reducible assumption) | assumption)
                      have q181 : x7_4 < (l0_0.length : Int) := of_decide_eq_true (by first | (with_reducible assumption) | assumption)
                      obtain ⟨ad181, e181, hx181_0, hx181_1, hx181_2⟩ := at_T75 HR0_0.out x7_4 p181 q181
                      obtain rfl : ad175 = ad181 := (by injection e181)
                      replace hx181_0 := (HB.out.cell (World.block_lt_of_cell? w _ hx181_0)).trans hx181_0
                      replace hx181_1 := (HB.out.cell (World.block_lt_of_cell? w _ hx181_1)).trans hx181_1
                      replace hx181_2 := (HB.out.cell (World.block_lt_of_cell? w _ hx181_2)).trans hx181_2
                      replace p181 := eq_true p181
                      replace q181 := eq_true q181
                      go_wp2
                      repeat (go_quiet (fail); try go_wp2)
                      go_roundg k5
                      case measure => have := HJ1.out; have := HJ7.out; have := HK3.out; have := HK4.out; have := HK5.out; omega
                      case rel => exact ⟨(wrap64 (x8_5 + 1)), (by first | rfl | (simp; done) | (simp [*]; done)), H', ⟨by have := HJ1.out; have := HJ7.out; have := HK3.out; have := HK4.out; have := HK5.out; omega⟩, ⟨by (with_reducible repeat (first | refine bkN ?_ _ | refine bkD ?_ | refine bkA ?_ _)); exact BK174.out⟩, ⟨by (with_reducible repeat (first | refine bkN ?_ _ | refine bkD ?_ | refine bkA ?_ _)); exact BK176.out⟩, ⟨by repeat (first | (with_reducible first | exact HB.out | apply bal | apply pdN | apply bdr | refine bst ?_ GE174.out | refine bst ?_ GE176.out) | exact HB.out)⟩⟩
                    ·rw [if_neg c77] at H
                     exact absurd H (by simp)
                   ·rw [if_neg c76] at H
                    exact absurd H (by simp)
                  ·rw [if_neg c75] at H
                   exact absurd H (by simp)
                 ·rw [if_neg c74] at H
                  exact absurd H (by simp)
                ·rw [if_neg c73] at H
                 have c73b0 : decide (x8_5 < x7_4) = false := decide_eq_false c73
                 clear c73
                 have H' := A0_.mk H
                 clear H
                 go_wp2
                 repeat (go_quiet (fail); try go_wp2)
                 go_roundg k5
                 case measure => have := HJ1.out; have := HJ7.out; have := HK3.out; have := HK4.out; have := HK5.out; omega
                 case rel => exact ⟨(wrap64 (x7_4 + 1)), (by first | rfl | (simp; done) | (simp [*]; done)), H', ⟨by have := HJ1.out; have := HJ7.out; have := HK3.out; have := HK4.out; have := HK5.out; omega⟩, ⟨by (with_reducible repeat (first | refine bkN ?_ _ | refine bkD ?_ | refine bkA ?_ _)); exact BK174.out⟩, ⟨by (with_reducible repeat (first | refine bkN ?_ _ | refine bkD ?_ | refine bkA ?_ _)); exact BK176.out⟩, ⟨by repeat (first | (with_reducible first | exact HB.out | apply bal | apply pdN | apply bdr | refine bst ?_ GE174.out | refine bst ?_ GE176.out) | exact HB.out)⟩⟩
             ·rw [if_neg c72] at H
              have c72b0 : decide (x7_4 < (l0_0.length : Int)) = false := decide_eq_false c72
              clear c72
              have H' := A0_.mk H
              clear H
              go_wp2
              repeat (go_quiet (fail); try go_wp2)
              go_loopg [9] k4 (fun kq v9 w' => ∃ (x9_5 : Int), v9 = .int .i64 x9_5 ∧ A0_ (spec_ForestOk.l3 kq (l0_0.length : Int) x9_5 l0_0 = some r) ∧ A0_ (kq ≤ k4) ∧ A0_ (w'.heap[gb174]? = some (.cells #[(.slice (some ad175) l0_0.length c0_0)] 36 (0, 0))) ∧ A0_ (w'.heap[gb176]? = some (.cells #[.int .i64 ((rd_T75 l0_0 0).f0), .string ((rd_T75 l0_0 0).f1), .int .i64 ((rd_T75 l0_0 0).f2)] 75 (0, 0))) ∧ A0_ (Below w.heap.size w w'))
              case atStart => exact ⟨(1), (by first | rfl | (simp; done) | (simp [*]; done)), H', ⟨Nat.le_refl _⟩, ⟨by (with_reducible repeat (first | refine bkN ?_ _ | refine bkD ?_ | refine bkA ?_ _)); exact BK174.out⟩, ⟨by (with_reducible repeat (first | refine bkN ?_ _ | refine bkD ?_ | refine bkA ?_ _)); exact BK176.out⟩, ⟨by repeat (first | (with_reducible first | exact HB.out | apply bal | apply pdN | apply bdr | refine bst ?_ GE174.out | refine bst ?_ GE176.out) | exact HB.out)⟩⟩
              case round =>
               clear H'
               try clear c1
               try clear p1
               try clear q1
               try clear hx1
               try clear qi1
               try clear c2
               try clear p2
               try clear c3
               try clear c4
               try clear c5
               try clear c5b0
               try clear c5b1
               try clear c5b2
               try clear c6
               try clear p6
               try clear c7
               try clear c7b0
               try clear c7b1
               try clear c8
               try clear c11
               try clear c13
               try clear c13b0
               try clear c13b1
               try clear c14
               try clear c14b0
               try clear c14b1
               try clear c15
               try clear c17
               try clear p17
               try clear q17
               try clear hx17
               try clear qi17
               try clear p18
               try clear q18
               try clear hx18
               try clear c19
               try clear c21
               try clear c22
               try clear c22b0
               try clear c23
               try clear c23b0
               try clear c24
               try clear c24b0
               try clear c25
               try clear c25b0
               try clear c26
               try clear c29
               try clear c30
               try clear c32
               try clear c32b0
               try clear c33
               try clear c36
               try clear c37
               try clear c39
               try clear c39b0
               try clear c40
               try clear c40b0
               try clear c41
               try clear c41b0
               try clear c41b1
               try clear c42
               try clear c42b0
               try clear c43
               try clear c46
               try clear c47
               try clear c50
               try clear c50b0
               try clear c50b1
               try clear c51
               try clear c54
               try clear c55
               try clear c58
               try clear c61
               try clear c62
               try clear p64
               try clear c65
               try clear c68
               try clear c69
               try clear c72
               try clear c72b0
               try clear c73
               try clear c73b0
               try clear c74
               try clear c74b0
               try clear c75
               try clear c75b0
               try clear c76
               try clear c76b0
               try clear c77
               try clear c77b0
               try clear c78
               try clear c78b0
               try clear c78b1
               try clear c79
               try clear c79b0
               try clear c79b1
               try clear c80
               try clear c82
               try clear c84
               try clear hcz12_0
               try clear hcz12_1
               try clear hcz12_2
               try clear hcz16_0
               try clear hcz16_1
               try clear hcz16_2
               try clear hcz18_0
               try clear hcz18_1
               try clear hcz18_2
               try clear hcz20_0
               try clear hcz20_1
               try clear hcz20_2
               try clear hcz27_0
               try clear hcz31_0
               try clear hcz31_1
               try clear hcz31_2
               try clear hcz34_0
               try clear hcz38_0
               try clear hcz38_1
               try clear hcz38_2
               try clear hcz44_0
               try clear hcz48_0
               try clear hcz48_1
               try clear hcz48_2
               try clear hcz49_0
               try clear hcz4_0
               try clear hcz52_0
               try clear hcz56_0
               try clear hcz56_1
               try clear hcz56_2
               try clear hcz57_0
               try clear hcz59_0
               try clear hcz63_0
               try clear hcz63_1
               try clear hcz63_2
               try clear hcz64_0
               try clear hcz66_0
               try clear hcz70_0
               try clear hcz70_1
               try clear hcz70_2
               try clear hcz71_0
               try clear hcz81_0
               try clear hcz83_0
               try clear hcz85_0
               try clear hcz9_0
               try clear hfz12_0
               try clear hfz12_1
               try clear hfz12_2
               try clear hfz16_0
               try clear hfz16_1
               try clear hfz16_2
               try clear hfz18_0
               try clear hfz18_1
               try clear hfz18_2
               try clear hfz20_0
               try clear hfz20_1
               try clear hfz20_2
               try clear hfz27_0
               try clear hfz31_0
               try clear hfz31_1
               try clear hfz31_2
               try clear hfz34_0
               try clear hfz38_0
               try clear hfz38_1
               try clear hfz38_2
               try clear hfz44_0
               try clear hfz48_0
               try clear hfz48_1
               try clear hfz48_2
               try clear hfz49_0
               try clear hfz4_0
               try clear hfz52_0
               try clear hfz56_0
               try clear hfz56_1
               try clear hfz56_2
               try clear hfz57_0
               try clear hfz59_0
               try clear hfz63_0
               try clear hfz63_1
               try clear hfz63_2
               try clear hfz64_0
               try clear hfz66_0
               try clear hfz70_0
               try clear hfz70_1
               try clear hfz70_2
               try clear hfz71_0
               try clear hfz81_0
               try clear hfz83_0
               try clear hfz85_0
               try clear hfz9_0
               try clear hx175_0
               try clear hx175_1
               try clear hx175_2
               try clear hx177_0
               try clear hx177_1
               try clear hx177_2
               try clear hx179_0
               try clear hx179_1
               try clear hx179_2
               try clear hx180_0
               try clear hx180_1
               try clear hx180_2
               try clear hx181_0
               try clear hx181_1
               try clear hx181_2
               try clear hx182_0
               try clear hx182_1
               try clear hx182_2
               try clear hx183_0
               try clear hx183_1
               try clear hx183_2
               try clear p1
               try clear p17
               try clear p175
               try clear p177
               try clear p179
               try clear p180
               try clear p181
               try clear p182
               try clear p183
               try clear p2
               try clear p6
               try clear p64
               try clear q1
               try clear q17
               try clear q175
               try clear q177
               try clear q179
               try clear q180
               try clear q181
               try clear q182
               try clear q183
               obtain ⟨x9_5, rfl, HA, HK5, BK174, BK176, HB⟩ := hrel
               cases gk with
               | zero => exact absurd HA.out (by simp [spec_ForestOk.l3])
               | succ k5 =>
                have H := HA.out
                clear HA
                simp only [spec_ForestOk.l3] at H
                by_cases c86 : x9_5 < (l0_0.length : Int)
                ·rw [if_pos c86] at H
                 have c86b0 : decide (x9_5 < (l0_0.length : Int)) = true := decide_eq_true c86
                 clear c86
                 by_cases c87 : 0 ≤ x9_5
                 ·rw [if_pos c87] at H
                  have c87b0 : decide (0 ≤ x9_5) = true := decide_eq_true c87
                  clear c87
                  by_cases c88 : x9_5 < (l0_0.length : Int)
                  ·rw [if_pos c88] at H
                   have c88b0 : decide (x9_5 < (l0_0.length : Int)) = true := decide_eq_true c88
                   clear c88
                   have H' := A0_.mk H
                   clear H
                   have hnb89 := NB174_176.out
                   have hnc89 := NB176_174.out
                   have hcz90_0 : wr.cell? ⟨gb174, 0, none⟩ = some (.slice (some ad175) l0_0.length c0_0) := (bkC BK174.out 0).trans rfl
                   have hfz90_0 := bkF BK174.out 0
                   have p184 : 0 ≤ (x9_5 : Int) := of_decide_eq_true (by first | (with_reducible assumption) | assumption)
                   have q184 : x9_5 < (l0_0.length : Int) := of_decide_eq_true (by first | (with_reducible assumption) | assumption)
                   obtain ⟨ad184, e184, hx184_0, hx184_1, hx184_2⟩ := at_T75 HR0_0.out x9_5 p184 q184
                   obtain rfl : ad175 = ad184 := (by injection e184)
                   replace hx184_0 := (HB.out.cell (World.block_lt_of_cell? w _ hx184_0)).trans hx184_0
                   replace hx184_1 := (HB.out.cell (World.block_lt_of_cell? w _ hx184_1)).trans hx184_1
                   replace hx184_2 := (HB.out.cell (World.block_lt_of_cell? w _ hx184_2)).trans hx184_2
                   replace p184 := eq_true p184
                   replace q184 := eq_true q184
                   go_wp2
                   repeat (go_quiet (fail); try go_wp2)
                   go_loopg [10] k5 (fun kq v10 w' => ∃ (x10_6 : Int), v10 = .int .i64 x10_6 ∧ A0_ (spec_ForestOk.l4 kq (l0_0.length : Int) x9_5 x10_6 l0_0 = some r) ∧ A0_ (kq ≤ k5) ∧ A0_ (w'.heap[gb174]? = some (.cells #[(.slice (some ad175) l0_0.length c0_0)] 36 (0, 0))) ∧ A0_ (w'.heap[gb176]? = some (.cells #[.int .i64 ((rd_T75 l0_0 0).f0), .string ((rd_T75 l0_0 0).f1), .int .i64 ((rd_T75 l0_0 0).f2)] 75 (0, 0))) ∧ A0_ (Below w.heap.size w w'))
                   case atStart => exact ⟨((rd_T75 l0_0 x9_5).f0), (by first | rfl | (simp; done) | (simp [*]; done)), H', ⟨Nat.le_refl _⟩, ⟨by (with_reducible repeat (first | refine bkN ?_ _ | refine bkD ?_ | refine bkA ?_ _)); exact BK174.out⟩, ⟨by (with_reducible repeat (first | refine bkN ?_ _ | refine bkD ?_ | refine bkA ?_ _)); exact BK176.out⟩, ⟨by repeat (first | (with_reducible first | exact HB.out | apply bal | apply pdN | apply bdr | refine bst ?_ GE174.out | refine bst ?_ GE176.out) | exact HB.out)⟩⟩
                   case round =>
                    clear H'
                    try clear c1
                    try clear p1
                    try clear q1
                    try clear hx1
                    try clear qi1
                    try clear c2
                    try clear p2
                    try clear c3
                    try clear c4
                    try clear c5
                    try clear c5b0
                    try clear c5b1
                    try clear c5b2
                    try clear c6
                    try clear p6
                    try clear c7
                    try clear c7b0
                    try clear c7b1
                    try clear c8
                    try clear c11
                    try clear c13
                    try clear c13b0
                    try clear c13b1
                    try clear c14
                    try clear c14b0
                    try clear c14b1
                    try clear c15
                    try clear c17
                    try clear p17
                    try clear q17
                    try clear hx17
                    try clear qi17
                    try clear p18
                    try clear q18
                    try clear hx18
                    try clear c19
                    try clear c21
                    try clear c22
                    try clear c22b0
                    try clear c23
                    try clear c23b0
                    try clear c24
                    try clear c24b0
                    try clear c25
                    try clear c25b0
                    try clear c26
                    try clear c29
                    try clear c30
                    try clear c32
                    try clear c32b0
                    try clear c33
                    try clear c36
                    try clear c37
                    try clear c39
                    try clear c39b0
                    try clear c40
                    try clear c40b0
                    try clear c41
                    try clear c41b0
                    try clear c41b1
                    try clear c42
                    try clear c42b0
                    try clear c43
                    try clear c46
                    try clear c47
                    try clear c50
                    try clear c50b0
                    try clear c50b1
                    try clear c51
                    try clear c54
                    try clear c55
                    try clear c58
                    try clear c61
                    try clear c62
                    try clear p64
                    try clear c65
                    try clear c68
                    try clear c69
                    try clear c72
                    try clear c72b0
                    try clear c73
                    try clear c73b0
                    try clear c74
                    try clear c74b0
                    try clear c75
                    try clear c75b0
                    try clear c76
                    try clear c76b0
                    try clear c77
                    try clear c77b0
                    try clear c78
                    try clear c78b0
                    try clear c78b1
                    try clear c79
                    try clear c79b0
                    try clear c79b1
                    try clear c80
                    try clear c82
                    try clear c84
                    try clear c86
                    try clear c86b0
                    try clear c87
                    try clear c87b0
                    try clear c88
                    try clear c88b0
                    try clear c89
                    try clear hcz12_0
                    try clear hcz12_1
                    try clear hcz12_2
                    try clear hcz16_0
                    try clear hcz16_1
                    try clear hcz16_2
                    try clear hcz18_0
                    try clear hcz18_1
                    try clear hcz18_2
                    try clear hcz20_0
                    try clear hcz20_1
                    try clear hcz20_2
                    try clear hcz27_0
                    try clear hcz31_0
                    try clear hcz31_1
                    try clear hcz31_2
                    try clear hcz34_0
                    try clear hcz38_0
                    try clear hcz38_1
                    try clear hcz38_2
                    try clear hcz44_0
                    try clear hcz48_0
                    try clear hcz48_1
                    try clear hcz48_2
                    try clear hcz49_0
                    try clear hcz4_0
                    try clear hcz52_0
                    try clear hcz56_0
                    try clear hcz56_1
                    try clear hcz56_2
                    try clear hcz57_0
                    try clear hcz59_0
                    try clear hcz63_0
                    try clear hcz63_1
                    try clear hcz63_2
                    try clear hcz64_0
                    try clear hcz66_0
                    try clear hcz70_0
                    try clear hcz70_1
                    try clear hcz70_2
                    try clear hcz71_0
                    try clear hcz81_0
                    try clear hcz83_0
                    try clear hcz85_0
                    try clear hcz90_0
                    try clear hcz9_0
                    try clear hfz12_0
                    try clear hfz12_1
                    try clear hfz12_2
                    try clear hfz16_0
                    try clear hfz16_1
                    try clear hfz16_2
                    try clear hfz18_0
                    try clear hfz18_1
                    try clear hfz18_2
                    try clear hfz20_0
                    try clear hfz20_1
                    try clear hfz20_2
                    try clear hfz27_0
                    try clear hfz31_0
                    try clear hfz31_1
                    try clear hfz31_2
                    try clear hfz34_0
                    try clear hfz38_0
                    try clear hfz38_1
                    try clear hfz38_2
                    try clear hfz44_0
                    try clear hfz48_0
                    try clear hfz48_1
                    try clear hfz48_2
                    try clear hfz49_0
                    try clear hfz4_0
                    try clear hfz52_0
                    try clear hfz56_0
                    try clear hfz56_1
                    try clear hfz56_2
                    try clear hfz57_0
                    try clear hfz59_0
                    try clear hfz63_0
                    try clear hfz63_1
                    try clear hfz63_2
                    try clear hfz64_0
                    try clear hfz66_0
                    try clear hfz70_0
                    try clear hfz70_1
                    try clear hfz70_2
                    try clear hfz71_0
                    try clear hfz81_0
                    try clear hfz83_0
                    try clear hfz85_0
                    try clear hfz90_0
                    try clear hfz9_0
                    try clear hx175_0
                    try clear hx175_1
                    try clear hx175_2
                    try clear hx177_0
                    try clear hx177_1
                    try clear hx177_2
                    try clear hx179_0
                    try clear hx179_1
                    try clear hx179_2
                    try clear hx180_0
                    try clear hx180_1
                    try clear hx180_2
                    try clear hx181_0
                    try clear hx181_1
                    try clear hx181_2
                    try clear hx182_0
                    try clear hx182_1
                    try clear hx182_2
                    try clear hx183_0
                    try clear hx183_1
                    try clear hx183_2
                    try clear hx184_0
                    try clear hx184_1
                    try clear hx184_2
                    try clear p1
                    try clear p17
                    try clear p175
                    try clear p177
                    try clear p179
                    try clear p18
                    try clear p180
                    try clear p181
                    try clear p182
                    try clear p183
                    try clear p184
                    try clear p2
                    try clear p6
                    try clear p64
                    try clear q1
                    try clear q17
                    try clear q175
                    try clear q177
                    try clear q179
                    try clear q18
                    try clear q180
                    try clear q181
                    try clear q182
                    try clear q183
                    try clear q184
                    obtain ⟨x10_6, rfl, HA, HK6, BK174, BK176, HB⟩ := hrel
                    cases gk with
                    | zero => exact absurd HA.out (by simp [spec_ForestOk.l4])
                    | succ k6 =>
                     have H := HA.out
                     clear HA
                     simp only [spec_ForestOk.l4] at H
                     by_cases c91 : x10_6 > 0
                     ·rw [if_pos c91] at H
                      have c91b0 : decide (0 < x10_6) = true := decide_eq_true c91
                      clear c91
                      by_cases c92 : 0 ≤ x10_6
                      ·rw [if_pos c92] at H
                       have c92b0 : decide (0 ≤ x10_6) = true := decide_eq_true c92
                       clear c92
                       by_cases c93 : x10_6 < (l0_0.length : Int)
                       ·rw [if_pos c93] at H
                        have c93b0 : decide (x10_6 < (l0_0.length : Int)) = true := decide_eq_true c93
                        clear c93
                        by_cases c94 : 0 ≤ x9_5
                        ·rw [if_pos c94] at H
                         have c94b0 : decide (0 ≤ x9_5) = true := decide_eq_true c94
                         clear c94
                         by_cases c95 : x9_5 < (l0_0.length : Int)
                         ·rw [if_pos c95] at H
                          have c95b0 : decide (x9_5 < (l0_0.length : Int)) = true := decide_eq_true c95
                          clear c95
                          by_cases c96 : ((rd_T75 l0_0 x10_6).f1).toList = ((rd_T75 l0_0 x9_5).f1).toList
                          ·rw [if_pos c96] at H
                           have c96b0 : (((rd_T75 l0_0 x10_6).f1).toList == ((rd_T75 l0_0 x9_5).f1).toList) = true := beq_iff_eq.mpr c96
                           have c96b1 : (((rd_T75 l0_0 x10_6).f1).toList != ((rd_T75 l0_0 x9_5).f1).toList) = false := bne_eq_false_iff_eq.mpr c96
                           clear c96
                           obtain rfl := Option.some.inj H
                           have hnb97 := NB174_176.out
                           have hnc97 := NB176_174.out
                           have hcz98_0 : wr.cell? ⟨gb174, 0, none⟩ = some (.slice (some ad175) l0_0.length c0_0) := (bkC BK174.out 0).trans rfl
                           have hfz98_0 := bkF BK174.out 0
                           have p185 : 0 ≤ (x10_6 : Int) := of_decide_eq_true (by first | (with_reducible assumption) | assumption)
                           have q185 : x10_6 < (l0_0.length : Int) := of_decide_eq_true (by first | (with_reducible assumption) | assumption)
                           obtain ⟨ad185, e185, hx185_0, hx185_1, hx185_2⟩ := at_T75 HR0_0.out x10_6 p185 q185
                           obtain rfl : ad175 = ad185 := (by injection e185)
                           replace hx185_0 := (HB.out.cell (World.block_lt_of_cell? w _ hx185_0)).trans hx185_0
                           replace hx185_1 := (HB.out.cell (World.block_lt_of_cell? w _ hx185_1)).trans hx185_1
                           replace hx185_2 := (HB.out.cell (World.block_lt_of_cell? w _ hx185_2)).trans hx185_2
                           replace p185 := eq_true p185
                           replace q185 := eq_true q185
                           have p186 : 0 ≤ (x9_5 : Int) := of_decide_eq_true (by first | (with_reducible assumption) | assumption)
                           have q186 : x9_5 < (l0_0.length : Int) := of_decide_eq_true (by first | (with_reducible assumption) | assumption)
                           obtain ⟨ad186, e186, hx186_0, hx186_1, hx186_2⟩ := at_T75 HR0_0.out x9_5 p186 q186
                           obtain rfl : ad175 = ad186 := (by injection e186)
                           replace hx186_0 := (HB.out.cell (World.block_lt_of_cell? w _ hx186_0)).trans hx186_0
                           replace hx186_1 := (HB.out.cell (World.block_lt_of_cell? w _ hx186_1)).trans hx186_1
                           replace hx186_2 := (HB.out.cell (World.block_lt_of_cell? w _ hx186_2)).trans hx186_2
                           replace p186 := eq_true p186
                           replace q186 := eq_true q186
                           go_wp2
                           repeat (go_quiet (fail); try go_wp2)
                           go_ret
                           exact ⟨by first | rfl | (simp [errW_none, errW_some] <;> rfl) | (simp [*, errW_none, errW_some] <;> rfl), by repeat (first | (with_reducible first | exact HB.out | apply bal | apply pdN | apply bdr | refine bst ?_ GE174.out | refine bst ?_ GE176.out) | exact HB.out)⟩
                          ·rw [if_neg c96] at H
                           have c96b0 : (((rd_T75 l0_0 x10_6).f1).toList == ((rd_T75 l0_0 x9_5).f1).toList) = false := beq_eq_false_iff_ne.mpr c96
                           have c96b1 : (((rd_T75 l0_0 x10_6).f1).toList != ((rd_T75 l0_0 x9_5).f1).toList) = true := bne_iff_ne.mpr c96
                           have H' := A0_.mk H
                           clear H
                           have hnb99 := NB174_176.out
                           have hnc99 := NB176_174.out
                           have hcz100_0 : wr.cell? ⟨gb174, 0, none⟩ = some (.slice (some ad175) l0_0.length c0_0) := (bkC BK174.out 0).trans rfl
                           have hfz100_0 := bkF BK174.out 0
                           have p185 : 0 ≤ (x10_6 : Int) := of_decide_eq_true (by first | (with_reducible assumption) | assumption)
                           have q185 : x10_6 < (l0_0.length : Int) := of_decide_eq_true (by first | (with_reducible assumption) | assumption)
                           obtain ⟨ad185, e185, hx185_0, hx185_1, hx185_2⟩ := at_T75 HR0_0.out x10_6 p185 q185
                           obtain rfl : ad175 = ad185 := (by injection e185)
                           replace hx185_0 := (HB.out.cell (World.block_lt_of_cell? w _ hx185_0)).trans hx185_0
                           replace hx185_1 := (HB.out.cell (World.block_lt_of_cell? w _ hx185_1)).trans hx185_1
                           replace hx185_2 := (HB.out.cell (World.block_lt_of_cell? w _ hx185_2)).trans hx185_2
                           replace p185 := eq_true p185
                           replace q185 := eq_true q185
                           have p186 : 0 ≤ (x9_5 : Int) := of_decide_eq_true (by first | (with_reducible assumption) | assumption)
                           have q186 : x9_5 < (l0_0.length : Int) := of_decide_eq_true (by first | (with_reducible assumption) | assumption)
                           obtain ⟨ad186, e186, hx186_0, hx186_1, hx186_2⟩ := at_T75 HR0_0.out x9_5 p186 q186
                           obtain rfl : ad175 = ad186 := (by injection e186)
                           replace hx186_0 := (HB.out.cell (World.block_lt_of_cell? w _ hx186_0)).trans hx186_0
                           replace hx186_1 := (HB.out.cell (World.block_lt_of_cell? w _ hx186_1)).trans hx186_1
                           replace hx186_2 := (HB.out.cell (World.block_lt_of_cell? w _ hx186_2)).trans hx186_2
                           replace p186 := eq_true p186
                           replace q186 := eq_true q186
                           have p187 : 0 ≤ (x10_6 : Int) := of_decide_eq_true (by first | (with_reducible assumption) | assumption)
                           have q187 : x10_6 < (l0_0.length : Int) := of_decide_eq_true (by first | (with_reducible assumption) | assumption)
                           obtain ⟨ad187, e187, hx187_0, hx187_1, hx187_2⟩ := at_T75 HR0_0.out x10_6 p187 q187
                           obtain rfl : ad175 = ad187 := (by injection e187)
                           replace hx187_0 := (HB.out.cell (World.block_lt_of_cell? w _ hx187_0)).trans hx187_0
                           replace hx187_1 := (HB.out.cell (World.block_lt_of_cell? w _ hx187_1)).trans hx187_1
                           replace hx187_2 := (HB.out.cell (World.block_lt_of_cell? w _ hx187_2)).trans hx187_2
                           replace p187 := eq_true p187
                           replace q187 := eq_true q187
                           go_wp2
                           repeat (go_quiet (fail); try go_wp2)
                           go_roundg k6
                           case measure => have := HJ1.out; have := HJ7.out; have := HK3.out; have := HK4.out; have := HK5.out; have := HK6.out; omega
                           case rel => exact ⟨((rd_T75 l0_0 x10_6).f0), (by first | rfl | (simp; done) | (simp [*]; done)), H', ⟨by have := HJ1.out; have := HJ7.out; have := HK3.out; have := HK4.out; have := HK5.out; have := HK6.out; omega⟩, ⟨by (with_reducible repeat (first | refine bkN ?_ _ | refine bkD ?_ | refine bkA ?_ _)); exact BK174.out⟩, ⟨by (with_reducible repeat (first | refine bkN ?_ _ | refine bkD ?_ | refine bkA ?_ _)); exact BK176.out⟩, ⟨by repeat (first | (with_reducible first | exact HB.out | apply bal | apply pdN | apply bdr | refine bst ?_ GE174.out | refine bst ?_ GE176.out) | exact HB.out)⟩⟩
                         ·rw [if_neg c95] at H
                          exact absurd H (by simp)
                        ·rw [if_neg c94] at H
                         exact absurd H (by simp)
                       ·rw [if_neg c93] at H
                        exact absurd H (by simp)
                      ·rw [if_neg c92] at H
                       exact absurd H (by simp)
                     ·rw [if_neg c91] at H
                      have c91b0 : decide (0 < x10_6) = false := decide_eq_false c91
                      clear c91
                      have H' := A0_.mk H
                      clear H
                      go_wp2
                      repeat (go_quiet (fail); try go_wp2)
                      go_roundg k6
                      case measure => have := HJ1.out; have := HJ7.out; have := HK3.out; have := HK4.out; have := HK5.out; have := HK6.out; omega
                      case rel => exact ⟨(wrap64 (x9_5 + 1)), (by first | rfl | (simp; done) | (simp [*]; done)), H', ⟨by have := HJ1.out; have := HJ7.out; have := HK3.out; have := HK4.out; have := HK5.out; have := HK6.out; omega⟩, ⟨by (with_reducible repeat (first | refine bkN ?_ _ | refine bkD ?_ | refine bkA ?_ _)); exact BK174.out⟩, ⟨by (with_reducible repeat (first | refine bkN ?_ _ | refine bkD ?_ | refine bkA ?_ _)); exact BK176.out⟩, ⟨by repeat (first | (with_reducible first | exact HB.out | apply bal | apply pdN | apply bdr | refine bst ?_ GE174.out | refine bst ?_ GE176.out) | exact HB.out)⟩⟩
                  ·rw [if_neg c88] at H
                   exact absurd H (by simp)
                 ·rw [if_neg c87] at H
                  exact absurd H (by simp)
                ·rw [if_neg c86] at H
                 have c86b0 : decide (x9_5 < (l0_0.length : Int)) = false := decide_eq_false c86
                 clear c86
                 obtain rfl := Option.some.inj H
                 go_wp2
                 repeat (go_quiet (fail); try go_wp2)
                 go_ret
                 exact ⟨by first | rfl | (simp [errW_none, errW_some] <;> rfl) | (simp [*, errW_none, errW_some] <;> rfl), by repeat (first | (with_reducible first | exact HB.out | apply bal | apply pdN | apply bdr | refine bst ?_ GE174.out | refine bst ?_ GE176.out) | exact HB.out)⟩
    ·rw [if_neg c7] at H
     exact absurd H (by simp)

end Go.Proofs.Ytclploookcjcbaa.PGro
