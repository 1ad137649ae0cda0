/- Proved: each Go function that is named below comes to the answers of the Lean function printed for it. Printed by a changed copy of the kit's print program (wip/mkpk.py), for this claim. -/
import Derived.Test.YtclploookcjcbaaPGrox0
namespace Go.Proofs.Ytclploookcjcbaa.PGro
open Go.RowKit Go.Proofs.YtclploookcjcbaaW.PrintWords Go.Proofs.YtclploookcjcbaaW.PrintLast Go.Proofs.YtclploookcjcbaaW.PrintMore
attribute [local go_sem] max2_int min2_int max_two min_two max_three min_three max_four min_four   -- for this text's walks alone
set_option linter.unusedVariables false
set_option linter.unusedSimpArgs false

/-! ### spec_l2copy: function 74 -/
def spec_l2copy.l0 : Nat → List (S75) → Int → Int → List (S75) → Option ((List (S75)))
 | 0, _, _, _, _ => none
 | k + 1, x7, x8, x9, x205000 => if x9 < x8 then (if 0 ≤ x9 then (if x9 < (x7.length : Int) then (if x205000.length < 4398046511104 then (spec_l2copy.l0 k x7 x8 (wrap64 (x9 + 1)) (x205000 ++ [(⟨(rd_T75 x7 x9).f0, (rd_T75 x7 x9).f1, (rd_T75 x7 x9).f2⟩ : S75)])) else (none)) else (none)) else (none)) else (some x205000)
def spec_l2copy.f (k : Nat) (l0_0 : List (S75)) : Option ((List (S75))) := spec_l2copy.l0 k l0_0 (l0_0.length : Int) 0 ([] : List (S75))
theorem spec_l2copy.mono_l : ∀ k, (∀ y0 y1 y2 y3, LeO (spec_l2copy.l0 k y0 y1 y2 y3) (spec_l2copy.l0 (k + 1) y0 y1 y2 y3))
 | 0 => fun _ _ _ _ r h => by simp [spec_l2copy.l0] at h
 | k + 1 => by
  have ih0 := spec_l2copy.mono_l k
  ·intro y0 y1 y2 y3
   unfold spec_l2copy.l0
   repeat' first
   | (with_reducible exact ih0 _ _ _ _)
   | (with_reducible exact LeO.refl _)
   | (with_reducible exact LeO.none _)
   | (with_reducible refine LeO.ite ?_ ?_)
   | (with_reducible refine LeO.bind ?_ (fun _ => ?_))
   | exact ih0 _ _ _ _
   | exact LeO.none _
   | refine LeO.ite ?_ ?_
   | refine LeO.bind ?_ (fun _ => ?_)
theorem spec_l2copy.mono : ∀ a0 k, LeO (spec_l2copy.f k a0) (spec_l2copy.f (k + 1) a0) := by
 intro a0 k
 have ih0 := spec_l2copy.mono_l k
 unfold spec_l2copy.f
 repeat' first
   | (with_reducible exact ih0 _ _ _ _)
   | (with_reducible exact LeO.refl _)
   | (with_reducible exact LeO.none _)
   | (with_reducible refine LeO.ite ?_ ?_)
   | (with_reducible refine LeO.bind ?_ (fun _ => ?_))
   | exact ih0 _ _ _ _
   | exact LeO.none _
   | refine LeO.ite ?_ ?_
   | refine LeO.bind ?_ (fun _ => ?_)
set_option maxHeartbeats 8000000 in
set_option maxRecDepth 100000 in
theorem spec_l2copy.calls (k : Nat) (A0_0 : Option Addr) (c0_0 : Nat) (l0_0 : List (S75)) (r : List (S75)) (w : World) (hr0_0 : Kd.C k75 w A0_0 l0_0.length l0_0) (hc0_0 : l0_0.length ≤ c0_0) (h : spec_l2copy.f k l0_0 = some r) :
  Calls Try.prog 74 #[.agg #[.slice A0_0 l0_0.length c0_0]] w fun e w' => ∃ v0_ : Value, e = .returned (.agg #[v0_]) ∧ Kd.R k75 75 w' w.heap.size (fun _ => True) v0_ r ∧ Below w.heap.size w w' := by
 have hu36 := Try.underlying36
 have hu75 := Try.underlying75
 have HR0_0 := A0_.mk hr0_0
 have HC0_0 := A0_.mk hc0_0
 clear hr0_0 hc0_0
 have HB := A0_.mk (Below.refl w.heap.size w)
 have H : (spec_l2copy.l0 k l0_0 (l0_0.length : Int) 0 ([] : List (S75))) = some r := h
 clear h
 have H' := A0_.mk H
 clear H
 go_enter Try.func74, Try.ntmps74
 go_wp2_with (first | ((with_reducible refine gate_dst (N := 1) rfl ?_); refine box_event ?hg (N := 1) ?hd (cs := #[.slice A0_0 l0_0.length c0_0]) (t := 36) ?hr ?_; (case hd => rfl); (case hg => rfl); (case hr => first | (go_simp; done) | (go_simp; rfl)); intro gb202 hg w2 hbox hb; have n0_ := A0_.mk (below_step (by repeat (first | (with_reducible first | exact HB.out | apply bal | apply pdN | apply bdr) | exact HB.out)) hb); have n1_ := A0_.mk (hbox); have n2_ := A0_.mk ((by rw [hg]; exact (below_size (by repeat (first | (with_reducible first | exact HB.out | apply bal | apply pdN | apply bdr) | exact HB.out))) : w.heap.size ≤ gb202)); have n3_ := A0_.mk ((by rw [hg]; exact (below_size (by repeat (first | (with_reducible first | exact HB.out | apply bal | apply pdN | apply bdr) | exact HB.out))) : w.heap.size ≤ gb202)); clear HB; have HB := n0_; have BK202 := n1_; have GW202 := n2_; have GE202 := n3_; clear n0_ n1_ n2_ n3_; clear hb hbox hg) | ((with_reducible refine gate_dst (N := 2) rfl ?_); refine box_event ?hg (N := 2) ?hd (cs := #[.slice none 0 0]) (t := 36) ?hr ?_; (case hd => rfl); (case hg => rfl); (case hr => first | (go_simp; done) | (go_simp; rfl)); intro gb203 hg w3 hbox hb; have n0_ := A0_.mk (blk_below (g := gb202) (o := .cells #[.slice A0_0 l0_0.length c0_0] 36 (0, 0)) (by (with_reducible repeat (first | refine bkN ?_ _ | refine bkD ?_ | refine bkA ?_ _)); exact BK202.out) hb); have n1_ := A0_.mk (below_step (by repeat (first | (with_reducible first | exact HB.out | apply bal | apply pdN | apply bdr | refine bst ?_ GE202.out) | exact HB.out)) hb); have n2_ := A0_.mk (hbox); have n3_ := A0_.mk ((by rw [hg]; exact (below_size (by repeat (first | (with_reducible first | exact HB.out | apply bal | apply pdN | apply bdr | refine bst ?_ GE202.out) | exact HB.out))) : w.heap.size ≤ gb203)); have n4_ := A0_.mk ((by rw [hg]; exact (below_size (by repeat (first | (with_reducible first | exact HB.out | apply bal | apply pdN | apply bdr | refine bst ?_ GE202.out) | exact HB.out))) : w.heap.size ≤ gb203)); have n5_ := A0_.mk ((by rw [hg]; exact Nat.ne_of_lt (blk_lt (g := gb202) (o := .cells #[.slice A0_0 l0_0.length c0_0] 36 (0, 0)) (by (with_reducible repeat (first | refine bkN ?_ _ | refine bkD ?_ | refine bkA ?_ _)); exact BK202.out)) : gb202 ≠ gb203)); have n6_ := A0_.mk ((by rw [hg]; exact Nat.ne_of_gt (blk_lt (g := gb202) (o := .cells #[.slice A0_0 l0_0.length c0_0] 36 (0, 0)) (by (with_reducible repeat (first | refine bkN ?_ _ | refine bkD ?_ | refine bkA ?_ _)); exact BK202.out)) : gb203 ≠ gb202)); clear BK202; clear HB; have BK202 := n0_; have HB := n1_; have BK203 := n2_; have GW203 := n3_; have GE203 := n4_; have NB202_203 := n5_; have NB203_202 := n6_; clear n0_ n1_ n2_ n3_ n4_ n5_ n6_; clear hb hbox hg) | ((with_reducible refine gate_dst (N := 3) rfl ?_); refine box_event ?hg (N := 3) ?hd (cs := #[.slice none 0 0]) (t := 36) ?hr ?_; (case hd => rfl); (case hg => rfl); (case hr => first | (go_simp; done) | (go_simp; rfl)); intro gb204 hg w4 hbox hb; have n0_ := A0_.mk (blk_below (g := gb202) (o := .cells #[.slice A0_0 l0_0.length c0_0] 36 (0, 0)) (by (with_reducible repeat (first | refine bkN ?_ _ | refine bkD ?_ | refine bkA ?_ _)); exact BK202.out) hb); have n1_ := A0_.mk (blk_below (g := gb203) (o := .cells #[.slice none 0 0] 36 (0, 0)) (by (with_reducible repeat (first | refine bkN ?_ _ | refine bkD ?_ | refine bkA ?_ _)); exact BK203.out) hb); have n2_ := A0_.mk (below_step (by repeat (first | (with_reducible first | exact HB.out | apply bal | apply pdN | apply bdr | refine bst ?_ GE202.out | refine bst ?_ GE203.out) | exact HB.out)) hb); have n3_ := A0_.mk (hbox); have n4_ := A0_.mk ((by rw [hg]; exact (below_size (by repeat (first | (with_reducible first | exact HB.out | apply bal | apply pdN | apply bdr | refine bst ?_ GE202.out | refine bst ?_ GE203.out) | exact HB.out))) : w.heap.size ≤ gb204)); have n5_ := A0_.mk ((by rw [hg]; exact (below_size (by repeat (first | (with_reducible first | exact HB.out | apply bal | apply pdN | apply bdr | refine bst ?_ GE202.out | refine bst ?_ GE203.out) | exact HB.out))) : w.heap.size ≤ gb204)); have n6_ := A0_.mk ((by rw [hg]; exact Nat.ne_of_lt (blk_lt (g := gb202) (o := .cells #[.slice A0_0 l0_0.length c0_0] 36 (0, 0)) (by (with_reducible repeat (first | refine bkN ?_ _ | refine bkD ?_ | refine bkA ?_ _)); exact BK202.out)) : gb202 ≠ gb204)); have n7_ := A0_.mk ((by rw [hg]; exact Nat.ne_of_gt (blk_lt (g := gb202) (o := .cells #[.slice A0_0 l0_0.length c0_0] 36 (0, 0)) (by (with_reducible repeat (first | refine bkN ?_ _ | refine bkD ?_ | refine bkA ?_ _)); exact BK202.out)) : gb204 ≠ gb202)); have n8_ := A0_.mk ((by rw [hg]; exact Nat.ne_of_lt (blk_lt (g := gb203) (o := .cells #[.slice none 0 0] 36 (0, 0)) (by (with_reducible repeat (first | refine bkN ?_ _ | refine bkD ?_ | refine bkA ?_ _)); exact BK203.out)) : gb203 ≠ gb204)); have n9_ := A0_.mk ((by rw [hg]; exact Nat.ne_of_gt (blk_lt (g := gb203) (o := .cells #[.slice none 0 0] 36 (0, 0)) (by (with_reducible repeat (first | refine bkN ?_ _ | refine bkD ?_ | refine bkA ?_ _)); exact BK203.out)) : gb204 ≠ gb203)); clear BK202; clear BK203; clear HB; have BK202 := n0_; have BK203 := n1_; have HB := n2_; have BK204 := n3_; have GW204 := n4_; have GE204 := n5_; have NB202_204 := n6_; have NB204_202 := n7_; have NB203_204 := n8_; have NB204_203 := n9_; clear n0_ n1_ n2_ n3_ n4_ n5_ n6_ n7_ n8_ n9_; clear hb hbox hg; have hnb5 := NB202_203.out; have hnc5 := NB203_202.out; have hnb6 := NB202_204.out; have hnc6 := NB204_202.out; have hcz7_0 : w4.cell? ⟨gb202, 0, none⟩ = some (.slice A0_0 l0_0.length c0_0) := (bkC BK202.out 0).trans rfl; have hfz7_0 := bkF BK202.out 0))
 go_loopg [9] k (fun kq v9 w' => ∃ (x9_1 : Int) (x205000_1 : List (S75)) (u205000 : Value), v9 = .int .i64 x9_1 ∧ A0_ (spec_l2copy.l0 kq l0_0 (l0_0.length : Int) x9_1 x205000_1 = some r) ∧ A0_ (kq ≤ k) ∧ A0_ (Kd.R k75 75 w' w.heap.size (fun _ => True) u205000 x205000_1) ∧ A0_ (w'.heap[gb202]? = some (.cells #[(.slice A0_0 l0_0.length c0_0)] 36 (0, 0))) ∧ A0_ (w'.heap[gb203]? = some (.cells #[(.slice none 0 0)] 36 (0, 0))) ∧ A0_ (w'.heap[gb204]? = some (.cells #[u205000] 36 (0, 0))) ∧ A0_ (Below w.heap.size w w'))
 case atStart => exact ⟨(0), (([] : List (S75))), (.slice none 0 0), (by first | rfl | (simp; done) | (simp [*]; done)), H', ⟨Nat.le_refl _⟩, ⟨by first | exact Kd.R_nil _ _ _ _ _ | exact Kd.N_nil _ _ _ _ _ | exact Kd.V_nil _ _ _ _ _ | exact Kd.Q_nil _ _ _ _ _ | exact Kd.S_nil _ _ _ _ _⟩, ⟨by (with_reducible repeat (first | refine bkN ?_ _ | refine bkD ?_ | refine bkA ?_ _)); exact BK202.out⟩, ⟨by (with_reducible repeat (first | refine bkN ?_ _ | refine bkD ?_ | refine bkA ?_ _)); exact BK203.out⟩, ⟨by (with_reducible repeat (first | refine bkN ?_ _ | refine bkD ?_ | refine bkA ?_ _)); exact BK204.out⟩, ⟨by repeat (first | (with_reducible first | exact HB.out | apply bal | apply pdN | apply bdr | refine bst ?_ GE202.out | refine bst ?_ GE203.out | refine bst ?_ GE204.out) | exact HB.out)⟩⟩
 case round =>
  clear H'
  try clear p2
  try clear c5
  try clear c6
  try clear c7
  try clear hcz7_0
  try clear hfz7_0
  obtain ⟨x9_1, x205000_1, u205000, rfl, HA, HK1, HO_205000, BK202, BK203, BK204, HB⟩ := hrel
  cases gk with
  | zero => exact absurd HA.out (by simp [spec_l2copy.l0])
  | succ k1 =>
   have H := HA.out
   clear HA
   simp only [spec_l2copy.l0] at H
   by_cases c8 : x9_1 < (l0_0.length : Int)
   ·rw [if_pos c8] at H
    have c8b0 : decide (x9_1 < (l0_0.length : Int)) = true := decide_eq_true c8
    clear c8
    by_cases c9 : 0 ≤ x9_1
    ·rw [if_pos c9] at H
     have c9b0 : decide (0 ≤ x9_1) = true := decide_eq_true c9
     clear c9
     by_cases c10 : x9_1 < (l0_0.length : Int)
     ·rw [if_pos c10] at H
      have c10b0 : decide (x9_1 < (l0_0.length : Int)) = true := decide_eq_true c10
      clear c10
      by_cases c11 : x205000_1.length < 4398046511104
      ·rw [if_pos c11] at H
       have LMc11 := A0_.mk c11
       clear c11
       obtain ⟨y207, hy207⟩ : ∃ y_ : List (S75), y_ = (x205000_1 ++ [(⟨(rd_T75 l0_0 x9_1).f0, (rd_T75 l0_0 x9_1).f1, (rd_T75 l0_0 x9_1).f2⟩ : S75)]) := ⟨_, rfl⟩
       replace H : (spec_l2copy.l0 k1 l0_0 (l0_0.length : Int) (wrap64 (x9_1 + 1)) y207) = some r := by first | (rw [hy207]; with_reducible exact H) | (have H2_ := (Option.bind_some _ _).symm.trans H; rw [hy207]; with_reducible exact H2_) | (have H2_ := (Option.bind_some _ _).symm.trans H; with_reducible exact H2_) | with_reducible exact H | (rw [hy207]; exact H) | exact H
       have Ny207 := A0_.mk hy207
       clear hy207
       have H' := A0_.mk H
       clear H
       have p205 : 0 ≤ (x9_1 : Int) := of_decide_eq_true (by first | (with_reducible assumption) | assumption)
       have q205 : x9_1 < (l0_0.length : Int) := of_decide_eq_true (by first | (with_reducible assumption) | assumption)
       obtain ⟨ad205, e205, hx205_0, hx205_1, hx205_2⟩ := at_T75 HR0_0.out x9_1 p205 q205
       cases e205
       replace hx205_0 := (HB.out.cell (World.block_lt_of_cell? w _ hx205_0)).trans hx205_0
       replace hx205_1 := (HB.out.cell (World.block_lt_of_cell? w _ hx205_1)).trans hx205_1
       replace hx205_2 := (HB.out.cell (World.block_lt_of_cell? w _ hx205_2)).trans hx205_2
       replace p205 := eq_true p205
       replace q205 := eq_true q205
       go_wp2_with (first | ((with_reducible refine gate_dst (N := 5) rfl ?_); refine box_event ?hg (N := 5) ?hd (cs := #[.int .i64 0, .string (⟨#[]⟩ : ByteArray), .int .i64 0]) (t := 75) ?hr ?_; (case hd => rfl); (case hg => rfl); (case hr => first | (go_simp; done) | (go_simp; rfl)); intro gb206 hg w12 hbox hb; have n0_ := A0_.mk (Kd.R_below (Kd.R_elderB (by (with_reducible repeat (first | apply Kd.R_alloc | apply Kd.R_drewN | apply Kd.R_drew)); exact HO_205000.out) gb206 (Nat.le_of_eq hg.symm)) hb); have n1_ := A0_.mk (blk_below (g := gb202) (o := .cells #[.slice (some ad205) l0_0.length c0_0] 36 (0, 0)) (by (with_reducible repeat (first | refine bkN ?_ _ | refine bkD ?_ | refine bkA ?_ _)); exact BK202.out) hb); have n2_ := A0_.mk (blk_below (g := gb203) (o := .cells #[.slice none 0 0] 36 (0, 0)) (by (with_reducible repeat (first | refine bkN ?_ _ | refine bkD ?_ | refine bkA ?_ _)); exact BK203.out) hb); have n3_ := A0_.mk (blk_below (g := gb204) (o := .cells #[u205000] 36 (0, 0)) (by (with_reducible repeat (first | refine bkN ?_ _ | refine bkD ?_ | refine bkA ?_ _)); exact BK204.out) hb); have n4_ := A0_.mk (below_step (by repeat (first | (with_reducible first | exact HB.out | apply bal | apply pdN | apply bdr | refine bst ?_ GE202.out | refine bst ?_ GE203.out | refine bst ?_ GE204.out) | exact HB.out)) hb); have n5_ := A0_.mk (hbox); have n6_ := A0_.mk ((by rw [hg]; exact (below_size (by repeat (first | (with_reducible first | exact HB.out | apply bal | apply pdN | apply bdr | refine bst ?_ GE202.out | refine bst ?_ GE203.out | refine bst ?_ GE204.out) | exact HB.out))) : w.heap.size ≤ gb206)); have n7_ := A0_.mk ((by rw [hg]; exact (below_size (by repeat (first | (with_reducible first | exact HB.out | apply bal | apply pdN | apply bdr | refine bst ?_ GE202.out | refine bst ?_ GE203.out | refine bst ?_ GE204.out) | exact HB.out))) : w.heap.size ≤ gb206)); have n8_ := A0_.mk ((by rw [hg]; exact Nat.ne_of_lt (blk_lt (g := gb202) (o := .cells #[.slice (some ad205) l0_0.length c0_0] 36 (0, 0)) (by (with_reducible repeat (first | refine bkN ?_ _ | refine bkD ?_ | refine bkA ?_ _)); exact BK202.out)) : gb202 ≠ gb206)); have n9_ := A0_.mk ((by rw [hg]; exact Nat.ne_of_gt (blk_lt (g := gb202) (o := .cells #[.slice (some ad205) l0_0.length c0_0] 36 (0, 0)) (by (with_reducible repeat (first | refine bkN ?_ _ | refine bkD ?_ | refine bkA ?_ _)); exact BK202.out)) : gb206 ≠ gb202)); have n10_ := A0_.mk ((by rw [hg]; exact Nat.ne_of_lt (blk_lt (g := gb203) (o := .cells #[.slice none 0 0] 36 (0, 0)) (by (with_reducible repeat (first | refine bkN ?_ _ | refine bkD ?_ | refine bkA ?_ _)); exact BK203.out)) : gb203 ≠ gb206)); have n11_ := A0_.mk ((by rw [hg]; exact Nat.ne_of_gt (blk_lt (g := gb203) (o := .cells #[.slice none 0 0] 36 (0, 0)) (by (with_reducible repeat (first | refine bkN ?_ _ | refine bkD ?_ | refine bkA ?_ _)); exact BK203.out)) : gb206 ≠ gb203)); have n12_ := A0_.mk ((by rw [hg]; exact Nat.ne_of_lt (blk_lt (g := gb204) (o := .cells #[u205000] 36 (0, 0)) (by (with_reducible repeat (first | refine bkN ?_ _ | refine bkD ?_ | refine bkA ?_ _)); exact BK204.out)) : gb204 ≠ gb206)); have n13_ := A0_.mk ((by rw [hg]; exact Nat.ne_of_gt (blk_lt (g := gb204) (o := .cells #[u205000] 36 (0, 0)) (by (with_reducible repeat (first | refine bkN ?_ _ | refine bkD ?_ | refine bkA ?_ _)); exact BK204.out)) : gb206 ≠ gb204)); clear HO_205000; clear BK202; clear BK203; clear BK204; clear HB; have HO_205000 := n0_; have BK202 := n1_; have BK203 := n2_; have BK204 := n3_; have HB := n4_; have BK206 := n5_; have GW206 := n6_; have GE206 := n7_; have NB202_206 := n8_; have NB206_202 := n9_; have NB203_206 := n10_; have NB206_203 := n11_; have NB204_206 := n12_; have NB206_204 := n13_; clear n0_ n1_ n2_ n3_ n4_ n5_ n6_ n7_ n8_ n9_ n10_ n11_ n12_ n13_; clear hb hbox hg; have hnb13 := NB206_202.out; have hnc13 := NB202_206.out; have hnb14 := NB206_203.out; have hnc14 := NB203_206.out; have hnb15 := NB206_204.out; have hnc15 := NB204_206.out; have hcz16_0 : w12.cell? ⟨gb206, 0, none⟩ = some (.int .i64 0) := (bkC BK206.out 0).trans rfl; have hcz16_1 : w12.cell? ⟨gb206, 1, none⟩ = some (.string (⟨#[]⟩ : ByteArray)) := (bkC BK206.out 1).trans rfl; have hcz16_2 : w12.cell? ⟨gb206, 2, none⟩ = some (.int .i64 0) := (bkC BK206.out 2).trans rfl; have hfz16_0 := bkF BK206.out 0; have hfz16_1 := bkF BK206.out 1; have hfz16_2 := bkF BK206.out 2; have hnb17 := NB204_202.out; have hnc17 := NB202_204.out; have hnb18 := NB204_203.out; have hnc18 := NB203_204.out; have hcz19_0 : w12.cell? ⟨gb204, 0, none⟩ = some (u205000) := (bkC BK204.out 0).trans rfl; have hfz19_0 := bkF BK204.out 0) | ((with_reducible refine gate_builtin (b := .append) (xs := #[.tmp 14, .tmp 16]) rfl ?_); at_builtin; refine Kd.R_append k75 (w0 := w) w.heap.size rfl (.tmp 14) (.tmp 16) 34 75 (.agg #[(.int .i64 0), (.string ⟨#[]⟩), (.int .i64 0)]) 32 rfl Try.underlying34 info75 rfl (by decide) (by omega) u205000 x205000_1 (⟨(rd_T75 l0_0 x9_1).f0, (rd_T75 l0_0 x9_1).f1, (rd_T75 l0_0 x9_1).f2⟩ : S75) [.int .i64 ((rd_T75 l0_0 x9_1).f0), .string ((rd_T75 l0_0 x9_1).f1), .int .i64 ((rd_T75 l0_0 x9_1).f2)] (fun k_ => k_ ≠ gb206) (fun _ => False) rfl (by first | (go_simp; done) | (go_simp; rfl)) ?aP (fun _ hk => hk.elim) ?aF ?aO ?aB ?aS ?aL ?_; (case aP => exact k75_mkM _ _ _ (⟨(rd_T75 l0_0 x9_1).f0, (rd_T75 l0_0 x9_1).f1, (rd_T75 l0_0 x9_1).f2⟩ : S75)); (case aB => exact (by repeat (first | (with_reducible first | exact HB.out | apply bal | apply pdN | apply bdr | refine bst ?_ GE202.out | refine bst ?_ GE203.out | refine bst ?_ GE204.out | refine bst ?_ GE206.out) | exact HB.out))); (case aF => exact (fun k_ hk => Kd.freshB (g := gb206) (o := .cells #[.int .i64 ((rd_T75 l0_0 x9_1).f0), .string ((rd_T75 l0_0 x9_1).f1), .int .i64 ((rd_T75 l0_0 x9_1).f2)] 75 (0, 0)) (by (with_reducible repeat (first | refine bkN ?_ _ | refine bkD ?_ | refine bkA ?_ _)); refine blk_put (cs := #[.int .i64 ((rd_T75 l0_0 x9_1).f0), .string ((rd_T75 l0_0 x9_1).f1), .int .i64 0]) ?_ 2 _ rfl; (with_reducible repeat (first | refine bkN ?_ _ | refine bkD ?_ | refine bkA ?_ _)); refine blk_put (cs := #[.int .i64 ((rd_T75 l0_0 x9_1).f0), .string (⟨#[]⟩ : ByteArray), .int .i64 0]) ?_ 1 _ rfl; (with_reducible repeat (first | refine bkN ?_ _ | refine bkD ?_ | refine bkA ?_ _)); refine blk_put (cs := #[.int .i64 0, .string (⟨#[]⟩ : ByteArray), .int .i64 0]) ?_ 0 _ rfl; (with_reducible repeat (first | refine bkN ?_ _ | refine bkD ?_ | refine bkA ?_ _)); exact BK206.out) k_ hk)); (case aO => exact (by (with_reducible repeat (first | apply Kd.R_alloc | apply Kd.R_drewN | apply Kd.R_drew)); exact Kd.R_mono (Kd.R_far (p := ⟨gb206, 2, none⟩) (Kd.R_far (p := ⟨gb206, 1, none⟩) (Kd.R_far (p := ⟨gb206, 0, none⟩) (Kd.R_mono HO_205000.out (fun k_ hk => (⟨hk, hk.2⟩ : _ ∧ k_ ≠ gb206))) (fun _ hk => hk.2) (.int .i64 ((rd_T75 l0_0 x9_1).f0))) (fun _ hk => hk.2) (.string ((rd_T75 l0_0 x9_1).f1))) (fun _ hk => hk.2) (.int .i64 ((rd_T75 l0_0 x9_1).f2))) (fun _ hk => hk.1.2))); (case aS => exact (below_size (by repeat (first | (with_reducible first | exact HB.out | apply bal | apply pdN | apply bdr | refine bst ?_ GE202.out | refine bst ?_ GE203.out | refine bst ?_ GE204.out | refine bst ?_ GE206.out) | exact HB.out)))); (case aL => have := LMc11.out; omega); intro v208 w20 ho hb hg hat; rw [← Ny207.out] at ho; have n0_ := A0_.mk (blk_grown (g := gb202) (o := .cells #[.slice (some ad205) l0_0.length c0_0] 36 (0, 0)) (by (with_reducible repeat (first | refine bkN ?_ _ | refine bkD ?_ | refine bkA ?_ _)); refine blk_far ?_ NB202_206.out _; (with_reducible repeat (first | refine bkN ?_ _ | refine bkD ?_ | refine bkA ?_ _)); refine blk_far ?_ NB202_206.out _; (with_reducible repeat (first | refine bkN ?_ _ | refine bkD ?_ | refine bkA ?_ _)); refine blk_far ?_ NB202_206.out _; (with_reducible repeat (first | refine bkN ?_ _ | refine bkD ?_ | refine bkA ?_ _)); exact BK202.out) hg (Kd.R_ne HO_205000.out BK202.out (by decide))); have n1_ := A0_.mk (blk_grown (g := gb203) (o := .cells #[.slice none 0 0] 36 (0, 0)) (by (with_reducible repeat (first | refine bkN ?_ _ | refine bkD ?_ | refine bkA ?_ _)); refine blk_far ?_ NB203_206.out _; (with_reducible repeat (first | refine bkN ?_ _ | refine bkD ?_ | refine bkA ?_ _)); refine blk_far ?_ NB203_206.out _; (with_reducible repeat (first | refine bkN ?_ _ | refine bkD ?_ | refine bkA ?_ _)); refine blk_far ?_ NB203_206.out _; (with_reducible repeat (first | refine bkN ?_ _ | refine bkD ?_ | refine bkA ?_ _)); exact BK203.out) hg (Kd.R_ne HO_205000.out BK203.out (by decide))); have n2_ := A0_.mk (blk_grown (g := gb204) (o := .cells #[u205000] 36 (0, 0)) (by (with_reducible repeat (first | refine bkN ?_ _ | refine bkD ?_ | refine bkA ?_ _)); refine blk_far ?_ NB204_206.out _; (with_reducible repeat (first | refine bkN ?_ _ | refine bkD ?_ | refine bkA ?_ _)); refine blk_far ?_ NB204_206.out _; (with_reducible repeat (first | refine bkN ?_ _ | refine bkD ?_ | refine bkA ?_ _)); refine blk_far ?_ NB204_206.out _; (with_reducible repeat (first | refine bkN ?_ _ | refine bkD ?_ | refine bkA ?_ _)); exact BK204.out) hg (Kd.R_ne HO_205000.out BK204.out (by decide))); have n3_ := A0_.mk (blk_grown (g := gb206) (o := .cells #[.int .i64 ((rd_T75 l0_0 x9_1).f0), .string ((rd_T75 l0_0 x9_1).f1), .int .i64 ((rd_T75 l0_0 x9_1).f2)] 75 (0, 0)) (by (with_reducible repeat (first | refine bkN ?_ _ | refine bkD ?_ | refine bkA ?_ _)); refine blk_put (cs := #[.int .i64 ((rd_T75 l0_0 x9_1).f0), .string ((rd_T75 l0_0 x9_1).f1), .int .i64 0]) ?_ 2 _ rfl; (with_reducible repeat (first | refine bkN ?_ _ | refine bkD ?_ | refine bkA ?_ _)); refine blk_put (cs := #[.int .i64 ((rd_T75 l0_0 x9_1).f0), .string (⟨#[]⟩ : ByteArray), .int .i64 0]) ?_ 1 _ rfl; (with_reducible repeat (first | refine bkN ?_ _ | refine bkD ?_ | refine bkA ?_ _)); refine blk_put (cs := #[.int .i64 0, .string (⟨#[]⟩ : ByteArray), .int .i64 0]) ?_ 0 _ rfl; (with_reducible repeat (first | refine bkN ?_ _ | refine bkD ?_ | refine bkA ?_ _)); exact BK206.out) hg (Kd.R_away HO_205000.out (fun _ hk => hk.2))); have n4_ := A0_.mk (hb); have n5_ := A0_.mk (ho); clear BK202; clear BK203; clear BK204; clear BK206; clear HB; clear HO_205000; have BK202 := n0_; have BK203 := n1_; have BK204 := n2_; have BK206 := n3_; have HB := n4_; have HO209 := n5_; clear n0_ n1_ n2_ n3_ n4_ n5_; clear ho hb hg hat; obtain ⟨Ao21, co21, eo21⟩ := Kd.R_slice HO209.out; subst eo21; have hcz22_0 : w20.cell? ⟨gb204, 0, none⟩ = some (u205000) := (bkC BK204.out 0).trans rfl; have hfz22_0 := bkF BK204.out 0))
       go_roundg k1
       case measure => have := HK1.out; omega
       case rel => exact ⟨(wrap64 (x9_1 + 1)), (y207), (.slice Ao21 y207.length co21), (by first | rfl | (simp; done) | (simp [*]; done)), H', ⟨by have := HK1.out; omega⟩, ⟨by (with_reducible repeat (first | apply Kd.R_alloc | apply Kd.R_drewN | apply Kd.R_drew)); exact Kd.R_mono (Kd.R_far (p := ⟨gb204, 0, none⟩) (Kd.R_types HO209.out BK204.out (by decide)) (fun _ hk => hk.2) (.slice Ao21 y207.length co21)) (fun _ hk => trivial)⟩, ⟨by (with_reducible repeat (first | refine bkN ?_ _ | refine bkD ?_ | refine bkA ?_ _)); refine blk_far ?_ NB202_204.out _; (with_reducible repeat (first | refine bkN ?_ _ | refine bkD ?_ | refine bkA ?_ _)); exact BK202.out⟩, ⟨by (with_reducible repeat (first | refine bkN ?_ _ | refine bkD ?_ | refine bkA ?_ _)); refine blk_far ?_ NB203_204.out _; (with_reducible repeat (first | refine bkN ?_ _ | refine bkD ?_ | refine bkA ?_ _)); exact BK203.out⟩, ⟨by (with_reducible repeat (first | refine bkN ?_ _ | refine bkD ?_ | refine bkA ?_ _)); refine blk_put (cs := #[u205000]) ?_ 0 _ rfl; (with_reducible repeat (first | refine bkN ?_ _ | refine bkD ?_ | refine bkA ?_ _)); exact BK204.out⟩, ⟨by repeat (first | (with_reducible first | exact HB.out | apply bal | apply pdN | apply bdr | refine bst ?_ GE202.out | refine bst ?_ GE203.out | refine bst ?_ GE204.out | refine bst ?_ GE206.out) | exact HB.out)⟩⟩
      ·rw [if_neg c11] at H
       exact absurd H (by simp)
     ·rw [if_neg c10] at H
      exact absurd H (by simp)
    ·rw [if_neg c9] at H
     exact absurd H (by simp)
   ·rw [if_neg c8] at H
    have c8b0 : decide (x9_1 < (l0_0.length : Int)) = false := decide_eq_false c8
    clear c8
    obtain rfl := Option.some.inj H
    have hnb23 := NB204_202.out
    have hnc23 := NB202_204.out
    have hnb24 := NB204_203.out
    have hnc24 := NB203_204.out
    have hcz25_0 : wr.cell? ⟨gb204, 0, none⟩ = some (u205000) := (bkC BK204.out 0).trans rfl
    have hfz25_0 := bkF BK204.out 0
    obtain ⟨Ao26, co26, eo26⟩ := Kd.R_slice HO_205000.out
    subst eo26
    have hnb27 := NB203_202.out
    have hnc27 := NB202_203.out
    have hcz28_0 : wr.cell? ⟨gb203, 0, none⟩ = some (.slice none 0 0) := (bkC BK203.out 0).trans rfl
    have hfz28_0 := bkF BK203.out 0
    go_wp2
    refine bodyPost_ret (results_cell_row rfl _ _ gb203 36 #[.slice Ao26 x205000_1.length co26] (0, 0) _ rfl (by (with_reducible repeat (first | refine bkN ?_ _ | refine bkD ?_ | refine bkA ?_ _)); refine blk_put (cs := #[.slice none 0 0]) ?_ 0 _ rfl; (with_reducible repeat (first | refine bkN ?_ _ | refine bkD ?_ | refine bkA ?_ _)); exact BK203.out) Try.underlying36 rfl (by kernel_rfl)) rfl ?_
    exact ⟨_, by first | rfl | (simp [errW_none, errW_some] <;> rfl) | (simp [*, errW_none, errW_some] <;> rfl), by (with_reducible repeat (first | apply Kd.R_alloc | apply Kd.R_drewN | apply Kd.R_drew)); exact Kd.R_mono (Kd.R_far (p := ⟨gb203, 0, none⟩) (Kd.R_types HO_205000.out BK203.out (by decide)) (fun _ hk => hk.2) (.slice Ao26 x205000_1.length co26)) (fun _ hk => trivial), by repeat (first | (with_reducible first | exact HB.out | apply bal | apply pdN | apply bdr | refine bst ?_ GE202.out | refine bst ?_ GE203.out | refine bst ?_ GE204.out) | exact HB.out)⟩

end Go.Proofs.Ytclploookcjcbaa.PGro
