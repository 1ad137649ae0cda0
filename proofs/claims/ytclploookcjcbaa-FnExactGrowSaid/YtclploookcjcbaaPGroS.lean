/- Proved: each Go function that is named below comes to the answers of the Lean function printed for it. Printed by a changed copy of the kit's print program (wip/mkpk.py), for this claim. -/
import Derived.Test.YtclploookcjcbaaPGrox0
import Derived.Test.YtclploookcjcbaaPGroB
import Derived.Test.YtclploookcjcbaaPGroD
import Derived.Test.YtclploookcjcbaaPGroH
namespace Go.Proofs.Ytclploookcjcbaa.PGro
open Go.RowKit Go.Proofs.YtclploookcjcbaaW.PrintWords Go.Proofs.YtclploookcjcbaaW.PrintLast Go.Proofs.YtclploookcjcbaaW.PrintMore
attribute [local go_sem] max2_int min2_int max_two min_two max_three min_three max_four min_four   -- for this text's walks alone
set_option linter.unusedVariables false
set_option linter.unusedSimpArgs false

/-! ### spec_l2grow: function 75 -/
def spec_l2grow.l0 : Nat → Int → ByteArray → Int → List (S75) → Int → Int → List (S75) → Option ((List (S75)) × Int)
 | 0, _, _, _, _, _, _, _ => none
 | k + 1, x1, x2, x6, x12, x13, x14, x102000 => if x14 < x13 then (if 0 ≤ x14 then (if x14 < (x12.length : Int) then (if x14 > 0 then (if ((rd_T75 x12 x14).f0) = x1 then (if ((rd_T75 x12 x14).f1).toList = x2.toList then (some (x102000, x14)) else (spec_l2grow.l0 k x1 x2 x6 x12 x13 (wrap64 (x14 + 1)) x102000)) else (spec_l2grow.l0 k x1 x2 x6 x12 x13 (wrap64 (x14 + 1)) x102000)) else (spec_l2grow.l0 k x1 x2 x6 x12 x13 (wrap64 (x14 + 1)) x102000)) else (none)) else (none)) else (if 0 ≤ x1 then (if x1 < (x102000.length : Int) then (if ((rd_T75 x102000 x1).f2) = 12 then (some (x102000, (-1))) else (if (x102000.length : Int) = 200 then (some (x102000, (-1))) else (if x102000.length < 4398046511104 then (some ((x102000 ++ [(⟨x1, x2, wrap64 (((rd_T75 x102000 x1).f2) + 1)⟩ : S75)]), wrap64 (((x102000 ++ [(⟨x1, x2, wrap64 (((rd_T75 x102000 x1).f2) + 1)⟩ : S75)]).length : Int) - 1))) else (none)))) else (none)) else (none))
def spec_l2grow.f (k : Nat) (l0_0 : List (S75)) (a1 : Int) (a2 : ByteArray) : Option ((List (S75)) × Int) := spec_l2grow.l0 k a1 a2 0 l0_0 (l0_0.length : Int) 0 l0_0
theorem spec_l2grow.mono_l : ∀ k, (∀ y0 y1 y2 y3 y4 y5 y6, LeO (spec_l2grow.l0 k y0 y1 y2 y3 y4 y5 y6) (spec_l2grow.l0 (k + 1) y0 y1 y2 y3 y4 y5 y6))
 | 0 => fun _ _ _ _ _ _ _ r h => by simp [spec_l2grow.l0] at h
 | k + 1 => by
  have ih0 := spec_l2grow.mono_l k
  ·intro y0 y1 y2 y3 y4 y5 y6
   unfold spec_l2grow.l0
   repeat' first
   | (with_reducible exact ih0 _ _ _ _ _ _ _)
   | (with_reducible exact LeO.refl _)
   | (with_reducible exact LeO.none _)
   | (with_reducible refine LeO.ite ?_ ?_)
   | (with_reducible refine LeO.bind ?_ (fun _ => ?_))
   | exact ih0 _ _ _ _ _ _ _
   | exact LeO.none _
   | refine LeO.ite ?_ ?_
   | refine LeO.bind ?_ (fun _ => ?_)
theorem spec_l2grow.mono : ∀ a0 a1 a2 k, LeO (spec_l2grow.f k a0 a1 a2) (spec_l2grow.f (k + 1) a0 a1 a2) := by
 intro a0 a1 a2 k
 have ih0 := spec_l2grow.mono_l k
 unfold spec_l2grow.f
 repeat' first
   | (with_reducible exact ih0 _ _ _ _ _ _ _)
   | (with_reducible exact LeO.refl _)
   | (with_reducible exact LeO.none _)
   | (with_reducible refine LeO.ite ?_ ?_)
   | (with_reducible refine LeO.bind ?_ (fun _ => ?_))
   | exact ih0 _ _ _ _ _ _ _
   | exact LeO.none _
   | refine LeO.ite ?_ ?_
   | refine LeO.bind ?_ (fun _ => ?_)
def spec_l2grow.T9 : Bool × List (List Nat × List Nat) := (true, [([], []), ([], []), ([1], [1]), ([2], [2]), ([3], [3]), ([], []), ([], []), ([], []), ([7], [7]), ([8], [8]), ([9], [9]), ([], []), ([10, 11], [10, 11]), ([12], [12]), ([13], [13]), ([14], [14]), ([5, 6, 15], [5, 6, 15]), ([16], [16]), ([4, 17], [4, 17]), ([0, 0, 1, 2, 3, 4, 5, 6, 7, 8, 9, 10, 11, 12, 13, 14, 15, 16, 17, 18], [0]), ([19, 0, 1, 2, 3, 4, 5, 6, 7, 8, 9, 10, 11, 12, 13, 14, 15, 16, 17, 18], [19]), ([20, 18, 18, 0, 1, 2, 3, 4, 5, 6, 7, 8, 9, 10, 11, 12, 13, 14, 15, 16, 17, 18], [18, 20])])
def spec_l2grow.B9 : List Nat := [0, 0, 2, 6, 14, 0, 0, 0, 128, 384, 896, 0, 3968, 8064, 16256, 32640, 65504, 131040, 262142, 524287, 1048575, 2097151]
theorem spec_l2grow.tab9 : rtab .any (opsOf Try.f75 9) = spec_l2grow.T9 := by kernel_rfl
theorem spec_l2grow.bits9 : waitsOk spec_l2grow.T9.2 spec_l2grow.B9 = true := by kernel_rfl
theorem k_below {w w' : World} {S : Nat → Prop} (hb : Below w.heap.size w w') : Kept w w' S := ⟨hb.size, fun i hi _ => hb.block i hi⟩
theorem k_drew {w w' : World} {S : Nat → Prop} (h : Kept w w' S) : Kept w w'.drew S := h
theorem k_grown {w w' w1 : World} {S : Nat → Prop} {row : Option Nat} (h : Kept w w' S) (hg : w'.grownBy w1 row) (hr : ∀ k, row = some k → S k) : Kept w w1 S :=
 ⟨Nat.le_trans h.1 hg.size, fun i hi hn => (hg.block i (Nat.lt_of_lt_of_le hi h.1) (fun e => hn (hr i e.symm))).trans (h.2 i hi hn)⟩
theorem k_set {w w' : World} {S : Nat → Prop} {g : Nat} (h : Kept w w' S) (hg : S g) (j : Nat) (u : Value) : Kept w (w'.setCell ⟨g, j, none⟩ u) S :=
 ⟨by have := h.1; simpa [World.setCell] using this, fun i hi hn => (Below.heap_setCell w' ⟨g, j, none⟩ u i (fun e => hn (by rw [e]; exact hg))).trans (h.2 i hi hn)⟩
theorem l2g_fin {S : Nat → Prop} {w0 w w' : World} {g : Nat} {v : Value} {l : List S75} (hB0 : Below w0.heap.size w0 w) (hBK : w.heap[g]? = some (.cells #[v] 36 (0, 0))) (hO : Kd.R k75 75 w w0.heap.size (fun _ => True) v l) (hb : Below w.heap.size w w') :
  ∃ v1_ : Value, w'.heap[g]? = some (.cells #[v1_] 36 (0, 0)) ∧ Kd.R k75 75 w' w0.heap.size (fun _ => True) v1_ l ∧ Below w0.heap.size w0 w' ∧ Kept w w' S :=
 ⟨v, (hb.block g (blk_lt hBK)).trans hBK, Kd.R_below hO hb, below_step hB0 hb, k_below hb⟩
set_option maxHeartbeats 8000000 in
set_option maxRecDepth 100000 in
theorem spec_l2grow.calls (k : Nat) (g : Nat) (A0_0 : Option Addr) (c0_0 : Nat) (l0_0 : List (S75)) (a1 : Int) (a2 : ByteArray) (r1 : List (S75)) (r2 : Int) (w0 w : World) (hB0 : Below w0.heap.size w0 w) (hg0 : w0.heap.size ≤ g) (hBK : w.heap[g]? = some (.cells #[.slice A0_0 l0_0.length c0_0] 36 (0, 0))) (hO : Kd.R k75 75 w w0.heap.size (fun _ => True) (.slice A0_0 l0_0.length c0_0) l0_0) (h : spec_l2grow.f k l0_0 a1 a2 = some (r1, r2)) :
  Calls Try.prog 75 #[.pointer (some ⟨g, 0, none⟩), .int .i64 a1, .string a2] w fun e w' => e = .returned (.int .i64 r2) ∧ ∃ v1_ : Value, w'.heap[g]? = some (.cells #[v1_] 36 (0, 0)) ∧ Kd.R k75 75 w' w0.heap.size (fun _ => True) v1_ r1 ∧ Below w0.heap.size w0 w' ∧ Kept w w' (fun k_ => k_ = g ∨ some k_ = (.slice A0_0 l0_0.length c0_0 : Value).ownBlock) := by
 obtain ⟨_, hc0_0, hr0_0⟩ := Kd.R_reads' hO
 have HB0 := A0_.mk hB0
 have HG0 := A0_.mk hg0
 have HO := A0_.mk hO
 have BK101 := A0_.mk hBK
 have GL101 := A0_.mk (blk_lt hBK)
 have BKE := A0_.mk hBK
 clear hB0 hg0 hBK hO
 have hu36 := Try.underlying36
 have hu75 := Try.underlying75
 have HR0_0 := A0_.mk hr0_0
 have HC0_0 := A0_.mk hc0_0
 clear hr0_0 hc0_0
 have HB := A0_.mk (Below.refl w.heap.size w)
 have H : (spec_l2grow.l0 k a1 a2 0 l0_0 (l0_0.length : Int) 0 l0_0) = some (r1, r2) := h
 clear h
 have H' := A0_.mk H
 clear H
 go_enter Try.func75, Try.ntmps75
 have hczg_0 : w.cell? ⟨g, 0, none⟩ = some (.slice A0_0 l0_0.length c0_0) := (bkC BK101.out 0).trans rfl
 have hfzg_0 := bkF BK101.out 0
 go_wp2
 go_loopg [6, 14] k (fun kq v6 v14 w' => ∃ (x6_1 : Int) (x14_1 : Int), v6 = .int .i64 x6_1 ∧ v14 = .int .i64 x14_1 ∧ A0_ (spec_l2grow.l0 kq a1 a2 x6_1 l0_0 (l0_0.length : Int) x14_1 l0_0 = some (r1, r2)) ∧ A0_ (kq ≤ k) ∧ A0_ (w'.heap[g]? = some (.cells #[(.slice A0_0 l0_0.length c0_0)] 36 (0, 0))) ∧ A0_ (Below w.heap.size w w'))
 case atStart => exact ⟨(0), (0), (by first | rfl | (simp; done) | (simp [*]; done)), (by first | rfl | (simp; done) | (simp [*]; done)), H', ⟨Nat.le_refl _⟩, ⟨by (with_reducible repeat (first | refine bkN ?_ _ | refine bkD ?_ | refine bkA ?_ _)); exact BK101.out⟩, ⟨by repeat (first | (with_reducible first | exact HB.out | apply bal | apply pdN | apply bdr | refine bst ?_ GE101.out) | exact HB.out)⟩⟩
 case round =>
  clear H'
  try clear p2
  try clear hcz5_0
  try clear hfz5_0
  obtain ⟨x6_1, x14_1, rfl, rfl, HA, HK1, BK101, HB⟩ := hrel
  cases gk with
  | zero => exact absurd HA.out (by simp [spec_l2grow.l0])
  | succ k1 =>
   have H := HA.out
   clear HA
   simp only [spec_l2grow.l0] at H
   by_cases c6 : x14_1 < (l0_0.length : Int)
   ·rw [if_pos c6] at H
    have c6b0 : decide (x14_1 < (l0_0.length : Int)) = true := decide_eq_true c6
    clear c6
    by_cases c7 : 0 ≤ x14_1
    ·rw [if_pos c7] at H
     have c7b0 : decide (0 ≤ x14_1) = true := decide_eq_true c7
     clear c7
     by_cases c8 : x14_1 < (l0_0.length : Int)
     ·rw [if_pos c8] at H
      have c8b0 : decide (x14_1 < (l0_0.length : Int)) = true := decide_eq_true c8
      clear c8
      by_cases c9 : x14_1 > 0
      ·rw [if_pos c9] at H
       have c9b0 : decide (0 < x14_1) = true := decide_eq_true c9
       clear c9
       by_cases c10 : ((rd_T75 l0_0 x14_1).f0) = a1
       ·rw [if_pos c10] at H
        have c10b0 : (((rd_T75 l0_0 x14_1).f0) == a1) = true := beq_iff_eq.mpr c10
        have c10b1 : (((rd_T75 l0_0 x14_1).f0) != a1) = false := bne_eq_false_iff_eq.mpr c10
        clear c10
        by_cases c11 : ((rd_T75 l0_0 x14_1).f1).toList = a2.toList
        ·rw [if_pos c11] at H
         have c11b0 : (((rd_T75 l0_0 x14_1).f1).toList == a2.toList) = true := beq_iff_eq.mpr c11
         have c11b1 : (((rd_T75 l0_0 x14_1).f1).toList != a2.toList) = false := bne_eq_false_iff_eq.mpr c11
         clear c11
         obtain ⟨e1_, e2_⟩ := Prod.mk.inj (Option.some.inj H); subst e1_; subst e2_
         have p102 : 0 ≤ (x14_1 : Int) := of_decide_eq_true (by first | (with_reducible assumption) | assumption)
         have q102 : x14_1 < (l0_0.length : Int) := of_decide_eq_true (by first | (with_reducible assumption) | assumption)
         obtain ⟨ad102, e102, hx102_0, hx102_1, hx102_2⟩ := at_T75 HR0_0.out x14_1 p102 q102
         cases e102
         replace hx102_0 := (HB.out.cell (World.block_lt_of_cell? w _ hx102_0)).trans hx102_0
         replace hx102_1 := (HB.out.cell (World.block_lt_of_cell? w _ hx102_1)).trans hx102_1
         replace hx102_2 := (HB.out.cell (World.block_lt_of_cell? w _ hx102_2)).trans hx102_2
         replace p102 := eq_true p102
         replace q102 := eq_true q102
         go_wp2_with (first | ((with_reducible refine gate_dst (N := 8) rfl ?_); (try (refine gate_guard (by rfl) ?_; dsimp only)); refine box_event ?hg (N := 8) ?hd (cs := #[.int .i64 0, .string (⟨#[]⟩ : ByteArray), .int .i64 0]) (t := 75) ?hr ?_; (case hd => rfl); (case hg => rfl); (case hr => first | (go_simp; done) | (go_simp; rfl)); intro gb103 hg w12 hbox hb; have n0_ := A0_.mk (blk_below (g := g) (o := .cells #[.slice (some ad102) l0_0.length c0_0] 36 (0, 0)) (by (with_reducible repeat (first | refine bkN ?_ _ | refine bkD ?_ | refine bkA ?_ _)); exact BK101.out) hb); have n1_ := A0_.mk (below_step (by repeat (first | (with_reducible first | exact HB.out | apply bal | apply pdN | apply bdr | refine bst ?_ GE101.out) | exact HB.out)) hb); have n2_ := A0_.mk (hbox); have n3_ := A0_.mk ((by rw [hg]; exact (below_size (by repeat (first | (with_reducible first | exact HB.out | apply bal | apply pdN | apply bdr | refine bst ?_ GE101.out) | exact HB.out))) : w.heap.size ≤ gb103)); have n4_ := A0_.mk ((by rw [hg]; exact (below_size (by repeat (first | (with_reducible first | exact HB.out | apply bal | apply pdN | apply bdr | refine bst ?_ GE101.out) | exact HB.out))) : w.heap.size ≤ gb103)); have n5_ := A0_.mk ((by rw [hg]; exact Nat.ne_of_lt (blk_lt (g := g) (o := .cells #[.slice (some ad102) l0_0.length c0_0] 36 (0, 0)) (by (with_reducible repeat (first | refine bkN ?_ _ | refine bkD ?_ | refine bkA ?_ _)); exact BK101.out)) : g ≠ gb103)); have n6_ := A0_.mk ((by rw [hg]; exact Nat.ne_of_gt (blk_lt (g := g) (o := .cells #[.slice (some ad102) l0_0.length c0_0] 36 (0, 0)) (by (with_reducible repeat (first | refine bkN ?_ _ | refine bkD ?_ | refine bkA ?_ _)); exact BK101.out)) : gb103 ≠ g)); clear BK101; clear HB; have BK101 := n0_; have HB := n1_; have BK103 := n2_; have GW103 := n3_; have GE103 := n4_; have NB101_103 := n5_; have NB103_101 := n6_; clear n0_ n1_ n2_ n3_ n4_ n5_ n6_; clear hb hbox hg; have hnb13 := NB103_101.out; have hnc13 := NB101_103.out; have hcz14_0 : w12.cell? ⟨gb103, 0, none⟩ = some (.int .i64 0) := (bkC BK103.out 0).trans rfl; have hcz14_1 : w12.cell? ⟨gb103, 1, none⟩ = some (.string (⟨#[]⟩ : ByteArray)) := (bkC BK103.out 1).trans rfl; have hcz14_2 : w12.cell? ⟨gb103, 2, none⟩ = some (.int .i64 0) := (bkC BK103.out 2).trans rfl; have hfz14_0 := bkF BK103.out 0; have hfz14_1 := bkF BK103.out 1; have hfz14_2 := bkF BK103.out 2))
         go_ret
         exact ⟨by first | rfl | (simp; done), l2g_fin HB0.out BKE.out HO.out (by repeat (first | (with_reducible first | exact HB.out | apply bal | apply pdN | apply bdr | refine bst ?_ GE101.out | refine bst ?_ GE103.out) | exact HB.out))⟩
        ·rw [if_neg c11] at H
         have c11b0 : (((rd_T75 l0_0 x14_1).f1).toList == a2.toList) = false := beq_eq_false_iff_ne.mpr c11
         have c11b1 : (((rd_T75 l0_0 x14_1).f1).toList != a2.toList) = true := bne_iff_ne.mpr c11
         have H' := A0_.mk H
         clear H
         have p102 : 0 ≤ (x14_1 : Int) := of_decide_eq_true (by first | (with_reducible assumption) | assumption)
         have q102 : x14_1 < (l0_0.length : Int) := of_decide_eq_true (by first | (with_reducible assumption) | assumption)
         obtain ⟨ad102, e102, hx102_0, hx102_1, hx102_2⟩ := at_T75 HR0_0.out x14_1 p102 q102
         cases e102
         replace hx102_0 := (HB.out.cell (World.block_lt_of_cell? w _ hx102_0)).trans hx102_0
         replace hx102_1 := (HB.out.cell (World.block_lt_of_cell? w _ hx102_1)).trans hx102_1
         replace hx102_2 := (HB.out.cell (World.block_lt_of_cell? w _ hx102_2)).trans hx102_2
         replace p102 := eq_true p102
         replace q102 := eq_true q102
         go_wp2_with (first | ((with_reducible refine gate_dst (N := 8) rfl ?_); (try (refine gate_guard (by rfl) ?_; dsimp only)); refine box_event ?hg (N := 8) ?hd (cs := #[.int .i64 0, .string (⟨#[]⟩ : ByteArray), .int .i64 0]) (t := 75) ?hr ?_; (case hd => rfl); (case hg => rfl); (case hr => first | (go_simp; done) | (go_simp; rfl)); intro gb103 hg w15 hbox hb; have n0_ := A0_.mk (blk_below (g := g) (o := .cells #[.slice (some ad102) l0_0.length c0_0] 36 (0, 0)) (by (with_reducible repeat (first | refine bkN ?_ _ | refine bkD ?_ | refine bkA ?_ _)); exact BK101.out) hb); have n1_ := A0_.mk (below_step (by repeat (first | (with_reducible first | exact HB.out | apply bal | apply pdN | apply bdr | refine bst ?_ GE101.out) | exact HB.out)) hb); have n2_ := A0_.mk (hbox); have n3_ := A0_.mk ((by rw [hg]; exact (below_size (by repeat (first | (with_reducible first | exact HB.out | apply bal | apply pdN | apply bdr | refine bst ?_ GE101.out) | exact HB.out))) : w.heap.size ≤ gb103)); have n4_ := A0_.mk ((by rw [hg]; exact (below_size (by repeat (first | (with_reducible first | exact HB.out | apply bal | apply pdN | apply bdr | refine bst ?_ GE101.out) | exact HB.out))) : w.heap.size ≤ gb103)); have n5_ := A0_.mk ((by rw [hg]; exact Nat.ne_of_lt (blk_lt (g := g) (o := .cells #[.slice (some ad102) l0_0.length c0_0] 36 (0, 0)) (by (with_reducible repeat (first | refine bkN ?_ _ | refine bkD ?_ | refine bkA ?_ _)); exact BK101.out)) : g ≠ gb103)); have n6_ := A0_.mk ((by rw [hg]; exact Nat.ne_of_gt (blk_lt (g := g) (o := .cells #[.slice (some ad102) l0_0.length c0_0] 36 (0, 0)) (by (with_reducible repeat (first | refine bkN ?_ _ | refine bkD ?_ | refine bkA ?_ _)); exact BK101.out)) : gb103 ≠ g)); clear BK101; clear HB; have BK101 := n0_; have HB := n1_; have BK103 := n2_; have GW103 := n3_; have GE103 := n4_; have NB101_103 := n5_; have NB103_101 := n6_; clear n0_ n1_ n2_ n3_ n4_ n5_ n6_; clear hb hbox hg; have hnb16 := NB103_101.out; have hnc16 := NB101_103.out; have hcz17_0 : w15.cell? ⟨gb103, 0, none⟩ = some (.int .i64 0) := (bkC BK103.out 0).trans rfl; have hcz17_1 : w15.cell? ⟨gb103, 1, none⟩ = some (.string (⟨#[]⟩ : ByteArray)) := (bkC BK103.out 1).trans rfl; have hcz17_2 : w15.cell? ⟨gb103, 2, none⟩ = some (.int .i64 0) := (bkC BK103.out 2).trans rfl; have hfz17_0 := bkF BK103.out 0; have hfz17_1 := bkF BK103.out 1; have hfz17_2 := bkF BK103.out 2))
         go_roundg k1
         case measure => have := HK1.out; omega
         case rel => exact ⟨(x6_1), (wrap64 (x14_1 + 1)), (by first | rfl | (simp; done) | (simp [*]; done)), (by first | rfl | (simp; done) | (simp [*]; done)), H', ⟨by have := HK1.out; omega⟩, ⟨by (with_reducible repeat (first | refine bkN ?_ _ | refine bkD ?_ | refine bkA ?_ _)); refine blk_far ?_ NB101_103.out _; (with_reducible repeat (first | refine bkN ?_ _ | refine bkD ?_ | refine bkA ?_ _)); refine blk_far ?_ NB101_103.out _; (with_reducible repeat (first | refine bkN ?_ _ | refine bkD ?_ | refine bkA ?_ _)); refine blk_far ?_ NB101_103.out _; (with_reducible repeat (first | refine bkN ?_ _ | refine bkD ?_ | refine bkA ?_ _)); exact BK101.out⟩, ⟨by repeat (first | (with_reducible first | exact HB.out | apply bal | apply pdN | apply bdr | refine bst ?_ GE101.out | refine bst ?_ GE103.out) | exact HB.out)⟩⟩
       ·rw [if_neg c10] at H
        have c10b0 : (((rd_T75 l0_0 x14_1).f0) == a1) = false := beq_eq_false_iff_ne.mpr c10
        have c10b1 : (((rd_T75 l0_0 x14_1).f0) != a1) = true := bne_iff_ne.mpr c10
        have H' := A0_.mk H
        clear H
        have p102 : 0 ≤ (x14_1 : Int) := of_decide_eq_true (by first | (with_reducible assumption) | assumption)
        have q102 : x14_1 < (l0_0.length : Int) := of_decide_eq_true (by first | (with_reducible assumption) | assumption)
        obtain ⟨ad102, e102, hx102_0, hx102_1, hx102_2⟩ := at_T75 HR0_0.out x14_1 p102 q102
        cases e102
        replace hx102_0 := (HB.out.cell (World.block_lt_of_cell? w _ hx102_0)).trans hx102_0
        replace hx102_1 := (HB.out.cell (World.block_lt_of_cell? w _ hx102_1)).trans hx102_1
        replace hx102_2 := (HB.out.cell (World.block_lt_of_cell? w _ hx102_2)).trans hx102_2
        replace p102 := eq_true p102
        replace q102 := eq_true q102
        go_wp2_with (first | ((with_reducible refine gate_dst (N := 8) rfl ?_); (try (refine gate_guard (by rfl) ?_; dsimp only)); refine box_event ?hg (N := 8) ?hd (cs := #[.int .i64 0, .string (⟨#[]⟩ : ByteArray), .int .i64 0]) (t := 75) ?hr ?_; (case hd => rfl); (case hg => rfl); (case hr => first | (go_simp; done) | (go_simp; rfl)); intro gb103 hg w18 hbox hb; have n0_ := A0_.mk (blk_below (g := g) (o := .cells #[.slice (some ad102) l0_0.length c0_0] 36 (0, 0)) (by (with_reducible repeat (first | refine bkN ?_ _ | refine bkD ?_ | refine bkA ?_ _)); exact BK101.out) hb); have n1_ := A0_.mk (below_step (by repeat (first | (with_reducible first | exact HB.out | apply bal | apply pdN | apply bdr | refine bst ?_ GE101.out) | exact HB.out)) hb); have n2_ := A0_.mk (hbox); have n3_ := A0_.mk ((by rw [hg]; exact (below_size (by repeat (first | (with_reducible first | exact HB.out | apply bal | apply pdN | apply bdr | refine bst ?_ GE101.out) | exact HB.out))) : w.heap.size ≤ gb103)); have n4_ := A0_.mk ((by rw [hg]; exact (below_size (by repeat (first | (with_reducible first | exact HB.out | apply bal | apply pdN | apply bdr | refine bst ?_ GE101.out) | exact HB.out))) : w.heap.size ≤ gb103)); have n5_ := A0_.mk ((by rw [hg]; exact Nat.ne_of_lt (blk_lt (g := g) (o := .cells #[.slice (some ad102) l0_0.length c0_0] 36 (0, 0)) (by (with_reducible repeat (first | refine bkN ?_ _ | refine bkD ?_ | refine bkA ?_ _)); exact BK101.out)) : g ≠ gb103)); have n6_ := A0_.mk ((by rw [hg]; exact Nat.ne_of_gt (blk_lt (g := g) (o := .cells #[.slice (some ad102) l0_0.length c0_0] 36 (0, 0)) (by (with_reducible repeat (first | refine bkN ?_ _ | refine bkD ?_ | refine bkA ?_ _)); exact BK101.out)) : gb103 ≠ g)); clear BK101; clear HB; have BK101 := n0_; have HB := n1_; have BK103 := n2_; have GW103 := n3_; have GE103 := n4_; have NB101_103 := n5_; have NB103_101 := n6_; clear n0_ n1_ n2_ n3_ n4_ n5_ n6_; clear hb hbox hg; have hnb19 := NB103_101.out; have hnc19 := NB101_103.out; have hcz20_0 : w18.cell? ⟨gb103, 0, none⟩ = some (.int .i64 0) := (bkC BK103.out 0).trans rfl; have hcz20_1 : w18.cell? ⟨gb103, 1, none⟩ = some (.string (⟨#[]⟩ : ByteArray)) := (bkC BK103.out 1).trans rfl; have hcz20_2 : w18.cell? ⟨gb103, 2, none⟩ = some (.int .i64 0) := (bkC BK103.out 2).trans rfl; have hfz20_0 := bkF BK103.out 0; have hfz20_1 := bkF BK103.out 1; have hfz20_2 := bkF BK103.out 2))
        go_roundg k1
        case measure => have := HK1.out; omega
        case rel => exact ⟨(x6_1), (wrap64 (x14_1 + 1)), (by first | rfl | (simp; done) | (simp [*]; done)), (by first | rfl | (simp; done) | (simp [*]; done)), H', ⟨by have := HK1.out; omega⟩, ⟨by (with_reducible repeat (first | refine bkN ?_ _ | refine bkD ?_ | refine bkA ?_ _)); refine blk_far ?_ NB101_103.out _; (with_reducible repeat (first | refine bkN ?_ _ | refine bkD ?_ | refine bkA ?_ _)); refine blk_far ?_ NB101_103.out _; (with_reducible repeat (first | refine bkN ?_ _ | refine bkD ?_ | refine bkA ?_ _)); refine blk_far ?_ NB101_103.out _; (with_reducible repeat (first | refine bkN ?_ _ | refine bkD ?_ | refine bkA ?_ _)); exact BK101.out⟩, ⟨by repeat (first | (with_reducible first | exact HB.out | apply bal | apply pdN | apply bdr | refine bst ?_ GE101.out | refine bst ?_ GE103.out) | exact HB.out)⟩⟩
      ·rw [if_neg c9] at H
       have c9b0 : decide (0 < x14_1) = false := decide_eq_false c9
       clear c9
       have H' := A0_.mk H
       clear H
       have p102 : 0 ≤ (x14_1 : Int) := of_decide_eq_true (by first | (with_reducible assumption) | assumption)
       have q102 : x14_1 < (l0_0.length : Int) := of_decide_eq_true (by first | (with_reducible assumption) | assumption)
       obtain ⟨ad102, e102, hx102_0, hx102_1, hx102_2⟩ := at_T75 HR0_0.out x14_1 p102 q102
       cases e102
       replace hx102_0 := (HB.out.cell (World.block_lt_of_cell? w _ hx102_0)).trans hx102_0
       replace hx102_1 := (HB.out.cell (World.block_lt_of_cell? w _ hx102_1)).trans hx102_1
       replace hx102_2 := (HB.out.cell (World.block_lt_of_cell? w _ hx102_2)).trans hx102_2
       replace p102 := eq_true p102
       replace q102 := eq_true q102
       go_wp2_with (first | ((with_reducible refine gate_dst (N := 8) rfl ?_); (try (refine gate_guard (by rfl) ?_; dsimp only)); refine box_event ?hg (N := 8) ?hd (cs := #[.int .i64 0, .string (⟨#[]⟩ : ByteArray), .int .i64 0]) (t := 75) ?hr ?_; (case hd => rfl); (case hg => rfl); (case hr => first | (go_simp; done) | (go_simp; rfl)); intro gb103 hg w21 hbox hb; have n0_ := A0_.mk (blk_below (g := g) (o := .cells #[.slice (some ad102) l0_0.length c0_0] 36 (0, 0)) (by (with_reducible repeat (first | refine bkN ?_ _ | refine bkD ?_ | refine bkA ?_ _)); exact BK101.out) hb); have n1_ := A0_.mk (below_step (by repeat (first | (with_reducible first | exact HB.out | apply bal | apply pdN | apply bdr | refine bst ?_ GE101.out) | exact HB.out)) hb); have n2_ := A0_.mk (hbox); have n3_ := A0_.mk ((by rw [hg]; exact (below_size (by repeat (first | (with_reducible first | exact HB.out | apply bal | apply pdN | apply bdr | refine bst ?_ GE101.out) | exact HB.out))) : w.heap.size ≤ gb103)); have n4_ := A0_.mk ((by rw [hg]; exact (below_size (by repeat (first | (with_reducible first | exact HB.out | apply bal | apply pdN | apply bdr | refine bst ?_ GE101.out) | exact HB.out))) : w.heap.size ≤ gb103)); have n5_ := A0_.mk ((by rw [hg]; exact Nat.ne_of_lt (blk_lt (g := g) (o := .cells #[.slice (some ad102) l0_0.length c0_0] 36 (0, 0)) (by (with_reducible repeat (first | refine bkN ?_ _ | refine bkD ?_ | refine bkA ?_ _)); exact BK101.out)) : g ≠ gb103)); have n6_ := A0_.mk ((by rw [hg]; exact Nat.ne_of_gt (blk_lt (g := g) (o := .cells #[.slice (some ad102) l0_0.length c0_0] 36 (0, 0)) (by (with_reducible repeat (first | refine bkN ?_ _ | refine bkD ?_ | refine bkA ?_ _)); exact BK101.out)) : gb103 ≠ g)); clear BK101; clear HB; have BK101 := n0_; have HB := n1_; have BK103 := n2_; have GW103 := n3_; have GE103 := n4_; have NB101_103 := n5_; have NB103_101 := n6_; clear n0_ n1_ n2_ n3_ n4_ n5_ n6_; clear hb hbox hg; have hnb22 := NB103_101.out; have hnc22 := NB101_103.out; have hcz23_0 : w21.cell? ⟨gb103, 0, none⟩ = some (.int .i64 0) := (bkC BK103.out 0).trans rfl; have hcz23_1 : w21.cell? ⟨gb103, 1, none⟩ = some (.string (⟨#[]⟩ : ByteArray)) := (bkC BK103.out 1).trans rfl; have hcz23_2 : w21.cell? ⟨gb103, 2, none⟩ = some (.int .i64 0) := (bkC BK103.out 2).trans rfl; have hfz23_0 := bkF BK103.out 0; have hfz23_1 := bkF BK103.out 1; have hfz23_2 := bkF BK103.out 2))
       go_roundg k1
       case measure => have := HK1.out; omega
       case rel => exact ⟨(x6_1), (wrap64 (x14_1 + 1)), (by first | rfl | (simp; done) | (simp [*]; done)), (by first | rfl | (simp; done) | (simp [*]; done)), H', ⟨by have := HK1.out; omega⟩, ⟨by (with_reducible repeat (first | refine bkN ?_ _ | refine bkD ?_ | refine bkA ?_ _)); refine blk_far ?_ NB101_103.out _; (with_reducible repeat (first | refine bkN ?_ _ | refine bkD ?_ | refine bkA ?_ _)); refine blk_far ?_ NB101_103.out _; (with_reducible repeat (first | refine bkN ?_ _ | refine bkD ?_ | refine bkA ?_ _)); refine blk_far ?_ NB101_103.out _; (with_reducible repeat (first | refine bkN ?_ _ | refine bkD ?_ | refine bkA ?_ _)); exact BK101.out⟩, ⟨by repeat (first | (with_reducible first | exact HB.out | apply bal | apply pdN | apply bdr | refine bst ?_ GE101.out | refine bst ?_ GE103.out) | exact HB.out)⟩⟩
     ·rw [if_neg c8] at H
      exact absurd H (by simp)
    ·rw [if_neg c7] at H
     exact absurd H (by simp)
   ·rw [if_neg c6] at H
    have c6b0 : decide (x14_1 < (l0_0.length : Int)) = false := decide_eq_false c6
    clear c6
    by_cases c24 : 0 ≤ a1
    ·rw [if_pos c24] at H
     have c24b0 : decide (0 ≤ a1) = true := decide_eq_true c24
     clear c24
     by_cases c25 : a1 < (l0_0.length : Int)
     ·rw [if_pos c25] at H
      have c25b0 : decide (a1 < (l0_0.length : Int)) = true := decide_eq_true c25
      clear c25
      by_cases c26 : ((rd_T75 l0_0 a1).f2) = 12
      ·rw [if_pos c26] at H
       have c26b0 : (((rd_T75 l0_0 a1).f2) == 12) = true := beq_iff_eq.mpr c26
       have c26b1 : (((rd_T75 l0_0 a1).f2) != 12) = false := bne_eq_false_iff_eq.mpr c26
       clear c26
       obtain ⟨e1_, e2_⟩ := Prod.mk.inj (Option.some.inj H); subst e1_; subst e2_
       have hcz27_0 : wr.cell? ⟨g, 0, none⟩ = some (.slice A0_0 l0_0.length c0_0) := (bkC BK101.out 0).trans rfl
       have hfz27_0 := bkF BK101.out 0
       have p104 : 0 ≤ (a1 : Int) := of_decide_eq_true (by first | (with_reducible assumption) | assumption)
       have q104 : a1 < (l0_0.length : Int) := of_decide_eq_true (by first | (with_reducible assumption) | assumption)
       obtain ⟨ad104, e104, hx104_0, hx104_1, hx104_2⟩ := at_T75 HR0_0.out a1 p104 q104
       cases e104
       replace hx104_0 := (HB.out.cell (World.block_lt_of_cell? w _ hx104_0)).trans hx104_0
       replace hx104_1 := (HB.out.cell (World.block_lt_of_cell? w _ hx104_1)).trans hx104_1
       replace hx104_2 := (HB.out.cell (World.block_lt_of_cell? w _ hx104_2)).trans hx104_2
       replace p104 := eq_true p104
       replace q104 := eq_true q104
       go_wp2
       go_ret
       exact ⟨by first | rfl | (simp; done), l2g_fin HB0.out BKE.out HO.out (by repeat (first | (with_reducible first | exact HB.out | apply bal | apply pdN | apply bdr | refine bst ?_ GE101.out) | exact HB.out))⟩
      ·rw [if_neg c26] at H
       have c26b0 : (((rd_T75 l0_0 a1).f2) == 12) = false := beq_eq_false_iff_ne.mpr c26
       have c26b1 : (((rd_T75 l0_0 a1).f2) != 12) = true := bne_iff_ne.mpr c26
       by_cases c28 : (l0_0.length : Int) = 200
       ·rw [if_pos c28] at H
        have c28b0 : ((l0_0.length : Int) == 200) = true := beq_iff_eq.mpr c28
        have c28b1 : ((l0_0.length : Int) != 200) = false := bne_eq_false_iff_eq.mpr c28
        clear c28
        obtain ⟨e1_, e2_⟩ := Prod.mk.inj (Option.some.inj H); subst e1_; subst e2_
        have hcz29_0 : wr.cell? ⟨g, 0, none⟩ = some (.slice A0_0 l0_0.length c0_0) := (bkC BK101.out 0).trans rfl
        have hfz29_0 := bkF BK101.out 0
        have p104 : 0 ≤ (a1 : Int) := of_decide_eq_true (by first | (with_reducible assumption) | assumption)
        have q104 : a1 < (l0_0.length : Int) := of_decide_eq_true (by first | (with_reducible assumption) | assumption)
        obtain ⟨ad104, e104, hx104_0, hx104_1, hx104_2⟩ := at_T75 HR0_0.out a1 p104 q104
        cases e104
        replace hx104_0 := (HB.out.cell (World.block_lt_of_cell? w _ hx104_0)).trans hx104_0
        replace hx104_1 := (HB.out.cell (World.block_lt_of_cell? w _ hx104_1)).trans hx104_1
        replace hx104_2 := (HB.out.cell (World.block_lt_of_cell? w _ hx104_2)).trans hx104_2
        replace p104 := eq_true p104
        replace q104 := eq_true q104
        go_wp2
        go_ret
        exact ⟨by first | rfl | (simp; done), l2g_fin HB0.out BKE.out HO.out (by repeat (first | (with_reducible first | exact HB.out | apply bal | apply pdN | apply bdr | refine bst ?_ GE101.out) | exact HB.out))⟩
       ·rw [if_neg c28] at H
        have c28b0 : ((l0_0.length : Int) == 200) = false := beq_eq_false_iff_ne.mpr c28
        have c28b1 : ((l0_0.length : Int) != 200) = true := bne_iff_ne.mpr c28
        have c29 : l0_0.length < 4398046511104 := by apply Classical.byContradiction; intro c_; rw [if_neg c_] at H; exact absurd H (by simp)
        rw [if_pos c29] at H
        obtain ⟨e1_, e2_⟩ := Prod.mk.inj (Option.some.inj H); subst e1_; subst e2_
        have hcz30_0 : wr.cell? ⟨g, 0, none⟩ = some (.slice A0_0 l0_0.length c0_0) := (bkC BK101.out 0).trans rfl
        have hfz30_0 := bkF BK101.out 0
        have p104 : 0 ≤ (a1 : Int) := of_decide_eq_true (by first | (with_reducible assumption) | assumption)
        have q104 : a1 < (l0_0.length : Int) := of_decide_eq_true (by first | (with_reducible assumption) | assumption)
        obtain ⟨ad104, e104, hx104_0, hx104_1, hx104_2⟩ := at_T75 HR0_0.out a1 p104 q104
        cases e104
        replace hx104_0 := (HB.out.cell (World.block_lt_of_cell? w _ hx104_0)).trans hx104_0
        replace hx104_1 := (HB.out.cell (World.block_lt_of_cell? w _ hx104_1)).trans hx104_1
        replace hx104_2 := (HB.out.cell (World.block_lt_of_cell? w _ hx104_2)).trans hx104_2
        replace p104 := eq_true p104
        replace q104 := eq_true q104
        try go_wp2
        have n0_ := A0_.mk (Kd.R_below HO.out HB.out)
        have n3_ := A0_.mk (below_step HB0.out HB.out)
        have HBk := HB.out
        clear HB hx104_0 hx104_1 hx104_2
        have HO112 := n0_
        have BK109 := A0_.mk (show Kept w wr (fun k_ => k_ = g ∨ some k_ = (.slice (some ad104) l0_0.length c0_0 : Value).ownBlock) from k_below HBk)
        have BK113 := BK101
        have HB := n3_
        clear n0_ n3_
        have Ny116 := A0_.mk (rfl : (l0_0 ++ [(⟨a1, a2, wrap64 (((rd_T75 l0_0 a1).f2) + 1)⟩ : S75)]) = (l0_0 ++ [(⟨a1, a2, wrap64 (((rd_T75 l0_0 a1).f2) + 1)⟩ : S75)]))
        have LMc23 := A0_.mk c29
        have GE113 := HG0
        have c5b0 := c24b0
        have c6b0 := c25b0
        have n0_ := A0_.mk (Kd.R_drew HO112.out)
        have n1_ := A0_.mk (k_drew BK109.out)
        have n2_ := A0_.mk (bkD BK113.out)
        have n3_ := A0_.mk (bdr HB.out)
        clear HO112
        clear BK109
        clear BK113
        clear HB
        have HO112 := n0_
        have BK109 := n1_
        have BK113 := n2_
        have HB := n3_
        clear n0_ n1_ n2_ n3_
        have p115 : 0 ≤ (a1 : Int) := of_decide_eq_true (by first | (with_reducible assumption) | assumption)
        have q115 : a1 < (l0_0.length : Int) := of_decide_eq_true (by first | (with_reducible assumption) | assumption)
        obtain ⟨ad115, e115, hx115_0, hx115_1, hx115_2⟩ := at_T75 (Kd.R_reads' HO112.out).2.2 a1 p115 q115
        obtain rfl : ad104 = ad115 := (by injection e115)
        replace p115 := eq_true p115
        replace q115 := eq_true q115
        refine start_ (n := 22) (S := fun w' => w'.cell? ⟨g, 0, none⟩ = some (.slice (some ad104) l0_0.length c0_0) ∧ w'.cell? (ad104.add ((a1).toNat * 3)) = some (.int .i64 ((rd_T75 l0_0 a1).f0)) ∧ w'.cell? ⟨(ad104.add ((a1).toNat * 3)).block, (ad104.add ((a1).toNat * 3)).off + 1, none⟩ = some (.string ((rd_T75 l0_0 a1).f1)) ∧ w'.cell? ⟨(ad104.add ((a1).toNat * 3)).block, (ad104.add ((a1).toNat * 3)).off + 2, none⟩ = some (.int .i64 ((rd_T75 l0_0 a1).f2))) (ds := [18, 21]) #[false, false, false, false, false, false, false, false, false, false, false, false, false, false, false, false, false, false, false, false, false, false] (by kernel_rfl) rfl rfl ⟨(bkC BK113.out 0).trans rfl, hx115_0, hx115_1, hx115_2⟩ (fun hHeld => ?_); refine with_tabW spec_l2grow.tab9 spec_l2grow.bits9 (fun HT_ HW_ => ?_)
        generalize wr.drew = w32 at HO112 BK109 BK113 HB hx115_0 hx115_1 hx115_2 hHeld ⊢
        refine pure_ (i := 0) (N := some 52) (v := ?_) (a' := ?_) #[true, false, false, false, false, false, false, false, false, false, false, false, false, false, false, false, false, false, false, false, false, false] rfl rfl (any_of HT_.out (by kernel_rfl)) (fun _ _ _ h => h) (Or.inl ⟨by rfl, ?_⟩) ?_ ?_
        rotate_left
        ·intro w'
         go_simp
         with_reducible rfl
        rotate_left
        ·simp only [Act.put, List.setIfInBounds_toArray, List.set_cons_zero, List.set_cons_succ, i64_w, i32_w]
         rfl
        refine pure_ (i := 1) (N := some 53) (v := ?_) (a' := ?_) #[true, true, false, false, false, false, false, false, false, false, false, false, false, false, false, false, false, false, false, false, false, false] rfl rfl (any_of HT_.out (by kernel_rfl)) (fun _ _ _ h => h) (Or.inl ⟨by rfl, ?_⟩) ?_ ?_
        rotate_left
        ·intro w'
         go_simp
         with_reducible rfl
        rotate_left
        ·simp only [Act.put, List.setIfInBounds_toArray, List.set_cons_zero, List.set_cons_succ, i64_w, i32_w]
         rfl
        refine pure_ (i := 2) (N := some 54) (v := ?_) (a' := ?_) #[true, true, true, false, false, false, false, false, false, false, false, false, false, false, false, false, false, false, false, false, false, false] rfl rfl (any_of HT_.out (by kernel_rfl)) (fun _ _ _ h => h) (Or.inl ⟨by rfl, ?_⟩) ?_ ?_
        rotate_left
        ·intro w'
         go_simp
         with_reducible rfl
        rotate_left
        ·simp only [Act.put, List.setIfInBounds_toArray, List.set_cons_zero, List.set_cons_succ, i64_w, i32_w]
         rfl
        refine pure_ (i := 3) (N := some 55) (v := ?_) (a' := ?_) #[true, true, true, true, false, false, false, false, false, false, false, false, false, false, false, false, false, false, false, false, false, false] rfl rfl (any_of HT_.out (by kernel_rfl)) (fun _ _ _ h => h) (Or.inl ⟨by rfl, ?_⟩) ?_ ?_
        rotate_left
        ·intro w'
         go_simp
         with_reducible rfl
        rotate_left
        ·simp only [Act.put, List.setIfInBounds_toArray, List.set_cons_zero, List.set_cons_succ, i64_w, i32_w]
         rfl
        refine pure_ (i := 5) (N := some 57) (v := ?_) (a' := ?_) #[true, true, true, true, false, true, false, false, false, false, false, false, false, false, false, false, false, false, false, false, false, false] rfl rfl (any_of HT_.out (by kernel_rfl)) (fun _ _ _ h => h) (Or.inl ⟨by rfl, ?_⟩) ?_ ?_
        rotate_left
        ·intro w'
         go_simp
         with_reducible rfl
        rotate_left
        ·simp only [Act.put, List.setIfInBounds_toArray, List.set_cons_zero, List.set_cons_succ, i64_w, i32_w]
         rfl
        refine pure_ (i := 6) (N := some 58) (v := ?_) (a' := ?_) #[true, true, true, true, false, true, true, false, false, false, false, false, false, false, false, false, false, false, false, false, false, false] rfl rfl (any_of HT_.out (by kernel_rfl)) (fun _ _ _ h => h) (Or.inl ⟨by rfl, ?_⟩) ?_ ?_
        rotate_left
        ·intro w'
         go_simp
         with_reducible rfl
        rotate_left
        ·simp only [Act.put, List.setIfInBounds_toArray, List.set_cons_zero, List.set_cons_succ, i64_w, i32_w]
         rfl
        refine pure_ (i := 7) (N := some 59) (v := ?_) (a' := ?_) #[true, true, true, true, false, true, true, true, false, false, false, false, false, false, false, false, false, false, false, false, false, false] rfl rfl (any_of HT_.out (by kernel_rfl)) (fun _ _ _ h => h) (Or.inl ⟨by rfl, ?_⟩) ?_ ?_
        rotate_left
        ·intro w'
         go_simp
         with_reducible rfl
        rotate_left
        ·simp only [Act.put, List.setIfInBounds_toArray, List.set_cons_zero, List.set_cons_succ, i64_w, i32_w]
         rfl
        refine pure_ (i := 8) (N := some 60) (v := ?_) (a' := ?_) #[true, true, true, true, false, true, true, true, true, false, false, false, false, false, false, false, false, false, false, false, false, false] rfl rfl (any_of HT_.out (by kernel_rfl)) (fun _ _ _ h => h) (Or.inl ⟨by rfl, ?_⟩) ?_ ?_
        rotate_left
        ·intro w'
         go_simp
         with_reducible rfl
        rotate_left
        ·simp only [Act.put, List.setIfInBounds_toArray, List.set_cons_zero, List.set_cons_succ, i64_w, i32_w]
         rfl
        refine pure_ (i := 9) (N := some 61) (v := ?_) (a' := ?_) #[true, true, true, true, false, true, true, true, true, true, false, false, false, false, false, false, false, false, false, false, false, false] rfl rfl (any_of HT_.out (by kernel_rfl)) (fun _ _ _ h => h) (Or.inl ⟨by rfl, ?_⟩) ?_ ?_
        rotate_left
        ·intro w'
         go_simp
         with_reducible rfl
        rotate_left
        ·simp only [Act.put, List.setIfInBounds_toArray, List.set_cons_zero, List.set_cons_succ, i64_w, i32_w]
         rfl
        refine pure_ (i := 11) (N := some 63) (v := ?_) (a' := ?_) #[true, true, true, true, false, true, true, true, true, true, false, true, false, false, false, false, false, false, false, false, false, false] rfl rfl (any_of HT_.out (by kernel_rfl)) (fun _ _ _ h => h) (Or.inl ⟨by rfl, ?_⟩) ?_ ?_
        rotate_left
        ·intro w'
         go_simp
         with_reducible rfl
        rotate_left
        ·simp only [Act.put, List.setIfInBounds_toArray, List.set_cons_zero, List.set_cons_succ, i64_w, i32_w]
         rfl
        refine take_ (i := 4) (N := some 56) (v := ?_) (a' := ?_) #[true, true, true, true, true, true, true, true, true, true, false, true, false, false, false, false, false, false, false, false, false, false] rfl rfl (take_ofW HT_.out HW_.out (by kernel_rfl)) (fun _ _ _ h => h) (Or.inl ⟨by rfl, ?_⟩) hHeld ?_ ?_
        rotate_left
        ·rintro w' ⟨s0, s1, s2, s3⟩
         go_simp
         with_reducible rfl
        rotate_left
        ·simp only [Act.put, List.setIfInBounds_toArray, List.set_cons_zero, List.set_cons_succ, i64_w, i32_w]
         rfl
        refine take_ (i := 10) (N := some 62) (v := ?_) (a' := ?_) #[true, true, true, true, true, true, true, true, true, true, true, true, false, false, false, false, false, false, false, false, false, false] rfl rfl (take_ofW HT_.out HW_.out (by kernel_rfl)) (fun _ _ _ h => h) (Or.inl ⟨by rfl, ?_⟩) hHeld ?_ ?_
        rotate_left
        ·rintro w' ⟨s0, s1, s2, s3⟩
         go_simp
         with_reducible rfl
        rotate_left
        ·simp only [Act.put, List.setIfInBounds_toArray, List.set_cons_zero, List.set_cons_succ, i64_w, i32_w]
         rfl
        refine pure_ (i := 12) (N := some 64) (v := ?_) (a' := ?_) #[true, true, true, true, true, true, true, true, true, true, true, true, true, false, false, false, false, false, false, false, false, false] rfl rfl (any_of HT_.out (by kernel_rfl)) (fun _ _ _ h => h) (Or.inl ⟨by rfl, ?_⟩) ?_ ?_
        rotate_left
        ·intro w'
         go_simp
         with_reducible rfl
        rotate_left
        ·simp only [Act.put, List.setIfInBounds_toArray, List.set_cons_zero, List.set_cons_succ, i64_w, i32_w]
         rfl
        refine pure_ (i := 13) (N := some 65) (v := ?_) (a' := ?_) #[true, true, true, true, true, true, true, true, true, true, true, true, true, true, false, false, false, false, false, false, false, false] rfl rfl (any_of HT_.out (by kernel_rfl)) (fun _ _ _ h => h) (Or.inl ⟨by rfl, ?_⟩) ?_ ?_
        rotate_left
        ·intro w'
         go_simp
         with_reducible rfl
        rotate_left
        ·simp only [Act.put, List.setIfInBounds_toArray, List.set_cons_zero, List.set_cons_succ, i64_w, i32_w]
         rfl
        refine take_ (i := 14) (N := some 66) (v := ?_) (a' := ?_) #[true, true, true, true, true, true, true, true, true, true, true, true, true, true, true, false, false, false, false, false, false, false] rfl rfl (take_ofW HT_.out HW_.out (by kernel_rfl)) (fun _ _ _ h => h) (Or.inl ⟨by rfl, ?_⟩) hHeld ?_ ?_
        rotate_left
        ·rintro w' ⟨s0, s1, s2, s3⟩
         go_simp
         with_reducible rfl
        rotate_left
        ·simp only [Act.put, List.setIfInBounds_toArray, List.set_cons_zero, List.set_cons_succ, i64_w, i32_w]
         rfl
        refine pure_ (i := 15) (N := some 67) (v := ?_) (a' := ?_) #[true, true, true, true, true, true, true, true, true, true, true, true, true, true, true, true, false, false, false, false, false, false] rfl rfl (any_of HT_.out (by kernel_rfl)) (fun _ _ _ h => h) (Or.inl ⟨by rfl, ?_⟩) ?_ ?_
        rotate_left
        ·intro w'
         go_simp
         with_reducible rfl
        rotate_left
        ·simp only [Act.put, List.setIfInBounds_toArray, List.set_cons_zero, List.set_cons_succ, i64_w, i32_w]
         rfl
        refine pure_ (i := 16) (N := some 68) (v := ?_) (a' := ?_) #[true, true, true, true, true, true, true, true, true, true, true, true, true, true, true, true, true, false, false, false, false, false] rfl rfl (any_of HT_.out (by kernel_rfl)) (fun _ _ _ h => h) (Or.inl ⟨by rfl, ?_⟩) ?_ ?_
        rotate_left
        ·intro w'
         go_simp
         with_reducible rfl
        rotate_left
        ·simp only [Act.put, List.setIfInBounds_toArray, List.set_cons_zero, List.set_cons_succ, i64_w, i32_w]
         rfl
        refine one_ (i := 17) (N := some 69) #[true, true, true, true, true, true, true, true, true, true, true, true, true, true, true, true, true, true, false, false, false, false] rfl rfl (one_of HT_.out (by kernel_rfl)) (by decide) (fun K hK => ?_)
        refine value_ (w1 := ?_) (v := ?_) (by rfl) rfl ?_ ?_
        rotate_left 2
        ·go_simp
         constructor
         ·rfl
         ·rfl
        refine hK.out _ _ ⟨(bkC (bkA BK113.out _) 0).trans rfl, (World.cell?_alloc_lt _ _ _ (World.block_lt_of_cell? _ _ (hHeld.2.1))).trans (hHeld.2.1), (World.cell?_alloc_lt _ _ _ (World.block_lt_of_cell? _ _ (hHeld.2.2.1))).trans (hHeld.2.2.1), (World.cell?_alloc_lt _ _ _ (World.block_lt_of_cell? _ _ (hHeld.2.2.2))).trans (hHeld.2.2.2)⟩ (fun hHeld => ?_)
        clear hK K
        refine norm_ (a' := ?_) ?_ ?_
        rotate_left
        ·show Act.put _ (some 69) _ = _
         simp only [Act.put, List.setIfInBounds_toArray, List.set_cons_zero, List.set_cons_succ, i64_w, i32_w]
         rfl
        refine last_ (i := 18) (N := some 70) #[true, true, true, true, true, true, true, true, true, true, true, true, true, true, true, true, true, true, true, false, false, false] rfl rfl (one_of HT_.out (by kernel_rfl)) (by decide) (fun K hK => ?_)
        refine Kd.R_append_step k75 (w0 := w0) w0.heap.size (by rfl) (.tmp 56) (.tmp 69) 34 75 (.agg #[(.int .i64 0), (.string ⟨#[]⟩), (.int .i64 0)]) 32 rfl Try.underlying34 info75 rfl (by decide) (by omega) (.slice (some ad104) l0_0.length c0_0) l0_0 (⟨a1, a2, wrap64 (((rd_T75 l0_0 a1).f2) + 1)⟩ : S75) [.int .i64 a1, .string a2, .int .i64 (wrap64 (((rd_T75 l0_0 a1).f2) + 1))] (fun _ => True) (fun _ => False) rfl rfl ?aP (fun _ hk => hk.elim) ?aF ?aO ?aB ?aS ?aL ?_
        (case aP => exact k75_mkM _ _ _ (⟨a1, a2, wrap64 (((rd_T75 l0_0 a1).f2) + 1)⟩ : S75))
        (case aB => exact (by repeat (first | (with_reducible first | exact HB.out | apply bal | apply pdN | apply bdr | refine bst ?_ GE109.out | refine bst ?_ GE113.out) | exact HB.out)))
        (case aF => exact (fun _ _ => trivial))
        (case aO => exact (by (with_reducible repeat (first | apply Kd.R_alloc | apply Kd.R_drewN | apply Kd.R_drew)); exact HO112.out))
        (case aS => exact (below_size (by repeat (first | (with_reducible first | exact HB.out | apply bal | apply pdN | apply bdr | refine bst ?_ GE109.out | refine bst ?_ GE113.out) | exact HB.out))))
        (case aL => have := LMc23.out; omega)
        intro v117 w33 ho hb hg hat
        rw [← Ny116.out] at ho
        have n0_ := A0_.mk (k_grown BK109.out hg (fun k_ e_ => .inr e_.symm))
        have n1_ := A0_.mk (blk_grown (g := g) (o := .cells #[.slice (some ad104) l0_0.length c0_0] 36 (0, 0)) (by (with_reducible repeat (first | refine bkN ?_ _ | refine bkD ?_ | refine bkA ?_ _)); exact BK113.out) hg (Kd.R_ne HO112.out BK113.out (by decide)))
        have n2_ := A0_.mk (hb)
        have n3_ := A0_.mk (ho)
        clear BK109
        clear BK113
        clear HB
        clear HO112
        have BK109 := n0_
        have BK113 := n1_
        have HB := n2_
        have HO118 := n3_
        clear n0_ n1_ n2_ n3_
        clear ho hb hg hat
        obtain ⟨Ao34, co34, eo34⟩ := Kd.R_slice HO118.out
        (first | subst eo34 | (injection eo34 with f1_ f2_ f3_; have f4_ := f1_.symm; have f5_ := f3_.symm; clear f1_ f2_ f3_; subst f4_; subst f5_))
        refine hK.out _ _ ?_
        clear hK K
        refine norm_ (a' := ?_) ?_ ?_
        rotate_left
        ·show Act.put _ (some 70) _ = _
         simp only [Act.put, List.setIfInBounds_toArray, List.set_cons_zero, List.set_cons_succ, i64_w, i32_w]
         rfl
        refine pure_ (i := 19) (N := some 71) (v := ?_) (a' := ?_) #[true, true, true, true, true, true, true, true, true, true, true, true, true, true, true, true, true, true, true, true, false, false] rfl rfl (any_of HT_.out (by kernel_rfl)) (fun _ _ _ h => h) (Or.inl ⟨by rfl, ?_⟩) ?_ ?_
        rotate_left
        ·intro w'
         go_simp
         with_reducible rfl
        rotate_left
        ·simp only [Act.put, List.setIfInBounds_toArray, List.set_cons_zero, List.set_cons_succ, i64_w, i32_w]
         rfl
        refine pure_ (i := 20) (N := some 72) (v := ?_) (a' := ?_) #[true, true, true, true, true, true, true, true, true, true, true, true, true, true, true, true, true, true, true, true, true, false] rfl rfl (any_of HT_.out (by kernel_rfl)) (fun _ _ _ h => h) (Or.inl ⟨by rfl, ?_⟩) ?_ ?_
        rotate_left
        ·intro w'
         go_simp
         with_reducible rfl
        rotate_left
        ·simp only [Act.put, List.setIfInBounds_toArray, List.set_cons_zero, List.set_cons_succ, i64_w, i32_w]
         rfl
        refine last_ (i := 21) (N := none) #[true, true, true, true, true, true, true, true, true, true, true, true, true, true, true, true, true, true, true, true, true, true] rfl rfl (one_of HT_.out (by kernel_rfl)) (by decide) (fun K hK => ?_)
        have hs35 : w33.cell? ⟨g, 0, none⟩ = some (.slice (some ad104) l0_0.length c0_0) := (bkC BK113.out 0).trans rfl
        have hfs35 := bkF BK113.out 0
        refine skip_ (w1 := ?_) (by rfl) rfl ?_ ?_
        rotate_left
        ·go_simp
         rfl
        refine hK.out _ _ ?_
        clear hK K
        refine done_ (done_of HT_.out (by kernel_rfl)) ?_
        have hcz36_0 : w33.cell? ⟨g, 0, none⟩ = some (.slice (some ad104) l0_0.length c0_0) := (bkC BK113.out 0).trans rfl
        have hfz36_0 := bkF BK113.out 0
        try go_wp2
        go_ret
        have HOz := HO118.out
        rw [List.length_append, List.length_singleton] at HOz
        exact ⟨by first | rfl | (simp; done) | (rw [List.length_append, List.length_singleton]; first | rfl | (simp; done)) | (simp; exact (IntWalk.wrap64_in _ ⟨by omega, by have := LMc23.out; omega⟩).symm), _, blk_put BK113.out 0 _ rfl, Kd.R_set HOz BK113.out (by decide) 0 _, bst HB.out HG0.out, k_set BK109.out (.inl rfl) 0 _⟩
     ·rw [if_neg c25] at H
      exact absurd H (by simp)
    ·rw [if_neg c24] at H
     exact absurd H (by simp)

/-! ### spec_Grow: function 36 -/
def spec_Grow.f (k : Nat) (l0_0 : List (S75)) (a1 : Int) (a2 : ByteArray) : Option ((List (S75)) × Int) := (spec_ForestOk.f k l0_0).bind fun t139 => (if t139 = 0 then ((spec_l2shape.f l0_0 a1).bind fun t140 => (if t140 = true then (if (a2.size : Int) > 4000 then (some (([] : List (S75)), (-1))) else ((spec_l2at.f k l0_0 a1 a2).bind fun t141 => (if t141 ≥ 0 then (some (([] : List (S75)), (-1))) else ((spec_l2copy.f k l0_0).bind fun t142 => (spec_l2grow.f k t142 a1 a2))))) else (some (([] : List (S75)), (-1))))) else (some (([] : List (S75)), (-1))))
theorem spec_Grow.mono : ∀ a0 a1 a2 k, LeO (spec_Grow.f k a0 a1 a2) (spec_Grow.f (k + 1) a0 a1 a2) := by
 intro a0 a1 a2 k
 unfold spec_Grow.f
 repeat' first
   | (with_reducible exact spec_ForestOk.mono _ _)
   | (with_reducible exact spec_l2at.mono _ _ _ _)
   | (with_reducible exact spec_l2copy.mono _ _)
   | (with_reducible exact spec_l2grow.mono _ _ _ _)
   | (with_reducible exact LeO.refl _)
   | (with_reducible exact LeO.none _)
   | (with_reducible refine LeO.ite ?_ ?_)
   | (with_reducible refine LeO.bind ?_ (fun _ => ?_))
   | exact spec_ForestOk.mono _ _
   | exact spec_l2at.mono _ _ _ _
   | exact spec_l2copy.mono _ _
   | exact spec_l2grow.mono _ _ _ _
   | exact LeO.none _
   | refine LeO.ite ?_ ?_
   | refine LeO.bind ?_ (fun _ => ?_)
set_option maxHeartbeats 8000000 in
set_option maxRecDepth 100000 in
theorem spec_Grow.calls (k : Nat) (A0_0 : Option Addr) (c0_0 : Nat) (l0_0 : List (S75)) (a1 : Int) (a2 : ByteArray) (r1 : List (S75)) (r2 : Int) (w : World) (hr0_0 : Kd.C k75 w A0_0 l0_0.length l0_0) (hc0_0 : l0_0.length ≤ c0_0) (h : spec_Grow.f k l0_0 a1 a2 = some (r1, r2)) :
  Calls Try.prog 36 #[.agg #[.slice A0_0 l0_0.length c0_0], .int .i64 a1, .string a2] w fun e w' => ∃ v0_ : Value, e = .returned (.agg #[v0_, .int .i64 r2]) ∧ Kd.R k75 75 w' w.heap.size (fun _ => True) v0_ r1 ∧ Below w.heap.size w w' := by
 have hu36 := Try.underlying36
 have hu64 := Try.underlying64
 have HR0_0 := A0_.mk hr0_0
 have HC0_0 := A0_.mk hc0_0
 clear hr0_0 hc0_0
 have HB := A0_.mk (Below.refl w.heap.size w)
 have H : ((spec_ForestOk.f k l0_0).bind fun t139 => (if t139 = 0 then ((spec_l2shape.f l0_0 a1).bind fun t140 => (if t140 = true then (if (a2.size : Int) > 4000 then (some (([] : List (S75)), (-1))) else ((spec_l2at.f k l0_0 a1 a2).bind fun t141 => (if t141 ≥ 0 then (some (([] : List (S75)), (-1))) else ((spec_l2copy.f k l0_0).bind fun t142 => (spec_l2grow.f k t142 a1 a2))))) else (some (([] : List (S75)), (-1))))) else (some (([] : List (S75)), (-1))))) = some (r1, r2) := h
 clear h
 replace H := Option.bind_eq_some_iff.mp H
 obtain ⟨t139, A40, H⟩ := H
 replace H : (if t139 = 0 then ((spec_l2shape.f l0_0 a1).bind fun t140 => (if t140 = true then (if (a2.size : Int) > 4000 then (some (([] : List (S75)), (-1))) else ((spec_l2at.f k l0_0 a1 a2).bind fun t141 => (if t141 ≥ 0 then (some (([] : List (S75)), (-1))) else ((spec_l2copy.f k l0_0).bind fun t142 => (spec_l2grow.f k t142 a1 a2))))) else (some (([] : List (S75)), (-1))))) else (some (([] : List (S75)), (-1)))) = some (r1, r2) := H
 have A4 := A0_.mk A40
 clear A40
 by_cases c5 : t139 = 0
 ·rw [if_pos c5] at H
  have c5b0 : (t139 == 0) = true := beq_iff_eq.mpr c5
  have c5b1 : (t139 != 0) = false := bne_eq_false_iff_eq.mpr c5
  clear c5
  replace H := Option.bind_eq_some_iff.mp H
  obtain ⟨t140, A60, H⟩ := H
  replace H : (if t140 = true then (if (a2.size : Int) > 4000 then (some (([] : List (S75)), (-1))) else ((spec_l2at.f k l0_0 a1 a2).bind fun t141 => (if t141 ≥ 0 then (some (([] : List (S75)), (-1))) else ((spec_l2copy.f k l0_0).bind fun t142 => (spec_l2grow.f k t142 a1 a2))))) else (some (([] : List (S75)), (-1)))) = some (r1, r2) := H
  have A6 := A0_.mk A60
  clear A60
  by_cases c7 : t140 = true
  ·subst c7
   have H1 : (if (a2.size : Int) > 4000 then (some (([] : List (S75)), (-1))) else ((spec_l2at.f k l0_0 a1 a2).bind fun t141 => (if t141 ≥ 0 then (some (([] : List (S75)), (-1))) else ((spec_l2copy.f k l0_0).bind fun t142 => (spec_l2grow.f k t142 a1 a2))))) = some (r1, r2) := by rw [if_pos rfl] at H; exact H
   clear H
   have H := H1
   clear H1
   by_cases c8 : (a2.size : Int) > 4000
   ·rw [if_pos c8] at H
    have c8b0 : decide (4000 < (a2.size : Int)) = true := decide_eq_true c8
    have c8b1 : decide (4000 < a2.size) = true := decide_eq_true (by omega)
    clear c8
    simp only [Option.some.injEq, Prod.mk.injEq] at H
    obtain ⟨rfl, rfl⟩ := H
    go_enter Try.func36, Try.ntmps36
    go_wp2_with (first | ((with_reducible refine gate_dst (N := 3) rfl ?_); (try (refine gate_guard (by rfl) ?_; dsimp only)); refine box_event ?hg (N := 3) ?hd (cs := #[.slice A0_0 l0_0.length c0_0]) (t := 36) ?hr ?_; (case hd => rfl); (case hg => rfl); (case hr => first | (go_simp; done) | (go_simp; rfl)); intro gb137 hg w9 hbox hb; have n0_ := A0_.mk (below_step (by repeat (first | (with_reducible first | exact HB.out | apply bal | apply pdN | apply bdr) | exact HB.out)) hb); have n1_ := A0_.mk (hbox); have n2_ := A0_.mk ((by rw [hg]; exact (below_size (by repeat (first | (with_reducible first | exact HB.out | apply bal | apply pdN | apply bdr) | exact HB.out))) : w.heap.size ≤ gb137)); have n3_ := A0_.mk ((by rw [hg]; exact (below_size (by repeat (first | (with_reducible first | exact HB.out | apply bal | apply pdN | apply bdr) | exact HB.out))) : w.heap.size ≤ gb137)); clear HB; have HB := n0_; have BK137 := n1_; have GW137 := n2_; have GE137 := n3_; clear n0_ n1_ n2_ n3_; clear hb hbox hg) | ((with_reducible refine gate_dst (N := 6) rfl ?_); (try (refine gate_guard (by rfl) ?_; dsimp only)); refine box_event ?hg (N := 6) ?hd (cs := #[.slice none 0 0, .int .i64 0]) (t := 64) ?hr ?_; (case hd => rfl); (case hg => rfl); (case hr => first | (go_simp; done) | (go_simp; rfl)); intro gb138 hg w10 hbox hb; have n0_ := A0_.mk (blk_below (g := gb137) (o := .cells #[.slice A0_0 l0_0.length c0_0] 36 (0, 0)) (by (with_reducible repeat (first | refine bkN ?_ _ | refine bkD ?_ | refine bkA ?_ _)); exact BK137.out) hb); have n1_ := A0_.mk (below_step (by repeat (first | (with_reducible first | exact HB.out | apply bal | apply pdN | apply bdr | refine bst ?_ GE137.out) | exact HB.out)) hb); have n2_ := A0_.mk (hbox); have n3_ := A0_.mk ((by rw [hg]; exact (below_size (by repeat (first | (with_reducible first | exact HB.out | apply bal | apply pdN | apply bdr | refine bst ?_ GE137.out) | exact HB.out))) : w.heap.size ≤ gb138)); have n4_ := A0_.mk ((by rw [hg]; exact (below_size (by repeat (first | (with_reducible first | exact HB.out | apply bal | apply pdN | apply bdr | refine bst ?_ GE137.out) | exact HB.out))) : w.heap.size ≤ gb138)); have n5_ := A0_.mk ((by rw [hg]; exact Nat.ne_of_lt (blk_lt (g := gb137) (o := .cells #[.slice A0_0 l0_0.length c0_0] 36 (0, 0)) (by (with_reducible repeat (first | refine bkN ?_ _ | refine bkD ?_ | refine bkA ?_ _)); exact BK137.out)) : gb137 ≠ gb138)); have n6_ := A0_.mk ((by rw [hg]; exact Nat.ne_of_gt (blk_lt (g := gb137) (o := .cells #[.slice A0_0 l0_0.length c0_0] 36 (0, 0)) (by (with_reducible repeat (first | refine bkN ?_ _ | refine bkD ?_ | refine bkA ?_ _)); exact BK137.out)) : gb138 ≠ gb137)); clear BK137; clear HB; have BK137 := n0_; have HB := n1_; have BK138 := n2_; have GW138 := n3_; have GE138 := n4_; have NB137_138 := n5_; have NB138_137 := n6_; clear n0_ n1_ n2_ n3_ n4_ n5_ n6_; clear hb hbox hg; have hnb11 := NB137_138.out; have hnc11 := NB138_137.out; have hcz12_0 : w10.cell? ⟨gb137, 0, none⟩ = some (.slice A0_0 l0_0.length c0_0) := (bkC BK137.out 0).trans rfl; have hfz12_0 := bkF BK137.out 0) | ((with_reducible refine gate_callee (f := 22) rfl ?_); refine goesL_ (some 10) rfl rfl Try.func22 (by kernel_rfl) rfl #[.agg #[.slice A0_0 l0_0.length c0_0]] rfl (by (try simp only [List.map_toArray, List.map_cons, List.map_nil]); first | done | rfl | (simp only [List.length_drop, List.length_take]; rfl)) ?_; (with_reducible refine (spec_ForestOk.calls k _ _ l0_0 t139 _ ?side1 ?side2 A4.out).mono ?_); (case side1 => repeat (first | exact (Kd.C_below HR0_0.out HB.out) | (with_reducible refine Kd.C_alloc ?_ _) | (with_reducible refine Kd.C_drewN ?_ _) | (with_reducible refine Kd.C_drew ?_))); (case side2 => exact HC0_0.out); rintro e w13 ⟨rfl, hb⟩; refine ⟨_, rfl, ?_⟩; have n0_ := A0_.mk (blk_below (g := gb137) (o := .cells #[.slice A0_0 l0_0.length c0_0] 36 (0, 0)) (by (with_reducible repeat (first | refine bkN ?_ _ | refine bkD ?_ | refine bkA ?_ _)); exact BK137.out) hb); have n1_ := A0_.mk (blk_below (g := gb138) (o := .cells #[.slice none 0 0, .int .i64 0] 64 (0, 0)) (by (with_reducible repeat (first | refine bkN ?_ _ | refine bkD ?_ | refine bkA ?_ _)); exact BK138.out) hb); have n2_ := A0_.mk (below_step (by repeat (first | (with_reducible first | exact HB.out | apply bal | apply pdN | apply bdr | refine bst ?_ GE137.out | refine bst ?_ GE138.out) | exact HB.out)) hb); clear BK137; clear BK138; clear HB; have BK137 := n0_; have BK138 := n1_; have HB := n2_; clear n0_ n1_ n2_; (try clear hb); (try clear hb2); (try clear hk); (try clear hi); have hcz14_0 : w13.cell? ⟨gb137, 0, none⟩ = some (.slice A0_0 l0_0.length c0_0) := (bkC BK137.out 0).trans rfl; have hfz14_0 := bkF BK137.out 0) | (go_at_call 61; (with_reducible refine (spec_l2shape.calls _ _ l0_0 a1 true _ ?side1 ?side2 A6.out).mono ?_); (case side1 => repeat (first | exact (Kd.C_below HR0_0.out HB.out) | (with_reducible refine Kd.C_alloc ?_ _) | (with_reducible refine Kd.C_drewN ?_ _) | (with_reducible refine Kd.C_drew ?_))); (case side2 => exact HC0_0.out); rintro e w15 ⟨rfl, hb⟩; have n0_ := A0_.mk (blk_below (g := gb137) (o := .cells #[.slice A0_0 l0_0.length c0_0] 36 (0, 0)) (by (with_reducible repeat (first | refine bkN ?_ _ | refine bkD ?_ | refine bkA ?_ _)); exact BK137.out) hb); have n1_ := A0_.mk (blk_below (g := gb138) (o := .cells #[.slice none 0 0, .int .i64 0] 64 (0, 0)) (by (with_reducible repeat (first | refine bkN ?_ _ | refine bkD ?_ | refine bkA ?_ _)); exact BK138.out) hb); have n2_ := A0_.mk (below_step (by repeat (first | (with_reducible first | exact HB.out | apply bal | apply pdN | apply bdr | refine bst ?_ GE137.out | refine bst ?_ GE138.out) | exact HB.out)) hb); clear BK137; clear BK138; clear HB; have BK137 := n0_; have BK138 := n1_; have HB := n2_; clear n0_ n1_ n2_; (try clear hb); (try clear hb2); (try clear hk); (try clear hi); have hcz16_0 : w15.cell? ⟨gb138, 0, none⟩ = some (.slice none 0 0) := (bkC BK138.out 0).trans rfl; have hcz16_1 : w15.cell? ⟨gb138, 1, none⟩ = some (.int .i64 0) := (bkC BK138.out 1).trans rfl; have hfz16_0 := bkF BK138.out 0; have hfz16_1 := bkF BK138.out 1))
    refine bodyPost_ret (results_cell_row rfl _ _ gb138 64 #[.slice none 0 0, .int .i64 (-1)] (0, 0) _ rfl (by (with_reducible repeat (first | refine bkN ?_ _ | refine bkD ?_ | refine bkA ?_ _)); refine blk_put (cs := #[.slice none 0 0, .int .i64 0]) ?_ 1 _ rfl; (with_reducible repeat (first | refine bkN ?_ _ | refine bkD ?_ | refine bkA ?_ _)); refine blk_put (cs := #[.slice none 0 0, .int .i64 0]) ?_ 0 _ rfl; (with_reducible repeat (first | refine bkN ?_ _ | refine bkD ?_ | refine bkA ?_ _)); exact BK138.out) Try.underlying64 rfl (by kernel_rfl)) rfl ?_
    exact ⟨_, by first | rfl | (simp [errW_none, errW_some] <;> rfl) | (simp [*, errW_none, errW_some] <;> rfl), by first | exact Kd.R_nil _ _ _ _ _ | exact Kd.N_nil _ _ _ _ _ | exact Kd.V_nil _ _ _ _ _ | exact Kd.Q_nil _ _ _ _ _ | exact Kd.S_nil _ _ _ _ _, by repeat (first | (with_reducible first | exact HB.out | apply bal | apply pdN | apply bdr | refine bst ?_ GE137.out | refine bst ?_ GE138.out) | exact HB.out)⟩
   ·rw [if_neg c8] at H
    have c8b0 : decide (4000 < (a2.size : Int)) = false := decide_eq_false c8
    have c8b1 : decide (4000 < a2.size) = false := decide_eq_false (by omega)
    clear c8
    replace H := Option.bind_eq_some_iff.mp H
    obtain ⟨t141, A170, H⟩ := H
    replace H : (if t141 ≥ 0 then (some (([] : List (S75)), (-1))) else ((spec_l2copy.f k l0_0).bind fun t142 => (spec_l2grow.f k t142 a1 a2))) = some (r1, r2) := H
    have A17 := A0_.mk A170
    clear A170
    by_cases c18 : t141 ≥ 0
    ·rw [if_pos c18] at H
     have c18b0 : decide (0 ≤ t141) = true := decide_eq_true c18
     clear c18
     simp only [Option.some.injEq, Prod.mk.injEq] at H
     obtain ⟨rfl, rfl⟩ := H
     go_enter Try.func36, Try.ntmps36
     go_wp2_with (first | ((with_reducible refine gate_dst (N := 3) rfl ?_); (try (refine gate_guard (by rfl) ?_; dsimp only)); refine box_event ?hg (N := 3) ?hd (cs := #[.slice A0_0 l0_0.length c0_0]) (t := 36) ?hr ?_; (case hd => rfl); (case hg => rfl); (case hr => first | (go_simp; done) | (go_simp; rfl)); intro gb137 hg w19 hbox hb; have n0_ := A0_.mk (below_step (by repeat (first | (with_reducible first | exact HB.out | apply bal | apply pdN | apply bdr) | exact HB.out)) hb); have n1_ := A0_.mk (hbox); have n2_ := A0_.mk ((by rw [hg]; exact (below_size (by repeat (first | (with_reducible first | exact HB.out | apply bal | apply pdN | apply bdr) | exact HB.out))) : w.heap.size ≤ gb137)); have n3_ := A0_.mk ((by rw [hg]; exact (below_size (by repeat (first | (with_reducible first | exact HB.out | apply bal | apply pdN | apply bdr) | exact HB.out))) : w.heap.size ≤ gb137)); clear HB; have HB := n0_; have BK137 := n1_; have GW137 := n2_; have GE137 := n3_; clear n0_ n1_ n2_ n3_; clear hb hbox hg) | ((with_reducible refine gate_dst (N := 6) rfl ?_); (try (refine gate_guard (by rfl) ?_; dsimp only)); refine box_event ?hg (N := 6) ?hd (cs := #[.slice none 0 0, .int .i64 0]) (t := 64) ?hr ?_; (case hd => rfl); (case hg => rfl); (case hr => first | (go_simp; done) | (go_simp; rfl)); intro gb138 hg w20 hbox hb; have n0_ := A0_.mk (blk_below (g := gb137) (o := .cells #[.slice A0_0 l0_0.length c0_0] 36 (0, 0)) (by (with_reducible repeat (first | refine bkN ?_ _ | refine bkD ?_ | refine bkA ?_ _)); exact BK137.out) hb); have n1_ := A0_.mk (below_step (by repeat (first | (with_reducible first | exact HB.out | apply bal | apply pdN | apply bdr | refine bst ?_ GE137.out) | exact HB.out)) hb); have n2_ := A0_.mk (hbox); have n3_ := A0_.mk ((by rw [hg]; exact (below_size (by repeat (first | (with_reducible first | exact HB.out | apply bal | apply pdN | apply bdr | refine bst ?_ GE137.out) | exact HB.out))) : w.heap.size ≤ gb138)); have n4_ := A0_.mk ((by rw [hg]; exact (below_size (by repeat (first | (with_reducible first | exact HB.out | apply bal | apply pdN | apply bdr | refine bst ?_ GE137.out) | exact HB.out))) : w.heap.size ≤ gb138)); have n5_ := A0_.mk ((by rw [hg]; exact Nat.ne_of_lt (blk_lt (g := gb137) (o := .cells #[.slice A0_0 l0_0.length c0_0] 36 (0, 0)) (by (with_reducible repeat (first | refine bkN ?_ _ | refine bkD ?_ | refine bkA ?_ _)); exact BK137.out)) : gb137 ≠ gb138)); have n6_ := A0_.mk ((by rw [hg]; exact Nat.ne_of_gt (blk_lt (g := gb137) (o := .cells #[.slice A0_0 l0_0.length c0_0] 36 (0, 0)) (by (with_reducible repeat (first | refine bkN ?_ _ | refine bkD ?_ | refine bkA ?_ _)); exact BK137.out)) : gb138 ≠ gb137)); clear BK137; clear HB; have BK137 := n0_; have HB := n1_; have BK138 := n2_; have GW138 := n3_; have GE138 := n4_; have NB137_138 := n5_; have NB138_137 := n6_; clear n0_ n1_ n2_ n3_ n4_ n5_ n6_; clear hb hbox hg; have hnb21 := NB137_138.out; have hnc21 := NB138_137.out; have hcz22_0 : w20.cell? ⟨gb137, 0, none⟩ = some (.slice A0_0 l0_0.length c0_0) := (bkC BK137.out 0).trans rfl; have hfz22_0 := bkF BK137.out 0) | ((with_reducible refine gate_callee (f := 22) rfl ?_); refine goesL_ (some 10) rfl rfl Try.func22 (by kernel_rfl) rfl #[.agg #[.slice A0_0 l0_0.length c0_0]] rfl (by (try simp only [List.map_toArray, List.map_cons, List.map_nil]); first | done | rfl | (simp only [List.length_drop, List.length_take]; rfl)) ?_; (with_reducible refine (spec_ForestOk.calls k _ _ l0_0 t139 _ ?side1 ?side2 A4.out).mono ?_); (case side1 => repeat (first | exact (Kd.C_below HR0_0.out HB.out) | (with_reducible refine Kd.C_alloc ?_ _) | (with_reducible refine Kd.C_drewN ?_ _) | (with_reducible refine Kd.C_drew ?_))); (case side2 => exact HC0_0.out); rintro e w23 ⟨rfl, hb⟩; refine ⟨_, rfl, ?_⟩; have n0_ := A0_.mk (blk_below (g := gb137) (o := .cells #[.slice A0_0 l0_0.length c0_0] 36 (0, 0)) (by (with_reducible repeat (first | refine bkN ?_ _ | refine bkD ?_ | refine bkA ?_ _)); exact BK137.out) hb); have n1_ := A0_.mk (blk_below (g := gb138) (o := .cells #[.slice none 0 0, .int .i64 0] 64 (0, 0)) (by (with_reducible repeat (first | refine bkN ?_ _ | refine bkD ?_ | refine bkA ?_ _)); exact BK138.out) hb); have n2_ := A0_.mk (below_step (by repeat (first | (with_reducible first | exact HB.out | apply bal | apply pdN | apply bdr | refine bst ?_ GE137.out | refine bst ?_ GE138.out) | exact HB.out)) hb); clear BK137; clear BK138; clear HB; have BK137 := n0_; have BK138 := n1_; have HB := n2_; clear n0_ n1_ n2_; (try clear hb); (try clear hb2); (try clear hk); (try clear hi); have hcz24_0 : w23.cell? ⟨gb137, 0, none⟩ = some (.slice A0_0 l0_0.length c0_0) := (bkC BK137.out 0).trans rfl; have hfz24_0 := bkF BK137.out 0) | (go_at_call 61; (with_reducible refine (spec_l2shape.calls _ _ l0_0 a1 true _ ?side1 ?side2 A6.out).mono ?_); (case side1 => repeat (first | exact (Kd.C_below HR0_0.out HB.out) | (with_reducible refine Kd.C_alloc ?_ _) | (with_reducible refine Kd.C_drewN ?_ _) | (with_reducible refine Kd.C_drew ?_))); (case side2 => exact HC0_0.out); rintro e w25 ⟨rfl, hb⟩; have n0_ := A0_.mk (blk_below (g := gb137) (o := .cells #[.slice A0_0 l0_0.length c0_0] 36 (0, 0)) (by (with_reducible repeat (first | refine bkN ?_ _ | refine bkD ?_ | refine bkA ?_ _)); exact BK137.out) hb); have n1_ := A0_.mk (blk_below (g := gb138) (o := .cells #[.slice none 0 0, .int .i64 0] 64 (0, 0)) (by (with_reducible repeat (first | refine bkN ?_ _ | refine bkD ?_ | refine bkA ?_ _)); exact BK138.out) hb); have n2_ := A0_.mk (below_step (by repeat (first | (with_reducible first | exact HB.out | apply bal | apply pdN | apply bdr | refine bst ?_ GE137.out | refine bst ?_ GE138.out) | exact HB.out)) hb); clear BK137; clear BK138; clear HB; have BK137 := n0_; have BK138 := n1_; have HB := n2_; clear n0_ n1_ n2_; (try clear hb); (try clear hb2); (try clear hk); (try clear hi); have hcz26_0 : w25.cell? ⟨gb137, 0, none⟩ = some (.slice A0_0 l0_0.length c0_0) := (bkC BK137.out 0).trans rfl; have hfz26_0 := bkF BK137.out 0) | (go_at_call 62; (with_reducible refine (spec_l2at.calls k _ _ l0_0 a1 a2 t141 _ ?side1 ?side2 A17.out).mono ?_); (case side1 => repeat (first | exact (Kd.C_below HR0_0.out HB.out) | (with_reducible refine Kd.C_alloc ?_ _) | (with_reducible refine Kd.C_drewN ?_ _) | (with_reducible refine Kd.C_drew ?_))); (case side2 => exact HC0_0.out); rintro e w27 ⟨rfl, hb⟩; have n0_ := A0_.mk (blk_below (g := gb137) (o := .cells #[.slice A0_0 l0_0.length c0_0] 36 (0, 0)) (by (with_reducible repeat (first | refine bkN ?_ _ | refine bkD ?_ | refine bkA ?_ _)); exact BK137.out) hb); have n1_ := A0_.mk (blk_below (g := gb138) (o := .cells #[.slice none 0 0, .int .i64 0] 64 (0, 0)) (by (with_reducible repeat (first | refine bkN ?_ _ | refine bkD ?_ | refine bkA ?_ _)); exact BK138.out) hb); have n2_ := A0_.mk (below_step (by repeat (first | (with_reducible first | exact HB.out | apply bal | apply pdN | apply bdr | refine bst ?_ GE137.out | refine bst ?_ GE138.out) | exact HB.out)) hb); clear BK137; clear BK138; clear HB; have BK137 := n0_; have BK138 := n1_; have HB := n2_; clear n0_ n1_ n2_; (try clear hb); (try clear hb2); (try clear hk); (try clear hi); have hcz28_0 : w27.cell? ⟨gb138, 0, none⟩ = some (.slice none 0 0) := (bkC BK138.out 0).trans rfl; have hcz28_1 : w27.cell? ⟨gb138, 1, none⟩ = some (.int .i64 0) := (bkC BK138.out 1).trans rfl; have hfz28_0 := bkF BK138.out 0; have hfz28_1 := bkF BK138.out 1))
     refine bodyPost_ret (results_cell_row rfl _ _ gb138 64 #[.slice none 0 0, .int .i64 (-1)] (0, 0) _ rfl (by (with_reducible repeat (first | refine bkN ?_ _ | refine bkD ?_ | refine bkA ?_ _)); refine blk_put (cs := #[.slice none 0 0, .int .i64 0]) ?_ 1 _ rfl; (with_reducible repeat (first | refine bkN ?_ _ | refine bkD ?_ | refine bkA ?_ _)); refine blk_put (cs := #[.slice none 0 0, .int .i64 0]) ?_ 0 _ rfl; (with_reducible repeat (first | refine bkN ?_ _ | refine bkD ?_ | refine bkA ?_ _)); exact BK138.out) Try.underlying64 rfl (by kernel_rfl)) rfl ?_
     exact ⟨_, by first | rfl | (simp [errW_none, errW_some] <;> rfl) | (simp [*, errW_none, errW_some] <;> rfl), by first | exact Kd.R_nil _ _ _ _ _ | exact Kd.N_nil _ _ _ _ _ | exact Kd.V_nil _ _ _ _ _ | exact Kd.Q_nil _ _ _ _ _ | exact Kd.S_nil _ _ _ _ _, by repeat (first | (with_reducible first | exact HB.out | apply bal | apply pdN | apply bdr | refine bst ?_ GE137.out | refine bst ?_ GE138.out) | exact HB.out)⟩
    ·rw [if_neg c18] at H
     have c18b0 : decide (0 ≤ t141) = false := decide_eq_false c18
     clear c18
     replace H := Option.bind_eq_some_iff.mp H
     obtain ⟨t142, A290, H⟩ := H
     replace H : (spec_l2grow.f k t142 a1 a2) = some (r1, r2) := H
     have A29 := A0_.mk A290
     clear A290
     have AG := A0_.mk H
     clear H
     go_enter Try.func36, Try.ntmps36
     go_wp2_with (first | ((with_reducible refine gate_dst (N := 3) rfl ?_); (try (refine gate_guard (by rfl) ?_; dsimp only)); refine box_event ?hg (N := 3) ?hd (cs := #[.slice A0_0 l0_0.length c0_0]) (t := 36) ?hr ?_; (case hd => rfl); (case hg => rfl); (case hr => first | (go_simp; done) | (go_simp; rfl)); intro gb137 hg w30 hbox hb; have n0_ := A0_.mk (below_step (by repeat (first | (with_reducible first | exact HB.out | apply bal | apply pdN | apply bdr) | exact HB.out)) hb); have n1_ := A0_.mk (hbox); have n2_ := A0_.mk ((by rw [hg]; exact (below_size (by repeat (first | (with_reducible first | exact HB.out | apply bal | apply pdN | apply bdr) | exact HB.out))) : w.heap.size ≤ gb137)); have n3_ := A0_.mk ((by rw [hg]; exact (below_size (by repeat (first | (with_reducible first | exact HB.out | apply bal | apply pdN | apply bdr) | exact HB.out))) : w.heap.size ≤ gb137)); clear HB; have HB := n0_; have BK137 := n1_; have GW137 := n2_; have GE137 := n3_; clear n0_ n1_ n2_ n3_; clear hb hbox hg) | ((with_reducible refine gate_dst (N := 6) rfl ?_); (try (refine gate_guard (by rfl) ?_; dsimp only)); refine box_event ?hg (N := 6) ?hd (cs := #[.slice none 0 0, .int .i64 0]) (t := 64) ?hr ?_; (case hd => rfl); (case hg => rfl); (case hr => first | (go_simp; done) | (go_simp; rfl)); intro gb138 hg w31 hbox hb; have n0_ := A0_.mk (blk_below (g := gb137) (o := .cells #[.slice A0_0 l0_0.length c0_0] 36 (0, 0)) (by (with_reducible repeat (first | refine bkN ?_ _ | refine bkD ?_ | refine bkA ?_ _)); exact BK137.out) hb); have n1_ := A0_.mk (below_step (by repeat (first | (with_reducible first | exact HB.out | apply bal | apply pdN | apply bdr | refine bst ?_ GE137.out) | exact HB.out)) hb); have n2_ := A0_.mk (hbox); have n3_ := A0_.mk ((by rw [hg]; exact (below_size (by repeat (first | (with_reducible first | exact HB.out | apply bal | apply pdN | apply bdr | refine bst ?_ GE137.out) | exact HB.out))) : w.heap.size ≤ gb138)); have n4_ := A0_.mk ((by rw [hg]; exact (below_size (by repeat (first | (with_reducible first | exact HB.out | apply bal | apply pdN | apply bdr | refine bst ?_ GE137.out) | exact HB.out))) : w.heap.size ≤ gb138)); have n5_ := A0_.mk ((by rw [hg]; exact Nat.ne_of_lt (blk_lt (g := gb137) (o := .cells #[.slice A0_0 l0_0.length c0_0] 36 (0, 0)) (by (with_reducible repeat (first | refine bkN ?_ _ | refine bkD ?_ | refine bkA ?_ _)); exact BK137.out)) : gb137 ≠ gb138)); have n6_ := A0_.mk ((by rw [hg]; exact Nat.ne_of_gt (blk_lt (g := gb137) (o := .cells #[.slice A0_0 l0_0.length c0_0] 36 (0, 0)) (by (with_reducible repeat (first | refine bkN ?_ _ | refine bkD ?_ | refine bkA ?_ _)); exact BK137.out)) : gb138 ≠ gb137)); clear BK137; clear HB; have BK137 := n0_; have HB := n1_; have BK138 := n2_; have GW138 := n3_; have GE138 := n4_; have NB137_138 := n5_; have NB138_137 := n6_; clear n0_ n1_ n2_ n3_ n4_ n5_ n6_; clear hb hbox hg; have hnb32 := NB137_138.out; have hnc32 := NB138_137.out; have hcz33_0 : w31.cell? ⟨gb137, 0, none⟩ = some (.slice A0_0 l0_0.length c0_0) := (bkC BK137.out 0).trans rfl; have hfz33_0 := bkF BK137.out 0) | ((with_reducible refine gate_callee (f := 22) rfl ?_); refine goesL_ (some 10) rfl rfl Try.func22 (by kernel_rfl) rfl #[.agg #[.slice A0_0 l0_0.length c0_0]] rfl (by (try simp only [List.map_toArray, List.map_cons, List.map_nil]); first | done | rfl | (simp only [List.length_drop, List.length_take]; rfl)) ?_; (with_reducible refine (spec_ForestOk.calls k _ _ l0_0 t139 _ ?side1 ?side2 A4.out).mono ?_); (case side1 => repeat (first | exact (Kd.C_below HR0_0.out HB.out) | (with_reducible refine Kd.C_alloc ?_ _) | (with_reducible refine Kd.C_drewN ?_ _) | (with_reducible refine Kd.C_drew ?_))); (case side2 => exact HC0_0.out); rintro e w34 ⟨rfl, hb⟩; refine ⟨_, rfl, ?_⟩; have n0_ := A0_.mk (blk_below (g := gb137) (o := .cells #[.slice A0_0 l0_0.length c0_0] 36 (0, 0)) (by (with_reducible repeat (first | refine bkN ?_ _ | refine bkD ?_ | refine bkA ?_ _)); exact BK137.out) hb); have n1_ := A0_.mk (blk_below (g := gb138) (o := .cells #[.slice none 0 0, .int .i64 0] 64 (0, 0)) (by (with_reducible repeat (first | refine bkN ?_ _ | refine bkD ?_ | refine bkA ?_ _)); exact BK138.out) hb); have n2_ := A0_.mk (below_step (by repeat (first | (with_reducible first | exact HB.out | apply bal | apply pdN | apply bdr | refine bst ?_ GE137.out | refine bst ?_ GE138.out) | exact HB.out)) hb); clear BK137; clear BK138; clear HB; have BK137 := n0_; have BK138 := n1_; have HB := n2_; clear n0_ n1_ n2_; (try clear hb); (try clear hb2); (try clear hk); (try clear hi); have hcz35_0 : w34.cell? ⟨gb137, 0, none⟩ = some (.slice A0_0 l0_0.length c0_0) := (bkC BK137.out 0).trans rfl; have hfz35_0 := bkF BK137.out 0) | (go_at_call 61; (with_reducible refine (spec_l2shape.calls _ _ l0_0 a1 true _ ?side1 ?side2 A6.out).mono ?_); (case side1 => repeat (first | exact (Kd.C_below HR0_0.out HB.out) | (with_reducible refine Kd.C_alloc ?_ _) | (with_reducible refine Kd.C_drewN ?_ _) | (with_reducible refine Kd.C_drew ?_))); (case side2 => exact HC0_0.out); rintro e w36 ⟨rfl, hb⟩; have n0_ := A0_.mk (blk_below (g := gb137) (o := .cells #[.slice A0_0 l0_0.length c0_0] 36 (0, 0)) (by (with_reducible repeat (first | refine bkN ?_ _ | refine bkD ?_ | refine bkA ?_ _)); exact BK137.out) hb); have n1_ := A0_.mk (blk_below (g := gb138) (o := .cells #[.slice none 0 0, .int .i64 0] 64 (0, 0)) (by (with_reducible repeat (first | refine bkN ?_ _ | refine bkD ?_ | refine bkA ?_ _)); exact BK138.out) hb); have n2_ := A0_.mk (below_step (by repeat (first | (with_reducible first | exact HB.out | apply bal | apply pdN | apply bdr | refine bst ?_ GE137.out | refine bst ?_ GE138.out) | exact HB.out)) hb); clear BK137; clear BK138; clear HB; have BK137 := n0_; have BK138 := n1_; have HB := n2_; clear n0_ n1_ n2_; (try clear hb); (try clear hb2); (try clear hk); (try clear hi); have hcz37_0 : w36.cell? ⟨gb137, 0, none⟩ = some (.slice A0_0 l0_0.length c0_0) := (bkC BK137.out 0).trans rfl; have hfz37_0 := bkF BK137.out 0) | (go_at_call 62; (with_reducible refine (spec_l2at.calls k _ _ l0_0 a1 a2 t141 _ ?side1 ?side2 A17.out).mono ?_); (case side1 => repeat (first | exact (Kd.C_below HR0_0.out HB.out) | (with_reducible refine Kd.C_alloc ?_ _) | (with_reducible refine Kd.C_drewN ?_ _) | (with_reducible refine Kd.C_drew ?_))); (case side2 => exact HC0_0.out); rintro e w38 ⟨rfl, hb⟩; have n0_ := A0_.mk (blk_below (g := gb137) (o := .cells #[.slice A0_0 l0_0.length c0_0] 36 (0, 0)) (by (with_reducible repeat (first | refine bkN ?_ _ | refine bkD ?_ | refine bkA ?_ _)); exact BK137.out) hb); have n1_ := A0_.mk (blk_below (g := gb138) (o := .cells #[.slice none 0 0, .int .i64 0] 64 (0, 0)) (by (with_reducible repeat (first | refine bkN ?_ _ | refine bkD ?_ | refine bkA ?_ _)); exact BK138.out) hb); have n2_ := A0_.mk (below_step (by repeat (first | (with_reducible first | exact HB.out | apply bal | apply pdN | apply bdr | refine bst ?_ GE137.out | refine bst ?_ GE138.out) | exact HB.out)) hb); clear BK137; clear BK138; clear HB; have BK137 := n0_; have BK138 := n1_; have HB := n2_; clear n0_ n1_ n2_; (try clear hb); (try clear hb2); (try clear hk); (try clear hi); have hcz39_0 : w38.cell? ⟨gb137, 0, none⟩ = some (.slice A0_0 l0_0.length c0_0) := (bkC BK137.out 0).trans rfl; have hfz39_0 := bkF BK137.out 0) | ((with_reducible refine gate_callee (f := 74) rfl ?_); refine goesL_ (some 32) rfl rfl Try.func74 (by kernel_rfl) rfl #[.agg #[.slice A0_0 l0_0.length c0_0]] rfl (by (try simp only [List.map_toArray, List.map_cons, List.map_nil]); first | done | rfl | (simp only [List.length_drop, List.length_take]; rfl)) ?_; (with_reducible refine (spec_l2copy.calls k _ _ l0_0 t142 _ ?side1 ?side2 A29.out).mono ?_); (case side1 => repeat (first | exact (Kd.C_below HR0_0.out HB.out) | (with_reducible refine Kd.C_alloc ?_ _) | (with_reducible refine Kd.C_drewN ?_ _) | (with_reducible refine Kd.C_drew ?_))); (case side2 => exact HC0_0.out); rintro e w40 ⟨v143, rfl, ho0, hb⟩; refine ⟨_, rfl, ?_⟩; have n0_ := A0_.mk (Kd.R_lower ho0 (below_size (by repeat (first | (with_reducible first | exact HB.out | apply bal | apply pdN | apply bdr | refine bst ?_ GE137.out | refine bst ?_ GE138.out) | exact HB.out)))); have n1_ := A0_.mk (blk_below (g := gb137) (o := .cells #[.slice A0_0 l0_0.length c0_0] 36 (0, 0)) (by (with_reducible repeat (first | refine bkN ?_ _ | refine bkD ?_ | refine bkA ?_ _)); exact BK137.out) hb); have n2_ := A0_.mk (blk_below (g := gb138) (o := .cells #[.slice none 0 0, .int .i64 0] 64 (0, 0)) (by (with_reducible repeat (first | refine bkN ?_ _ | refine bkD ?_ | refine bkA ?_ _)); exact BK138.out) hb); have n3_ := A0_.mk (below_step (by repeat (first | (with_reducible first | exact HB.out | apply bal | apply pdN | apply bdr | refine bst ?_ GE137.out | refine bst ?_ GE138.out) | exact HB.out)) hb); clear BK137; clear BK138; clear HB; have HO144 := n0_; have BK137 := n1_; have BK138 := n2_; have HB := n3_; clear n0_ n1_ n2_ n3_; (try clear hb); (try clear hb2); (try clear hk); (try clear hi); (try clear ho0)) | ((with_reducible refine gate_dst (N := 7) rfl ?_); (try (refine gate_guard (by rfl) ?_; dsimp only)); refine box_event ?hg (N := 7) ?hd (cs := #[.slice none 0 0]) (t := 36) ?hr ?_; (case hd => rfl); (case hg => rfl); (case hr => first | (go_simp; done) | (go_simp; rfl)); intro gb145 hg w41 hbox hb; have n0_ := A0_.mk (Kd.R_below (by (with_reducible repeat (first | apply Kd.R_alloc | apply Kd.R_drewN | apply Kd.R_drew)); exact HO144.out) hb); have n1_ := A0_.mk (blk_below (g := gb137) (o := .cells #[.slice A0_0 l0_0.length c0_0] 36 (0, 0)) (by (with_reducible repeat (first | refine bkN ?_ _ | refine bkD ?_ | refine bkA ?_ _)); exact BK137.out) hb); have n2_ := A0_.mk (blk_below (g := gb138) (o := .cells #[.slice none 0 0, .int .i64 0] 64 (0, 0)) (by (with_reducible repeat (first | refine bkN ?_ _ | refine bkD ?_ | refine bkA ?_ _)); exact BK138.out) hb); have n3_ := A0_.mk (below_step (by repeat (first | (with_reducible first | exact HB.out | apply bal | apply pdN | apply bdr | refine bst ?_ GE137.out | refine bst ?_ GE138.out) | exact HB.out)) hb); have n4_ := A0_.mk (hbox); have n5_ := A0_.mk ((by rw [hg]; exact (below_size (by repeat (first | (with_reducible first | exact HB.out | apply bal | apply pdN | apply bdr | refine bst ?_ GE137.out | refine bst ?_ GE138.out) | exact HB.out))) : w.heap.size ≤ gb145)); have n6_ := A0_.mk ((by rw [hg]; exact (below_size (by repeat (first | (with_reducible first | exact HB.out | apply bal | apply pdN | apply bdr | refine bst ?_ GE137.out | refine bst ?_ GE138.out) | exact HB.out))) : w.heap.size ≤ gb145)); have n7_ := A0_.mk ((by rw [hg]; exact Nat.ne_of_lt (blk_lt (g := gb137) (o := .cells #[.slice A0_0 l0_0.length c0_0] 36 (0, 0)) (by (with_reducible repeat (first | refine bkN ?_ _ | refine bkD ?_ | refine bkA ?_ _)); exact BK137.out)) : gb137 ≠ gb145)); have n8_ := A0_.mk ((by rw [hg]; exact Nat.ne_of_gt (blk_lt (g := gb137) (o := .cells #[.slice A0_0 l0_0.length c0_0] 36 (0, 0)) (by (with_reducible repeat (first | refine bkN ?_ _ | refine bkD ?_ | refine bkA ?_ _)); exact BK137.out)) : gb145 ≠ gb137)); have n9_ := A0_.mk ((by rw [hg]; exact Nat.ne_of_lt (blk_lt (g := gb138) (o := .cells #[.slice none 0 0, .int .i64 0] 64 (0, 0)) (by (with_reducible repeat (first | refine bkN ?_ _ | refine bkD ?_ | refine bkA ?_ _)); exact BK138.out)) : gb138 ≠ gb145)); have n10_ := A0_.mk ((by rw [hg]; exact Nat.ne_of_gt (blk_lt (g := gb138) (o := .cells #[.slice none 0 0, .int .i64 0] 64 (0, 0)) (by (with_reducible repeat (first | refine bkN ?_ _ | refine bkD ?_ | refine bkA ?_ _)); exact BK138.out)) : gb145 ≠ gb138)); clear HO144; clear BK137; clear BK138; clear HB; have HO144 := n0_; have BK137 := n1_; have BK138 := n2_; have HB := n3_; have BK145 := n4_; have GW145 := n5_; have GE145 := n6_; have NB137_145 := n7_; have NB145_137 := n8_; have NB138_145 := n9_; have NB145_138 := n10_; clear n0_ n1_ n2_ n3_ n4_ n5_ n6_ n7_ n8_ n9_ n10_; clear hb hbox hg; obtain ⟨Ao42, co42, eo42⟩ := Kd.R_slice HO144.out; subst eo42; have hnb43 := NB145_137.out; have hnc43 := NB137_145.out; have hnb44 := NB145_138.out; have hnc44 := NB138_145.out; have hcz45_0 : w41.cell? ⟨gb145, 0, none⟩ = some (.slice none 0 0) := (bkC BK145.out 0).trans rfl; have hfz45_0 := bkF BK145.out 0; have hcz46_0 : w41.cell? ⟨gb138, 0, none⟩ = some (.slice none 0 0) := (bkC BK138.out 0).trans rfl; have hcz46_1 : w41.cell? ⟨gb138, 1, none⟩ = some (.int .i64 0) := (bkC BK138.out 1).trans rfl; have hfz46_0 := bkF BK138.out 0; have hfz46_1 := bkF BK138.out 1) | (go_at_call 75; (with_reducible refine (spec_l2grow.calls k gb145 Ao42 co42 t142 a1 a2 r1 r2 w _ ?s1 GE145.out ?s3 ?s4 AG.out).mono ?_); (case s1 => refine bst ?_ GE145.out; exact HB.out); (case s3 => refine blk_put (cs := #[.slice none 0 0]) ?_ 0 _ rfl; exact BK145.out); (case s4 => exact Kd.R_set HO144.out BK145.out (by decide) 0 _); rintro e w60 ⟨rfl, v1_, hbk, hr, hb, hk⟩; have n0_ := A0_.mk (blk_kept (g := gb138) (o := .cells #[.slice none 0 0, .int .i64 0] 64 (0, 0)) (by refine blk_far ?_ NB138_145.out _; exact BK138.out) hk (fun h_ => h_.elim NB138_145.out (Kd.R_ne HO144.out BK138.out (by decide)))); have n1_ := A0_.mk hbk; have n2_ := A0_.mk hr; have n3_ := A0_.mk hb; clear BK138; clear BK145; clear HO144; clear HB; clear hcz45_0 hfz45_0 hcz46_0 hcz46_1 hfz46_0 hfz46_1; have BK138 := n0_; have BK145 := n1_; have HO144 := n2_; have HB := n3_; clear n0_ n1_ n2_ n3_ hbk hr hb hk; obtain ⟨Ao61, co61, eo61⟩ := Kd.R_slice HO144.out; subst eo61; have hcz61_0 : w60.cell? ⟨gb145, 0, none⟩ = some (.slice Ao61 r1.length co61) := (bkC BK145.out 0).trans rfl; have hfz61_0 := bkF BK145.out 0; have hcz62_0 : w60.cell? ⟨gb138, 0, none⟩ = some (.slice none 0 0) := (bkC BK138.out 0).trans rfl; have hcz62_1 : w60.cell? ⟨gb138, 1, none⟩ = some (.int .i64 0) := (bkC BK138.out 1).trans rfl; have hfz62_0 := bkF BK138.out 0; have hfz62_1 := bkF BK138.out 1))
     refine bodyPost_ret (results_cell_row rfl _ _ gb138 64 #[.slice Ao61 r1.length co61, .int .i64 r2] (0, 0) _ rfl (by (with_reducible repeat (first | refine bkN ?_ _ | refine bkD ?_ | refine bkA ?_ _)); refine blk_put (cs := #[.slice Ao61 r1.length co61, .int .i64 0]) ?_ 1 _ rfl; (with_reducible repeat (first | refine bkN ?_ _ | refine bkD ?_ | refine bkA ?_ _)); refine blk_put (cs := #[.slice none 0 0, .int .i64 0]) ?_ 0 _ rfl; (with_reducible repeat (first | refine bkN ?_ _ | refine bkD ?_ | refine bkA ?_ _)); exact BK138.out) Try.underlying64 rfl (by kernel_rfl)) rfl ?_
     exact ⟨_, by first | rfl | (simp; done), by (with_reducible repeat (first | apply Kd.R_alloc | apply Kd.R_drewN | apply Kd.R_drew)); exact Kd.R_set (Kd.R_set HO144.out BK138.out (by decide) 0 _) (blk_put (cs := #[.slice none 0 0, .int .i64 0]) BK138.out 0 _ rfl) (by decide) 1 _, by repeat (first | (with_reducible first | exact HB.out | apply bal | apply pdN | apply bdr | refine bst ?_ GE138.out | refine bst ?_ GE145.out) | exact HB.out)⟩
  ·replace c7 := Bool.eq_false_iff.mpr c7
   subst c7
   have H1 : (some (([] : List (S75)), (-1))) = some (r1, r2) := by rw [if_neg (show ¬ (false = true) by decide)] at H; exact H
   clear H
   have H := H1
   clear H1
   simp only [Option.some.injEq, Prod.mk.injEq] at H
   obtain ⟨rfl, rfl⟩ := H
   go_enter Try.func36, Try.ntmps36
   go_wp2_with (first | ((with_reducible refine gate_dst (N := 3) rfl ?_); (try (refine gate_guard (by rfl) ?_; dsimp only)); refine box_event ?hg (N := 3) ?hd (cs := #[.slice A0_0 l0_0.length c0_0]) (t := 36) ?hr ?_; (case hd => rfl); (case hg => rfl); (case hr => first | (go_simp; done) | (go_simp; rfl)); intro gb137 hg w47 hbox hb; have n0_ := A0_.mk (below_step (by repeat (first | (with_reducible first | exact HB.out | apply bal | apply pdN | apply bdr) | exact HB.out)) hb); have n1_ := A0_.mk (hbox); have n2_ := A0_.mk ((by rw [hg]; exact (below_size (by repeat (first | (with_reducible first | exact HB.out | apply bal | apply pdN | apply bdr) | exact HB.out))) : w.heap.size ≤ gb137)); have n3_ := A0_.mk ((by rw [hg]; exact (below_size (by repeat (first | (with_reducible first | exact HB.out | apply bal | apply pdN | apply bdr) | exact HB.out))) : w.heap.size ≤ gb137)); clear HB; have HB := n0_; have BK137 := n1_; have GW137 := n2_; have GE137 := n3_; clear n0_ n1_ n2_ n3_; clear hb hbox hg) | ((with_reducible refine gate_dst (N := 6) rfl ?_); (try (refine gate_guard (by rfl) ?_; dsimp only)); refine box_event ?hg (N := 6) ?hd (cs := #[.slice none 0 0, .int .i64 0]) (t := 64) ?hr ?_; (case hd => rfl); (case hg => rfl); (case hr => first | (go_simp; done) | (go_simp; rfl)); intro gb138 hg w48 hbox hb; have n0_ := A0_.mk (blk_below (g := gb137) (o := .cells #[.slice A0_0 l0_0.length c0_0] 36 (0, 0)) (by (with_reducible repeat (first | refine bkN ?_ _ | refine bkD ?_ | refine bkA ?_ _)); exact BK137.out) hb); have n1_ := A0_.mk (below_step (by repeat (first | (with_reducible first | exact HB.out | apply bal | apply pdN | apply bdr | refine bst ?_ GE137.out) | exact HB.out)) hb); have n2_ := A0_.mk (hbox); have n3_ := A0_.mk ((by rw [hg]; exact (below_size (by repeat (first | (with_reducible first | exact HB.out | apply bal | apply pdN | apply bdr | refine bst ?_ GE137.out) | exact HB.out))) : w.heap.size ≤ gb138)); have n4_ := A0_.mk ((by rw [hg]; exact (below_size (by repeat (first | (with_reducible first | exact HB.out | apply bal | apply pdN | apply bdr | refine bst ?_ GE137.out) | exact HB.out))) : w.heap.size ≤ gb138)); have n5_ := A0_.mk ((by rw [hg]; exact Nat.ne_of_lt (blk_lt (g := gb137) (o := .cells #[.slice A0_0 l0_0.length c0_0] 36 (0, 0)) (by (with_reducible repeat (first | refine bkN ?_ _ | refine bkD ?_ | refine bkA ?_ _)); exact BK137.out)) : gb137 ≠ gb138)); have n6_ := A0_.mk ((by rw [hg]; exact Nat.ne_of_gt (blk_lt (g := gb137) (o := .cells #[.slice A0_0 l0_0.length c0_0] 36 (0, 0)) (by (with_reducible repeat (first | refine bkN ?_ _ | refine bkD ?_ | refine bkA ?_ _)); exact BK137.out)) : gb138 ≠ gb137)); clear BK137; clear HB; have BK137 := n0_; have HB := n1_; have BK138 := n2_; have GW138 := n3_; have GE138 := n4_; have NB137_138 := n5_; have NB138_137 := n6_; clear n0_ n1_ n2_ n3_ n4_ n5_ n6_; clear hb hbox hg; have hnb49 := NB137_138.out; have hnc49 := NB138_137.out; have hcz50_0 : w48.cell? ⟨gb137, 0, none⟩ = some (.slice A0_0 l0_0.length c0_0) := (bkC BK137.out 0).trans rfl; have hfz50_0 := bkF BK137.out 0) | ((with_reducible refine gate_callee (f := 22) rfl ?_); refine goesL_ (some 10) rfl rfl Try.func22 (by kernel_rfl) rfl #[.agg #[.slice A0_0 l0_0.length c0_0]] rfl (by (try simp only [List.map_toArray, List.map_cons, List.map_nil]); first | done | rfl | (simp only [List.length_drop, List.length_take]; rfl)) ?_; (with_reducible refine (spec_ForestOk.calls k _ _ l0_0 t139 _ ?side1 ?side2 A4.out).mono ?_); (case side1 => repeat (first | exact (Kd.C_below HR0_0.out HB.out) | (with_reducible refine Kd.C_alloc ?_ _) | (with_reducible refine Kd.C_drewN ?_ _) | (with_reducible refine Kd.C_drew ?_))); (case side2 => exact HC0_0.out); rintro e w51 ⟨rfl, hb⟩; refine ⟨_, rfl, ?_⟩; have n0_ := A0_.mk (blk_below (g := gb137) (o := .cells #[.slice A0_0 l0_0.length c0_0] 36 (0, 0)) (by (with_reducible repeat (first | refine bkN ?_ _ | refine bkD ?_ | refine bkA ?_ _)); exact BK137.out) hb); have n1_ := A0_.mk (blk_below (g := gb138) (o := .cells #[.slice none 0 0, .int .i64 0] 64 (0, 0)) (by (with_reducible repeat (first | refine bkN ?_ _ | refine bkD ?_ | refine bkA ?_ _)); exact BK138.out) hb); have n2_ := A0_.mk (below_step (by repeat (first | (with_reducible first | exact HB.out | apply bal | apply pdN | apply bdr | refine bst ?_ GE137.out | refine bst ?_ GE138.out) | exact HB.out)) hb); clear BK137; clear BK138; clear HB; have BK137 := n0_; have BK138 := n1_; have HB := n2_; clear n0_ n1_ n2_; (try clear hb); (try clear hb2); (try clear hk); (try clear hi); have hcz52_0 : w51.cell? ⟨gb137, 0, none⟩ = some (.slice A0_0 l0_0.length c0_0) := (bkC BK137.out 0).trans rfl; have hfz52_0 := bkF BK137.out 0) | (go_at_call 61; (with_reducible refine (spec_l2shape.calls _ _ l0_0 a1 false _ ?side1 ?side2 A6.out).mono ?_); (case side1 => repeat (first | exact (Kd.C_below HR0_0.out HB.out) | (with_reducible refine Kd.C_alloc ?_ _) | (with_reducible refine Kd.C_drewN ?_ _) | (with_reducible refine Kd.C_drew ?_))); (case side2 => exact HC0_0.out); rintro e w53 ⟨rfl, hb⟩; have n0_ := A0_.mk (blk_below (g := gb137) (o := .cells #[.slice A0_0 l0_0.length c0_0] 36 (0, 0)) (by (with_reducible repeat (first | refine bkN ?_ _ | refine bkD ?_ | refine bkA ?_ _)); exact BK137.out) hb); have n1_ := A0_.mk (blk_below (g := gb138) (o := .cells #[.slice none 0 0, .int .i64 0] 64 (0, 0)) (by (with_reducible repeat (first | refine bkN ?_ _ | refine bkD ?_ | refine bkA ?_ _)); exact BK138.out) hb); have n2_ := A0_.mk (below_step (by repeat (first | (with_reducible first | exact HB.out | apply bal | apply pdN | apply bdr | refine bst ?_ GE137.out | refine bst ?_ GE138.out) | exact HB.out)) hb); clear BK137; clear BK138; clear HB; have BK137 := n0_; have BK138 := n1_; have HB := n2_; clear n0_ n1_ n2_; (try clear hb); (try clear hb2); (try clear hk); (try clear hi); have hcz54_0 : w53.cell? ⟨gb138, 0, none⟩ = some (.slice none 0 0) := (bkC BK138.out 0).trans rfl; have hcz54_1 : w53.cell? ⟨gb138, 1, none⟩ = some (.int .i64 0) := (bkC BK138.out 1).trans rfl; have hfz54_0 := bkF BK138.out 0; have hfz54_1 := bkF BK138.out 1))
   refine bodyPost_ret (results_cell_row rfl _ _ gb138 64 #[.slice none 0 0, .int .i64 (-1)] (0, 0) _ rfl (by (with_reducible repeat (first | refine bkN ?_ _ | refine bkD ?_ | refine bkA ?_ _)); refine blk_put (cs := #[.slice none 0 0, .int .i64 0]) ?_ 1 _ rfl; (with_reducible repeat (first | refine bkN ?_ _ | refine bkD ?_ | refine bkA ?_ _)); refine blk_put (cs := #[.slice none 0 0, .int .i64 0]) ?_ 0 _ rfl; (with_reducible repeat (first | refine bkN ?_ _ | refine bkD ?_ | refine bkA ?_ _)); exact BK138.out) Try.underlying64 rfl (by kernel_rfl)) rfl ?_
   exact ⟨_, by first | rfl | (simp [errW_none, errW_some] <;> rfl) | (simp [*, errW_none, errW_some] <;> rfl), by first | exact Kd.R_nil _ _ _ _ _ | exact Kd.N_nil _ _ _ _ _ | exact Kd.V_nil _ _ _ _ _ | exact Kd.Q_nil _ _ _ _ _ | exact Kd.S_nil _ _ _ _ _, by repeat (first | (with_reducible first | exact HB.out | apply bal | apply pdN | apply bdr | refine bst ?_ GE137.out | refine bst ?_ GE138.out) | exact HB.out)⟩
 ·rw [if_neg c5] at H
  have c5b0 : (t139 == 0) = false := beq_eq_false_iff_ne.mpr c5
  have c5b1 : (t139 != 0) = true := bne_iff_ne.mpr c5
  simp only [Option.some.injEq, Prod.mk.injEq] at H
  obtain ⟨rfl, rfl⟩ := H
  go_enter Try.func36, Try.ntmps36
  go_wp2_with (first | ((with_reducible refine gate_dst (N := 3) rfl ?_); (try (refine gate_guard (by rfl) ?_; dsimp only)); refine box_event ?hg (N := 3) ?hd (cs := #[.slice A0_0 l0_0.length c0_0]) (t := 36) ?hr ?_; (case hd => rfl); (case hg => rfl); (case hr => first | (go_simp; done) | (go_simp; rfl)); intro gb137 hg w55 hbox hb; have n0_ := A0_.mk (below_step (by repeat (first | (with_reducible first | exact HB.out | apply bal | apply pdN | apply bdr) | exact HB.out)) hb); have n1_ := A0_.mk (hbox); have n2_ := A0_.mk ((by rw [hg]; exact (below_size (by repeat (first | (with_reducible first | exact HB.out | apply bal | apply pdN | apply bdr) | exact HB.out))) : w.heap.size ≤ gb137)); have n3_ := A0_.mk ((by rw [hg]; exact (below_size (by repeat (first | (with_reducible first | exact HB.out | apply bal | apply pdN | apply bdr) | exact HB.out))) : w.heap.size ≤ gb137)); clear HB; have HB := n0_; have BK137 := n1_; have GW137 := n2_; have GE137 := n3_; clear n0_ n1_ n2_ n3_; clear hb hbox hg) | ((with_reducible refine gate_dst (N := 6) rfl ?_); (try (refine gate_guard (by rfl) ?_; dsimp only)); refine box_event ?hg (N := 6) ?hd (cs := #[.slice none 0 0, .int .i64 0]) (t := 64) ?hr ?_; (case hd => rfl); (case hg => rfl); (case hr => first | (go_simp; done) | (go_simp; rfl)); intro gb138 hg w56 hbox hb; have n0_ := A0_.mk (blk_below (g := gb137) (o := .cells #[.slice A0_0 l0_0.length c0_0] 36 (0, 0)) (by (with_reducible repeat (first | refine bkN ?_ _ | refine bkD ?_ | refine bkA ?_ _)); exact BK137.out) hb); have n1_ := A0_.mk (below_step (by repeat (first | (with_reducible first | exact HB.out | apply bal | apply pdN | apply bdr | refine bst ?_ GE137.out) | exact HB.out)) hb); have n2_ := A0_.mk (hbox); have n3_ := A0_.mk ((by rw [hg]; exact (below_size (by repeat (first | (with_reducible first | exact HB.out | apply bal | apply pdN | apply bdr | refine bst ?_ GE137.out) | exact HB.out))) : w.heap.size ≤ gb138)); have n4_ := A0_.mk ((by rw [hg]; exact (below_size (by repeat (first | (with_reducible first | exact HB.out | apply bal | apply pdN | apply bdr | refine bst ?_ GE137.out) | exact HB.out))) : w.heap.size ≤ gb138)); have n5_ := A0_.mk ((by rw [hg]; exact Nat.ne_of_lt (blk_lt (g := gb137) (o := .cells #[.slice A0_0 l0_0.length c0_0] 36 (0, 0)) (by (with_reducible repeat (first | refine bkN ?_ _ | refine bkD ?_ | refine bkA ?_ _)); exact BK137.out)) : gb137 ≠ gb138)); have n6_ := A0_.mk ((by rw [hg]; exact Nat.ne_of_gt (blk_lt (g := gb137) (o := .cells #[.slice A0_0 l0_0.length c0_0] 36 (0, 0)) (by (with_reducible repeat (first | refine bkN ?_ _ | refine bkD ?_ | refine bkA ?_ _)); exact BK137.out)) : gb138 ≠ gb137)); clear BK137; clear HB; have BK137 := n0_; have HB := n1_; have BK138 := n2_; have GW138 := n3_; have GE138 := n4_; have NB137_138 := n5_; have NB138_137 := n6_; clear n0_ n1_ n2_ n3_ n4_ n5_ n6_; clear hb hbox hg; have hnb57 := NB137_138.out; have hnc57 := NB138_137.out; have hcz58_0 : w56.cell? ⟨gb137, 0, none⟩ = some (.slice A0_0 l0_0.length c0_0) := (bkC BK137.out 0).trans rfl; have hfz58_0 := bkF BK137.out 0) | ((with_reducible refine gate_callee (f := 22) rfl ?_); refine goesL_ (some 10) rfl rfl Try.func22 (by kernel_rfl) rfl #[.agg #[.slice A0_0 l0_0.length c0_0]] rfl (by (try simp only [List.map_toArray, List.map_cons, List.map_nil]); first | done | rfl | (simp only [List.length_drop, List.length_take]; rfl)) ?_; (with_reducible refine (spec_ForestOk.calls k _ _ l0_0 t139 _ ?side1 ?side2 A4.out).mono ?_); (case side1 => repeat (first | exact (Kd.C_below HR0_0.out HB.out) | (with_reducible refine Kd.C_alloc ?_ _) | (with_reducible refine Kd.C_drewN ?_ _) | (with_reducible refine Kd.C_drew ?_))); (case side2 => exact HC0_0.out); rintro e w59 ⟨rfl, hb⟩; refine ⟨_, rfl, ?_⟩; have n0_ := A0_.mk (blk_below (g := gb137) (o := .cells #[.slice A0_0 l0_0.length c0_0] 36 (0, 0)) (by (with_reducible repeat (first | refine bkN ?_ _ | refine bkD ?_ | refine bkA ?_ _)); exact BK137.out) hb); have n1_ := A0_.mk (blk_below (g := gb138) (o := .cells #[.slice none 0 0, .int .i64 0] 64 (0, 0)) (by (with_reducible repeat (first | refine bkN ?_ _ | refine bkD ?_ | refine bkA ?_ _)); exact BK138.out) hb); have n2_ := A0_.mk (below_step (by repeat (first | (with_reducible first | exact HB.out | apply bal | apply pdN | apply bdr | refine bst ?_ GE137.out | refine bst ?_ GE138.out) | exact HB.out)) hb); clear BK137; clear BK138; clear HB; have BK137 := n0_; have BK138 := n1_; have HB := n2_; clear n0_ n1_ n2_; (try clear hb); (try clear hb2); (try clear hk); (try clear hi); have hcz60_0 : w59.cell? ⟨gb138, 0, none⟩ = some (.slice none 0 0) := (bkC BK138.out 0).trans rfl; have hcz60_1 : w59.cell? ⟨gb138, 1, none⟩ = some (.int .i64 0) := (bkC BK138.out 1).trans rfl; have hfz60_0 := bkF BK138.out 0; have hfz60_1 := bkF BK138.out 1))
  refine bodyPost_ret (results_cell_row rfl _ _ gb138 64 #[.slice none 0 0, .int .i64 (-1)] (0, 0) _ rfl (by (with_reducible repeat (first | refine bkN ?_ _ | refine bkD ?_ | refine bkA ?_ _)); refine blk_put (cs := #[.slice none 0 0, .int .i64 0]) ?_ 1 _ rfl; (with_reducible repeat (first | refine bkN ?_ _ | refine bkD ?_ | refine bkA ?_ _)); refine blk_put (cs := #[.slice none 0 0, .int .i64 0]) ?_ 0 _ rfl; (with_reducible repeat (first | refine bkN ?_ _ | refine bkD ?_ | refine bkA ?_ _)); exact BK138.out) Try.underlying64 rfl (by kernel_rfl)) rfl ?_
  exact ⟨_, by first | rfl | (simp [errW_none, errW_some] <;> rfl) | (simp [*, errW_none, errW_some] <;> rfl), by first | exact Kd.R_nil _ _ _ _ _ | exact Kd.N_nil _ _ _ _ _ | exact Kd.V_nil _ _ _ _ _ | exact Kd.Q_nil _ _ _ _ _ | exact Kd.S_nil _ _ _ _ _, by repeat (first | (with_reducible first | exact HB.out | apply bal | apply pdN | apply bdr | refine bst ?_ GE137.out | refine bst ?_ GE138.out) | exact HB.out)⟩

end Go.Proofs.Ytclploookcjcbaa.PGro
