/- Proved: what the program's ActOk comes to, where its table of fields lies as the program's text lays it. -/
import Derived.Test.YtclploookcjcbaaDoorPActS1
namespace Go.Proofs.YtclploookcjcbaaDoor.PAct
open Go.RowKit Go.Proofs.YtclploookcjcbaaDoorW.PrintWords Go.Proofs.YtclploookcjcbaaDoorW.PrintLast Go.Proofs.YtclploookcjcbaaDoorW.PrintMore
attribute [local go_sem] max2_int min2_int max_two min_two max_three min_three max_four min_four   -- for this text's walks alone
set_option linter.unusedVariables false
set_option linter.unusedSimpArgs false
set_option maxHeartbeats 16000000 in
set_option maxRecDepth 100000 in
theorem impl_ActOk.calls {w : World} (hG : Lies w) (k : Nat) (a0_0 : Int) (a0_1 : Int) (a0_2 : Int) (a0_3 : Int) (a0_4 : Int) (a0_5 : Int) (a0_6 : Nat) (a0_7 : ByteArray) (a0_8 : Int) (a0_9 : Int) (a0_10 : Int) (a0_11 : Nat) (a0_12 : ByteArray) (a0_13 : Int) (r : Bool) (h : impl_ActOk.f k a0_0 a0_1 a0_2 a0_3 a0_4 a0_5 a0_6 a0_7 a0_8 a0_9 a0_10 a0_11 a0_12 a0_13 = some r) :
    Calls Tryd.prog 8 #[.agg #[.int .i64 a0_0, .int .i64 a0_1, .int .i64 a0_2, .int .i64 a0_3, .int .i64 a0_4, .int .i64 a0_5, .float .f64 a0_6, .string a0_7, .int .i64 a0_8, .int .i64 a0_9, .int .i64 a0_10, .float .f64 a0_11, .string a0_12, .int .i64 a0_13]] w fun e w' => e = .returned (.bool r) ∧ Below w.heap.size w w' := by
  have hu31 := Tryd.underlying31
  have hu29 := Tryd.underlying29
  have hu52 := Tryd.underlying52
  have HB := Aside0.mk (Below.refl w.heap.size w)
  unfold impl_ActOk.f at h
  have H' := Aside0.mk h
  clear h
  go_enter Tryd.func8, Tryd.ntmps8
  go_upto_region 1 with (first | ((with_reducible refine gate_dst (N := 1) rfl ?_); (try (refine gate_guard (by rfl) ?_; dsimp only)); refine box_event ?hg (N := 1) ?hd (cs := #[.int .i64 a0_0, .int .i64 a0_1, .int .i64 a0_2, .int .i64 a0_3, .int .i64 a0_4, .int .i64 a0_5, .float .f64 a0_6, .string a0_7, .int .i64 a0_8, .int .i64 a0_9, .int .i64 a0_10, .float .f64 a0_11, .string a0_12, .int .i64 a0_13]) (t := 31) ?hr ?_; (case hd => rfl); (case hg => rfl); (case hr => first | (go_simp; done) | (go_simp; rfl)); intro gA hg w3 hbox hb; have n0_ := Aside0.mk (below_step (by repeat (first | (with_reducible first | exact HB.out | apply below_alloc | apply pw_below_drewN | apply below_drew1) | exact HB.out)) hb); have n1_ := Aside0.mk hbox; have n2_ := Aside0.mk (by rw [hg]; exact below_size (by repeat (first | (with_reducible first | exact HB.out | apply below_alloc | apply pw_below_drewN | apply below_drew1) | exact HB.out)) : w.heap.size ≤ gA); clear HB; have HB := n0_; have BKgA := n1_; have GEgA := n2_; clear n0_ n1_ n2_; clear hb hbox hg))
  (try simp only [Act.put, List.setIfInBounds_toArray, List.set_cons_zero, List.set_cons_succ])
  have z3_0 : w3.cell? ⟨gA, 0, none⟩ = some (.int .i64 a0_0) := (blk_cell BKgA.out 0).trans rfl
  have z3_1 : w3.cell? ⟨gA, 1, none⟩ = some (.int .i64 a0_1) := (blk_cell BKgA.out 1).trans rfl
  have z3_2 : w3.cell? ⟨gA, 2, none⟩ = some (.int .i64 a0_2) := (blk_cell BKgA.out 2).trans rfl
  have z3_3 : w3.cell? ⟨gA, 3, none⟩ = some (.int .i64 a0_3) := (blk_cell BKgA.out 3).trans rfl
  have z3_4 : w3.cell? ⟨gA, 4, none⟩ = some (.int .i64 a0_4) := (blk_cell BKgA.out 4).trans rfl
  have z3_5 : w3.cell? ⟨gA, 5, none⟩ = some (.int .i64 a0_5) := (blk_cell BKgA.out 5).trans rfl
  have z3_6 : w3.cell? ⟨gA, 6, none⟩ = some (.float .f64 a0_6) := (blk_cell BKgA.out 6).trans rfl
  have z3_7 : w3.cell? ⟨gA, 7, none⟩ = some (.string a0_7) := (blk_cell BKgA.out 7).trans rfl
  have z3_8 : w3.cell? ⟨gA, 8, none⟩ = some (.int .i64 a0_8) := (blk_cell BKgA.out 8).trans rfl
  have z3_9 : w3.cell? ⟨gA, 9, none⟩ = some (.int .i64 a0_9) := (blk_cell BKgA.out 9).trans rfl
  have z3_10 : w3.cell? ⟨gA, 10, none⟩ = some (.int .i64 a0_10) := (blk_cell BKgA.out 10).trans rfl
  have z3_11 : w3.cell? ⟨gA, 11, none⟩ = some (.float .f64 a0_11) := (blk_cell BKgA.out 11).trans rfl
  have z3_12 : w3.cell? ⟨gA, 12, none⟩ = some (.string a0_12) := (blk_cell BKgA.out 12).trans rfl
  have z3_13 : w3.cell? ⟨gA, 13, none⟩ = some (.int .i64 a0_13) := (blk_cell BKgA.out 13).trans rfl
  by_cases c1 : a0_0 < 1
  · have H := H'.out
    rw [if_pos c1] at H
    obtain rfl := Option.some.inj H
    have c1b := decide_eq_true c1
    go_wp2
    go_ret
    exact ⟨by first | rfl | simp, HB.out⟩
  by_cases c2 : a0_0 > 9
  · have H := H'.out
    rw [if_neg c1, if_pos c2] at H
    obtain rfl := Option.some.inj H
    have c1b := decide_eq_false c1
    have c2b : decide (9 < a0_0) = true := decide_eq_true c2
    go_wp2
    go_ret
    exact ⟨by first | rfl | simp, HB.out⟩
  have H := H'.out
  rw [if_neg c1, if_neg c2] at H
  clear H'
  have c1b := decide_eq_false c1
  have c2b : decide (9 < a0_0) = false := decide_eq_false (by omega)
  have hop : 0 ≤ a0_0 ∧ a0_0 < 10 := by omega
  have hT : w3.cell? ⟨0, a0_0.toNat, none⟩ = some (.int .i64 (tabF a0_0)) := by
    have hh := (hG.below HB.out).2 a0_0.toNat (by omega)
    rwa [Int.toNat_of_nonneg hop.1] at hh
  replace H := Option.bind_eq_some_iff.mp H
  obtain ⟨bK, hK, H⟩ := H
  replace H := Option.bind_eq_some_iff.mp H
  obtain ⟨bV, hV, H⟩ := H
  have HR := Aside0.mk (Option.some.inj H)
  clear H
  generalize hf : tabF a0_0 = f at hT HR
  have h0a : (0 ≤ a0_0) = True := eq_true hop.1
  have h0b : (a0_0 < 10) = True := eq_true hop.2
  go_upto_region 4 with (first | ((with_reducible refine gate_dst (N := 3) rfl ?_); (try (refine gate_guard (by rfl) ?_; dsimp only)); refine box_event ?hg (N := 3) ?hd (cs := #[.int .i64 0]) (t := 3) ?hr ?_; (case hd => rfl); (case hg => rfl); (case hr => first | (go_simp; done) | (go_simp; rfl)); intro gF hg w4 hbox hb; have n0_ := Aside0.mk (below_step (by repeat (first | (with_reducible first | exact HB.out | apply below_alloc | apply pw_below_drewN | apply below_drew1) | exact HB.out)) hb); have n1_ := Aside0.mk hbox; have n2_ := Aside0.mk (by rw [hg]; exact below_size (by repeat (first | (with_reducible first | exact HB.out | apply below_alloc | apply pw_below_drewN | apply below_drew1) | exact HB.out)) : w.heap.size ≤ gF); have n3_ := Aside0.mk (blk_below BKgA.out hb); have n4_ := Aside0.mk (by rw [hg]; exact Nat.ne_of_lt (blk_lt BKgA.out) : gA ≠ gF); clear BKgA; have BKgA := n3_; have NAF := n4_; clear n3_ n4_; have hT4 : w4.cell? ⟨0, a0_0.toNat, none⟩ = some (.int .i64 f) := (hb.cell (World.block_lt_of_cell? _ _ hT)).trans hT; clear HB; have HB := n0_; have BKgF := n1_; have GEgF := n2_; clear n0_ n1_ n2_; clear hb hbox hg; have z4F_0 : w4.cell? ⟨gF, 0, none⟩ = some (.int .i64 0) := (blk_cell BKgF.out 0).trans rfl; have f4F_0 := blk_frozen BKgF.out 0))
  obtain ⟨w5, hw5⟩ : ∃ w5_ : World, w5_ = w4.setCell ⟨gF, 0, none⟩ (.int .i64 f) := ⟨_, rfl⟩
  rw [← hw5]
  have BK5 := Aside0.mk (show w5.heap[gA]? = some (.cells #[.int .i64 a0_0, .int .i64 a0_1, .int .i64 a0_2, .int .i64 a0_3, .int .i64 a0_4, .int .i64 a0_5, .float .f64 a0_6, .string a0_7, .int .i64 a0_8, .int .i64 a0_9, .int .i64 a0_10, .float .f64 a0_11, .string a0_12, .int .i64 a0_13] 31 (0, 0)) from by rw [hw5]; exact blk_far BKgA.out NAF.out _)
  have HB5 := Aside0.mk (show Below w.heap.size w w5 from by rw [hw5]; exact below_set HB.out GEgF.out)
  have hF5 : w5.cell? ⟨gF, 0, none⟩ = some (.int .i64 f) := by rw [hw5]; exact (blk_cell (blk_put BKgF.out 0 (.int .i64 f) (cs' := #[.int .i64 f]) rfl) 0).trans rfl
  clear hw5 z4F_0 f4F_0 hT4 BKgA BKgF HB z3_0 z3_1 z3_2 z3_3 z3_4 z3_5 z3_6 z3_7 z3_8 z3_9 z3_10 z3_11 z3_12 z3_13
  have HB := HB5
  have BKgA := BK5
  clear HB5 BK5
  have z5_0 : w5.cell? ⟨gA, 0, none⟩ = some (.int .i64 a0_0) := (blk_cell BKgA.out 0).trans rfl
  have z5_1 : w5.cell? ⟨gA, 1, none⟩ = some (.int .i64 a0_1) := (blk_cell BKgA.out 1).trans rfl
  have z5_2 : w5.cell? ⟨gA, 2, none⟩ = some (.int .i64 a0_2) := (blk_cell BKgA.out 2).trans rfl
  have z5_3 : w5.cell? ⟨gA, 3, none⟩ = some (.int .i64 a0_3) := (blk_cell BKgA.out 3).trans rfl
  have z5_4 : w5.cell? ⟨gA, 4, none⟩ = some (.int .i64 a0_4) := (blk_cell BKgA.out 4).trans rfl
  have z5_5 : w5.cell? ⟨gA, 5, none⟩ = some (.int .i64 a0_5) := (blk_cell BKgA.out 5).trans rfl
  have z5_6 : w5.cell? ⟨gA, 6, none⟩ = some (.float .f64 a0_6) := (blk_cell BKgA.out 6).trans rfl
  have z5_7 : w5.cell? ⟨gA, 7, none⟩ = some (.string a0_7) := (blk_cell BKgA.out 7).trans rfl
  have z5_8 : w5.cell? ⟨gA, 8, none⟩ = some (.int .i64 a0_8) := (blk_cell BKgA.out 8).trans rfl
  have z5_9 : w5.cell? ⟨gA, 9, none⟩ = some (.int .i64 a0_9) := (blk_cell BKgA.out 9).trans rfl
  have z5_10 : w5.cell? ⟨gA, 10, none⟩ = some (.int .i64 a0_10) := (blk_cell BKgA.out 10).trans rfl
  have z5_11 : w5.cell? ⟨gA, 11, none⟩ = some (.float .f64 a0_11) := (blk_cell BKgA.out 11).trans rfl
  have z5_12 : w5.cell? ⟨gA, 12, none⟩ = some (.string a0_12) := (blk_cell BKgA.out 12).trans rfl
  have z5_13 : w5.cell? ⟨gA, 13, none⟩ = some (.int .i64 a0_13) := (blk_cell BKgA.out 13).trans rfl
  go_upto_region 5 with (first | ((with_reducible refine gate_dst (N := 18) rfl ?_); refine mkfL_ (some 18) rfl rfl rfl #[.pointer (some ⟨gF, 0, none⟩)] rfl ?_))
  go_upto_region 6 with (first | ((with_reducible refine gate_dst (N := 19) rfl ?_); refine mkfL_ (some 19) rfl rfl rfl #[.pointer (some ⟨gF, 0, none⟩)] rfl ?_))
  by_cases Q1 : numF f a0_1 99 1 = false
  · have B1 := Q1
    go_wp2_with (first | ((with_reducible refine gate_dst (N := 23) rfl ?_); (try (refine gate_guard (by rfl) ?_; dsimp only)); refine goesC_ (some 23) rfl rfl (by rfl) Tryd.func22 (by kernel_rfl) rfl #[.int .i64 a0_1, .int .i64 99, .int .i64 1, .pointer (some ⟨gF, 0, none⟩)] rfl (by simp [Act.eval]) ?_; refine (num_calls f a0_1 99 1 gF _ hF5).mono ?_; rintro e _ ⟨rfl, rfl⟩; refine ⟨_, rfl, ?_⟩; rw [B1]))
    go_ret
    exact ⟨by rw [← HR.out]; simp [B1], HB.out⟩
  have B1 : numF f a0_1 99 1 = true := by simpa using Q1
  clear Q1
  by_cases Q2 : numF f a0_2 49 2 = false
  · have B2 := Q2
    go_wp2_with (first | ((with_reducible refine gate_dst (N := 23) rfl ?_); (try (refine gate_guard (by rfl) ?_; dsimp only)); refine goesC_ (some 23) rfl rfl (by rfl) Tryd.func22 (by kernel_rfl) rfl #[.int .i64 a0_1, .int .i64 99, .int .i64 1, .pointer (some ⟨gF, 0, none⟩)] rfl (by simp [Act.eval]) ?_; refine (num_calls f a0_1 99 1 gF _ hF5).mono ?_; rintro e _ ⟨rfl, rfl⟩; refine ⟨_, rfl, ?_⟩; rw [B1]) | ((with_reducible refine gate_dst (N := 28) rfl ?_); (try (refine gate_guard (by rfl) ?_; dsimp only)); refine goesC_ (some 28) rfl rfl (by rfl) Tryd.func22 (by kernel_rfl) rfl #[.int .i64 a0_2, .int .i64 49, .int .i64 2, .pointer (some ⟨gF, 0, none⟩)] rfl (by simp [Act.eval]) ?_; refine (num_calls f a0_2 49 2 gF _ hF5).mono ?_; rintro e _ ⟨rfl, rfl⟩; refine ⟨_, rfl, ?_⟩; rw [B2]))
    go_ret
    exact ⟨by rw [← HR.out]; simp [B1, B2], HB.out⟩
  have B2 : numF f a0_2 49 2 = true := by simpa using Q2
  clear Q2
  by_cases Q3 : numF f a0_3 1000000000000 4 = false
  · have B3 := Q3
    go_wp2_with (first | ((with_reducible refine gate_dst (N := 23) rfl ?_); (try (refine gate_guard (by rfl) ?_; dsimp only)); refine goesC_ (some 23) rfl rfl (by rfl) Tryd.func22 (by kernel_rfl) rfl #[.int .i64 a0_1, .int .i64 99, .int .i64 1, .pointer (some ⟨gF, 0, none⟩)] rfl (by simp [Act.eval]) ?_; refine (num_calls f a0_1 99 1 gF _ hF5).mono ?_; rintro e _ ⟨rfl, rfl⟩; refine ⟨_, rfl, ?_⟩; rw [B1]) | ((with_reducible refine gate_dst (N := 28) rfl ?_); (try (refine gate_guard (by rfl) ?_; dsimp only)); refine goesC_ (some 28) rfl rfl (by rfl) Tryd.func22 (by kernel_rfl) rfl #[.int .i64 a0_2, .int .i64 49, .int .i64 2, .pointer (some ⟨gF, 0, none⟩)] rfl (by simp [Act.eval]) ?_; refine (num_calls f a0_2 49 2 gF _ hF5).mono ?_; rintro e _ ⟨rfl, rfl⟩; refine ⟨_, rfl, ?_⟩; rw [B2]) | ((with_reducible refine gate_dst (N := 34) rfl ?_); (try (refine gate_guard (by rfl) ?_; dsimp only)); refine goesC_ (some 34) rfl rfl (by rfl) Tryd.func22 (by kernel_rfl) rfl #[.int .i64 a0_3, .int .i64 1000000000000, .int .i64 4, .pointer (some ⟨gF, 0, none⟩)] rfl (by simp [Act.eval]) ?_; refine (num_calls f a0_3 1000000000000 4 gF _ hF5).mono ?_; rintro e _ ⟨rfl, rfl⟩; refine ⟨_, rfl, ?_⟩; rw [B3]))
    go_ret
    exact ⟨by rw [← HR.out]; simp [B1, B2, B3], HB.out⟩
  have B3 : numF f a0_3 1000000000000 4 = true := by simpa using Q3
  clear Q3
  by_cases Q4 : valF f 8 a0_4 bK = false
  · have B4 := Q4
    go_wp2_with (first | ((with_reducible refine gate_dst (N := 23) rfl ?_); (try (refine gate_guard (by rfl) ?_; dsimp only)); refine goesC_ (some 23) rfl rfl (by rfl) Tryd.func22 (by kernel_rfl) rfl #[.int .i64 a0_1, .int .i64 99, .int .i64 1, .pointer (some ⟨gF, 0, none⟩)] rfl (by simp [Act.eval]) ?_; refine (num_calls f a0_1 99 1 gF _ hF5).mono ?_; rintro e _ ⟨rfl, rfl⟩; refine ⟨_, rfl, ?_⟩; rw [B1]) | ((with_reducible refine gate_dst (N := 28) rfl ?_); (try (refine gate_guard (by rfl) ?_; dsimp only)); refine goesC_ (some 28) rfl rfl (by rfl) Tryd.func22 (by kernel_rfl) rfl #[.int .i64 a0_2, .int .i64 49, .int .i64 2, .pointer (some ⟨gF, 0, none⟩)] rfl (by simp [Act.eval]) ?_; refine (num_calls f a0_2 49 2 gF _ hF5).mono ?_; rintro e _ ⟨rfl, rfl⟩; refine ⟨_, rfl, ?_⟩; rw [B2]) | ((with_reducible refine gate_dst (N := 34) rfl ?_); (try (refine gate_guard (by rfl) ?_; dsimp only)); refine goesC_ (some 34) rfl rfl (by rfl) Tryd.func22 (by kernel_rfl) rfl #[.int .i64 a0_3, .int .i64 1000000000000, .int .i64 4, .pointer (some ⟨gF, 0, none⟩)] rfl (by simp [Act.eval]) ?_; refine (num_calls f a0_3 1000000000000 4 gF _ hF5).mono ?_; rintro e _ ⟨rfl, rfl⟩; refine ⟨_, rfl, ?_⟩; rw [B3]) | ((with_reducible refine gate_dst (N := 40) rfl ?_); (try (refine gate_guard (by rfl) ?_; dsimp only)); refine goesC_ (some 40) rfl rfl (by rfl) Tryd.func23 (by kernel_rfl) rfl #[.agg #[.int .i64 a0_4, .int .i64 a0_5, .float .f64 a0_6, .string a0_7, .int .i64 a0_8], .int .i64 8, .pointer (some ⟨gF, 0, none⟩)] rfl (by simp [Act.eval]) ?_; refine (val_calls f 8 k a0_4 a0_5 a0_6 a0_7 a0_8 bK hK gF _ hF5).mono ?_; rintro e w6 ⟨rfl, hb⟩; refine ⟨_, rfl, ?_⟩; rw [B4]; have hF6 : w6.cell? ⟨gF, 0, none⟩ = some (.int .i64 f) := (hb.cell (World.block_lt_of_cell? _ _ hF5)).trans hF5; have n0_ := Aside0.mk (blk_below BKgA.out hb); have n1_ := Aside0.mk (below_step HB.out hb); clear BKgA HB; have BKgA := n0_; have HB := n1_; clear n0_ n1_ hb; have zw6_0 : w6.cell? ⟨gA, 0, none⟩ = some (.int .i64 a0_0) := (blk_cell BKgA.out 0).trans rfl; have zw6_4 : w6.cell? ⟨gA, 4, none⟩ = some (.int .i64 a0_4) := (blk_cell BKgA.out 4).trans rfl; have zw6_9 : w6.cell? ⟨gA, 9, none⟩ = some (.int .i64 a0_9) := (blk_cell BKgA.out 9).trans rfl; have zw6_10 : w6.cell? ⟨gA, 10, none⟩ = some (.int .i64 a0_10) := (blk_cell BKgA.out 10).trans rfl; have zw6_11 : w6.cell? ⟨gA, 11, none⟩ = some (.float .f64 a0_11) := (blk_cell BKgA.out 11).trans rfl; have zw6_12 : w6.cell? ⟨gA, 12, none⟩ = some (.string a0_12) := (blk_cell BKgA.out 12).trans rfl; have zw6_13 : w6.cell? ⟨gA, 13, none⟩ = some (.int .i64 a0_13) := (blk_cell BKgA.out 13).trans rfl))
    go_ret
    exact ⟨by rw [← HR.out]; simp [B1, B2, B3, B4], HB.out⟩
  have B4 : valF f 8 a0_4 bK = true := by simpa using Q4
  clear Q4
  by_cases Q5 : valF f 16 a0_9 bV = false
  · have B5 := Q5
    go_wp2_with (first | ((with_reducible refine gate_dst (N := 23) rfl ?_); (try (refine gate_guard (by rfl) ?_; dsimp only)); refine goesC_ (some 23) rfl rfl (by rfl) Tryd.func22 (by kernel_rfl) rfl #[.int .i64 a0_1, .int .i64 99, .int .i64 1, .pointer (some ⟨gF, 0, none⟩)] rfl (by simp [Act.eval]) ?_; refine (num_calls f a0_1 99 1 gF _ hF5).mono ?_; rintro e _ ⟨rfl, rfl⟩; refine ⟨_, rfl, ?_⟩; rw [B1]) | ((with_reducible refine gate_dst (N := 28) rfl ?_); (try (refine gate_guard (by rfl) ?_; dsimp only)); refine goesC_ (some 28) rfl rfl (by rfl) Tryd.func22 (by kernel_rfl) rfl #[.int .i64 a0_2, .int .i64 49, .int .i64 2, .pointer (some ⟨gF, 0, none⟩)] rfl (by simp [Act.eval]) ?_; refine (num_calls f a0_2 49 2 gF _ hF5).mono ?_; rintro e _ ⟨rfl, rfl⟩; refine ⟨_, rfl, ?_⟩; rw [B2]) | ((with_reducible refine gate_dst (N := 34) rfl ?_); (try (refine gate_guard (by rfl) ?_; dsimp only)); refine goesC_ (some 34) rfl rfl (by rfl) Tryd.func22 (by kernel_rfl) rfl #[.int .i64 a0_3, .int .i64 1000000000000, .int .i64 4, .pointer (some ⟨gF, 0, none⟩)] rfl (by simp [Act.eval]) ?_; refine (num_calls f a0_3 1000000000000 4 gF _ hF5).mono ?_; rintro e _ ⟨rfl, rfl⟩; refine ⟨_, rfl, ?_⟩; rw [B3]) | ((with_reducible refine gate_dst (N := 40) rfl ?_); (try (refine gate_guard (by rfl) ?_; dsimp only)); refine goesC_ (some 40) rfl rfl (by rfl) Tryd.func23 (by kernel_rfl) rfl #[.agg #[.int .i64 a0_4, .int .i64 a0_5, .float .f64 a0_6, .string a0_7, .int .i64 a0_8], .int .i64 8, .pointer (some ⟨gF, 0, none⟩)] rfl (by simp [Act.eval]) ?_; refine (val_calls f 8 k a0_4 a0_5 a0_6 a0_7 a0_8 bK hK gF _ hF5).mono ?_; rintro e w6 ⟨rfl, hb⟩; refine ⟨_, rfl, ?_⟩; rw [B4]; have hF6 : w6.cell? ⟨gF, 0, none⟩ = some (.int .i64 f) := (hb.cell (World.block_lt_of_cell? _ _ hF5)).trans hF5; have n0_ := Aside0.mk (blk_below BKgA.out hb); have n1_ := Aside0.mk (below_step HB.out hb); clear BKgA HB; have BKgA := n0_; have HB := n1_; clear n0_ n1_ hb; have zw6_0 : w6.cell? ⟨gA, 0, none⟩ = some (.int .i64 a0_0) := (blk_cell BKgA.out 0).trans rfl; have zw6_4 : w6.cell? ⟨gA, 4, none⟩ = some (.int .i64 a0_4) := (blk_cell BKgA.out 4).trans rfl; have zw6_9 : w6.cell? ⟨gA, 9, none⟩ = some (.int .i64 a0_9) := (blk_cell BKgA.out 9).trans rfl; have zw6_10 : w6.cell? ⟨gA, 10, none⟩ = some (.int .i64 a0_10) := (blk_cell BKgA.out 10).trans rfl; have zw6_11 : w6.cell? ⟨gA, 11, none⟩ = some (.float .f64 a0_11) := (blk_cell BKgA.out 11).trans rfl; have zw6_12 : w6.cell? ⟨gA, 12, none⟩ = some (.string a0_12) := (blk_cell BKgA.out 12).trans rfl; have zw6_13 : w6.cell? ⟨gA, 13, none⟩ = some (.int .i64 a0_13) := (blk_cell BKgA.out 13).trans rfl) | ((with_reducible refine gate_dst (N := 46) rfl ?_); (try (refine gate_guard (by rfl) ?_; dsimp only)); refine goesC_ (some 46) rfl rfl (by rfl) Tryd.func23 (by kernel_rfl) rfl #[.agg #[.int .i64 a0_9, .int .i64 a0_10, .float .f64 a0_11, .string a0_12, .int .i64 a0_13], .int .i64 16, .pointer (some ⟨gF, 0, none⟩)] rfl (by simp [Act.eval]) ?_; refine (val_calls f 16 k a0_9 a0_10 a0_11 a0_12 a0_13 bV hV gF _ hF6).mono ?_; rintro e w7 ⟨rfl, hb⟩; refine ⟨_, rfl, ?_⟩; rw [B5]; have hF7 : w7.cell? ⟨gF, 0, none⟩ = some (.int .i64 f) := (hb.cell (World.block_lt_of_cell? _ _ hF6)).trans hF6; have n0_ := Aside0.mk (blk_below BKgA.out hb); have n1_ := Aside0.mk (below_step HB.out hb); clear BKgA HB; have BKgA := n0_; have HB := n1_; clear n0_ n1_ hb; have zw7_0 : w7.cell? ⟨gA, 0, none⟩ = some (.int .i64 a0_0) := (blk_cell BKgA.out 0).trans rfl; have zw7_4 : w7.cell? ⟨gA, 4, none⟩ = some (.int .i64 a0_4) := (blk_cell BKgA.out 4).trans rfl))
    go_ret
    exact ⟨by rw [← HR.out]; simp [B1, B2, B3, B4, B5], HB.out⟩
  have B5 : valF f 16 a0_9 bV = true := by simpa using Q5
  clear Q5
  by_cases Q6 : a0_0 = 7
  · have C6 : (a0_0 == 7) = true := by simpa using Q6
    have C6b : (a0_0 != 7) = false := by simpa using Q6
    clear Q6
    have HR2 := Aside0.mk (show (a0_4 == 4) = r by rw [← HR.out]; simp [B1, B2, B3, B4, B5, C6b])
    go_wp2_with (first | ((with_reducible refine gate_dst (N := 23) rfl ?_); (try (refine gate_guard (by rfl) ?_; dsimp only)); refine goesC_ (some 23) rfl rfl (by rfl) Tryd.func22 (by kernel_rfl) rfl #[.int .i64 a0_1, .int .i64 99, .int .i64 1, .pointer (some ⟨gF, 0, none⟩)] rfl (by simp [Act.eval]) ?_; refine (num_calls f a0_1 99 1 gF _ hF5).mono ?_; rintro e _ ⟨rfl, rfl⟩; refine ⟨_, rfl, ?_⟩; rw [B1]) | ((with_reducible refine gate_dst (N := 28) rfl ?_); (try (refine gate_guard (by rfl) ?_; dsimp only)); refine goesC_ (some 28) rfl rfl (by rfl) Tryd.func22 (by kernel_rfl) rfl #[.int .i64 a0_2, .int .i64 49, .int .i64 2, .pointer (some ⟨gF, 0, none⟩)] rfl (by simp [Act.eval]) ?_; refine (num_calls f a0_2 49 2 gF _ hF5).mono ?_; rintro e _ ⟨rfl, rfl⟩; refine ⟨_, rfl, ?_⟩; rw [B2]) | ((with_reducible refine gate_dst (N := 34) rfl ?_); (try (refine gate_guard (by rfl) ?_; dsimp only)); refine goesC_ (some 34) rfl rfl (by rfl) Tryd.func22 (by kernel_rfl) rfl #[.int .i64 a0_3, .int .i64 1000000000000, .int .i64 4, .pointer (some ⟨gF, 0, none⟩)] rfl (by simp [Act.eval]) ?_; refine (num_calls f a0_3 1000000000000 4 gF _ hF5).mono ?_; rintro e _ ⟨rfl, rfl⟩; refine ⟨_, rfl, ?_⟩; rw [B3]) | ((with_reducible refine gate_dst (N := 40) rfl ?_); (try (refine gate_guard (by rfl) ?_; dsimp only)); refine goesC_ (some 40) rfl rfl (by rfl) Tryd.func23 (by kernel_rfl) rfl #[.agg #[.int .i64 a0_4, .int .i64 a0_5, .float .f64 a0_6, .string a0_7, .int .i64 a0_8], .int .i64 8, .pointer (some ⟨gF, 0, none⟩)] rfl (by simp [Act.eval]) ?_; refine (val_calls f 8 k a0_4 a0_5 a0_6 a0_7 a0_8 bK hK gF _ hF5).mono ?_; rintro e w6 ⟨rfl, hb⟩; refine ⟨_, rfl, ?_⟩; rw [B4]; have hF6 : w6.cell? ⟨gF, 0, none⟩ = some (.int .i64 f) := (hb.cell (World.block_lt_of_cell? _ _ hF5)).trans hF5; have n0_ := Aside0.mk (blk_below BKgA.out hb); have n1_ := Aside0.mk (below_step HB.out hb); clear BKgA HB; have BKgA := n0_; have HB := n1_; clear n0_ n1_ hb; have zw6_0 : w6.cell? ⟨gA, 0, none⟩ = some (.int .i64 a0_0) := (blk_cell BKgA.out 0).trans rfl; have zw6_4 : w6.cell? ⟨gA, 4, none⟩ = some (.int .i64 a0_4) := (blk_cell BKgA.out 4).trans rfl; have zw6_9 : w6.cell? ⟨gA, 9, none⟩ = some (.int .i64 a0_9) := (blk_cell BKgA.out 9).trans rfl; have zw6_10 : w6.cell? ⟨gA, 10, none⟩ = some (.int .i64 a0_10) := (blk_cell BKgA.out 10).trans rfl; have zw6_11 : w6.cell? ⟨gA, 11, none⟩ = some (.float .f64 a0_11) := (blk_cell BKgA.out 11).trans rfl; have zw6_12 : w6.cell? ⟨gA, 12, none⟩ = some (.string a0_12) := (blk_cell BKgA.out 12).trans rfl; have zw6_13 : w6.cell? ⟨gA, 13, none⟩ = some (.int .i64 a0_13) := (blk_cell BKgA.out 13).trans rfl) | ((with_reducible refine gate_dst (N := 46) rfl ?_); (try (refine gate_guard (by rfl) ?_; dsimp only)); refine goesC_ (some 46) rfl rfl (by rfl) Tryd.func23 (by kernel_rfl) rfl #[.agg #[.int .i64 a0_9, .int .i64 a0_10, .float .f64 a0_11, .string a0_12, .int .i64 a0_13], .int .i64 16, .pointer (some ⟨gF, 0, none⟩)] rfl (by simp [Act.eval]) ?_; refine (val_calls f 16 k a0_9 a0_10 a0_11 a0_12 a0_13 bV hV gF _ hF6).mono ?_; rintro e w7 ⟨rfl, hb⟩; refine ⟨_, rfl, ?_⟩; rw [B5]; have hF7 : w7.cell? ⟨gF, 0, none⟩ = some (.int .i64 f) := (hb.cell (World.block_lt_of_cell? _ _ hF6)).trans hF6; have n0_ := Aside0.mk (blk_below BKgA.out hb); have n1_ := Aside0.mk (below_step HB.out hb); clear BKgA HB; have BKgA := n0_; have HB := n1_; clear n0_ n1_ hb; have zw7_0 : w7.cell? ⟨gA, 0, none⟩ = some (.int .i64 a0_0) := (blk_cell BKgA.out 0).trans rfl; have zw7_4 : w7.cell? ⟨gA, 4, none⟩ = some (.int .i64 a0_4) := (blk_cell BKgA.out 4).trans rfl))
    go_ret
    exact ⟨by rw [← HR2.out]; first | rfl | (simp; done), HB.out⟩
  · have C6b : (a0_0 != 7) = true := by simpa using Q6
    have C6 : (a0_0 == 7) = false := by simpa using Q6
    clear Q6
    go_wp2_with (first | ((with_reducible refine gate_dst (N := 23) rfl ?_); (try (refine gate_guard (by rfl) ?_; dsimp only)); refine goesC_ (some 23) rfl rfl (by rfl) Tryd.func22 (by kernel_rfl) rfl #[.int .i64 a0_1, .int .i64 99, .int .i64 1, .pointer (some ⟨gF, 0, none⟩)] rfl (by simp [Act.eval]) ?_; refine (num_calls f a0_1 99 1 gF _ hF5).mono ?_; rintro e _ ⟨rfl, rfl⟩; refine ⟨_, rfl, ?_⟩; rw [B1]) | ((with_reducible refine gate_dst (N := 28) rfl ?_); (try (refine gate_guard (by rfl) ?_; dsimp only)); refine goesC_ (some 28) rfl rfl (by rfl) Tryd.func22 (by kernel_rfl) rfl #[.int .i64 a0_2, .int .i64 49, .int .i64 2, .pointer (some ⟨gF, 0, none⟩)] rfl (by simp [Act.eval]) ?_; refine (num_calls f a0_2 49 2 gF _ hF5).mono ?_; rintro e _ ⟨rfl, rfl⟩; refine ⟨_, rfl, ?_⟩; rw [B2]) | ((with_reducible refine gate_dst (N := 34) rfl ?_); (try (refine gate_guard (by rfl) ?_; dsimp only)); refine goesC_ (some 34) rfl rfl (by rfl) Tryd.func22 (by kernel_rfl) rfl #[.int .i64 a0_3, .int .i64 1000000000000, .int .i64 4, .pointer (some ⟨gF, 0, none⟩)] rfl (by simp [Act.eval]) ?_; refine (num_calls f a0_3 1000000000000 4 gF _ hF5).mono ?_; rintro e _ ⟨rfl, rfl⟩; refine ⟨_, rfl, ?_⟩; rw [B3]) | ((with_reducible refine gate_dst (N := 40) rfl ?_); (try (refine gate_guard (by rfl) ?_; dsimp only)); refine goesC_ (some 40) rfl rfl (by rfl) Tryd.func23 (by kernel_rfl) rfl #[.agg #[.int .i64 a0_4, .int .i64 a0_5, .float .f64 a0_6, .string a0_7, .int .i64 a0_8], .int .i64 8, .pointer (some ⟨gF, 0, none⟩)] rfl (by simp [Act.eval]) ?_; refine (val_calls f 8 k a0_4 a0_5 a0_6 a0_7 a0_8 bK hK gF _ hF5).mono ?_; rintro e w6 ⟨rfl, hb⟩; refine ⟨_, rfl, ?_⟩; rw [B4]; have hF6 : w6.cell? ⟨gF, 0, none⟩ = some (.int .i64 f) := (hb.cell (World.block_lt_of_cell? _ _ hF5)).trans hF5; have n0_ := Aside0.mk (blk_below BKgA.out hb); have n1_ := Aside0.mk (below_step HB.out hb); clear BKgA HB; have BKgA := n0_; have HB := n1_; clear n0_ n1_ hb; have zw6_0 : w6.cell? ⟨gA, 0, none⟩ = some (.int .i64 a0_0) := (blk_cell BKgA.out 0).trans rfl; have zw6_4 : w6.cell? ⟨gA, 4, none⟩ = some (.int .i64 a0_4) := (blk_cell BKgA.out 4).trans rfl; have zw6_9 : w6.cell? ⟨gA, 9, none⟩ = some (.int .i64 a0_9) := (blk_cell BKgA.out 9).trans rfl; have zw6_10 : w6.cell? ⟨gA, 10, none⟩ = some (.int .i64 a0_10) := (blk_cell BKgA.out 10).trans rfl; have zw6_11 : w6.cell? ⟨gA, 11, none⟩ = some (.float .f64 a0_11) := (blk_cell BKgA.out 11).trans rfl; have zw6_12 : w6.cell? ⟨gA, 12, none⟩ = some (.string a0_12) := (blk_cell BKgA.out 12).trans rfl; have zw6_13 : w6.cell? ⟨gA, 13, none⟩ = some (.int .i64 a0_13) := (blk_cell BKgA.out 13).trans rfl) | ((with_reducible refine gate_dst (N := 46) rfl ?_); (try (refine gate_guard (by rfl) ?_; dsimp only)); refine goesC_ (some 46) rfl rfl (by rfl) Tryd.func23 (by kernel_rfl) rfl #[.agg #[.int .i64 a0_9, .int .i64 a0_10, .float .f64 a0_11, .string a0_12, .int .i64 a0_13], .int .i64 16, .pointer (some ⟨gF, 0, none⟩)] rfl (by simp [Act.eval]) ?_; refine (val_calls f 16 k a0_9 a0_10 a0_11 a0_12 a0_13 bV hV gF _ hF6).mono ?_; rintro e w7 ⟨rfl, hb⟩; refine ⟨_, rfl, ?_⟩; rw [B5]; have hF7 : w7.cell? ⟨gF, 0, none⟩ = some (.int .i64 f) := (hb.cell (World.block_lt_of_cell? _ _ hF6)).trans hF6; have n0_ := Aside0.mk (blk_below BKgA.out hb); have n1_ := Aside0.mk (below_step HB.out hb); clear BKgA HB; have BKgA := n0_; have HB := n1_; clear n0_ n1_ hb; have zw7_0 : w7.cell? ⟨gA, 0, none⟩ = some (.int .i64 a0_0) := (blk_cell BKgA.out 0).trans rfl; have zw7_4 : w7.cell? ⟨gA, 4, none⟩ = some (.int .i64 a0_4) := (blk_cell BKgA.out 4).trans rfl))
    go_ret
    exact ⟨by rw [← HR.out]; simp [B1, B2, B3, B4, B5, C6b], HB.out⟩
end Go.Proofs.YtclploookcjcbaaDoor.PAct
