/- Proved: each Go function that is named below comes to the answers of the Lean function printed for it. Printed by a changed copy of the kit's print program (wip/mkpk.py), for this claim. -/
import Derived.Test.YtclploookcjcbaaDoorPActx0
import Derived.Test.YtclploookcjcbaaDoorPActB
import Derived.Test.YtclploookcjcbaaDoorPActC
namespace Go.Proofs.YtclploookcjcbaaDoor.PAct
open Go.RowKit Go.Proofs.YtclploookcjcbaaDoorW.PrintWords Go.Proofs.YtclploookcjcbaaDoorW.PrintLast Go.Proofs.YtclploookcjcbaaDoorW.PrintMore
attribute [local go_sem] max2_int min2_int max_two min_two max_three min_three max_four min_four   -- for this text's walks alone
set_option linter.unusedVariables false
set_option linter.unusedSimpArgs false

/-! ### spec_ActOk: function 6 -/
mutual
def spec_ActOk.j0 : Nat → Bool → Int → Int → Int → Int → Int → Int → Nat → ByteArray → Int → Int → Int → Nat → ByteArray → Int → Option (Bool)
 | 0, _, _, _, _, _, _, _, _, _, _, _, _, _, _, _ => none
 | k + 1, x42, x142000, x142001, x142002, x142003, x142004, x142005, x142006, x142007, x142008, x142009, x142010, x142011, x142012, x142013 => if x42 = true then (some false) else (if x142000 = 1 then ((spec_l4bare.f k x142000 x142001 x142002 x142003 x142004 x142005 x142006 x142007 x142008 x142009 x142010 x142011 x142012 x142013 false false false false false).bind fun t144 => (some t144)) else (if x142000 = 2 then ((spec_l4bare.f k x142000 x142001 x142002 x142003 x142004 x142005 x142006 x142007 x142008 x142009 x142010 x142011 x142012 x142013 true false false true true).bind fun t145 => (some t145)) else (if x142000 = 3 then ((spec_l4bare.f k x142000 x142001 x142002 x142003 x142004 x142005 x142006 x142007 x142008 x142009 x142010 x142011 x142012 x142013 true false false true false).bind fun t146 => (some t146)) else (if x142000 = 4 then ((spec_l4bare.f k x142000 x142001 x142002 x142003 x142004 x142005 x142006 x142007 x142008 x142009 x142010 x142011 x142012 x142013 true false true false false).bind fun t147 => (some t147)) else (if x142000 = 5 then (spec_ActOk.j1 k x142000 (x142000 == 5) x142000 x142001 x142002 x142003 x142004 x142005 x142006 x142007 x142008 x142009 x142010 x142011 x142012 x142013) else (spec_ActOk.j1 k x142000 (x142000 == 6) x142000 x142001 x142002 x142003 x142004 x142005 x142006 x142007 x142008 x142009 x142010 x142011 x142012 x142013))))))
def spec_ActOk.j1 : Nat → Int → Bool → Int → Int → Int → Int → Int → Int → Nat → ByteArray → Int → Int → Int → Nat → ByteArray → Int → Option (Bool)
 | 0, _, _, _, _, _, _, _, _, _, _, _, _, _, _, _, _ => none
 | k + 1, x44, x61, x142000, x142001, x142002, x142003, x142004, x142005, x142006, x142007, x142008, x142009, x142010, x142011, x142012, x142013 => if x61 = true then ((spec_l4bare.f k x142000 x142001 x142002 x142003 x142004 x142005 x142006 x142007 x142008 x142009 x142010 x142011 x142012 x142013 true false false false false).bind fun t148 => (some t148)) else (if x44 = 7 then ((spec_l4bare.f k x142000 x142001 x142002 x142003 x142004 x142005 x142006 x142007 x142008 x142009 x142010 x142011 x142012 x142013 false false false true false).bind fun t149 => (if t149 = true then (some (x142004 == 4)) else (some false))) else (if x44 = 8 then ((spec_l4bare.f k x142000 x142001 x142002 x142003 x142004 x142005 x142006 x142007 x142008 x142009 x142010 x142011 x142012 x142013 true true false false false).bind fun t150 => (some t150)) else (if x44 = 9 then ((spec_l4bare.f k x142000 x142001 x142002 x142003 x142004 x142005 x142006 x142007 x142008 x142009 x142010 x142011 x142012 x142013 true true false false true).bind fun t151 => (some t151)) else (some false))))
end
def spec_ActOk.f (k : Nat) (a0_0 : Int) (a0_1 : Int) (a0_2 : Int) (a0_3 : Int) (a0_4 : Int) (a0_5 : Int) (a0_6 : Nat) (a0_7 : ByteArray) (a0_8 : Int) (a0_9 : Int) (a0_10 : Int) (a0_11 : Nat) (a0_12 : ByteArray) (a0_13 : Int) : Option (Bool) := if a0_1 < 0 then (spec_ActOk.j0 k true a0_0 a0_1 a0_2 a0_3 a0_4 a0_5 a0_6 a0_7 a0_8 a0_9 a0_10 a0_11 a0_12 a0_13) else (if a0_1 ≥ 100 then (spec_ActOk.j0 k true a0_0 a0_1 a0_2 a0_3 a0_4 a0_5 a0_6 a0_7 a0_8 a0_9 a0_10 a0_11 a0_12 a0_13) else (if a0_2 < 0 then (spec_ActOk.j0 k true a0_0 a0_1 a0_2 a0_3 a0_4 a0_5 a0_6 a0_7 a0_8 a0_9 a0_10 a0_11 a0_12 a0_13) else (if a0_2 ≥ 50 then (spec_ActOk.j0 k true a0_0 a0_1 a0_2 a0_3 a0_4 a0_5 a0_6 a0_7 a0_8 a0_9 a0_10 a0_11 a0_12 a0_13) else (if a0_3 < 0 then (spec_ActOk.j0 k true a0_0 a0_1 a0_2 a0_3 a0_4 a0_5 a0_6 a0_7 a0_8 a0_9 a0_10 a0_11 a0_12 a0_13) else (if a0_3 > 1000000000000 then (spec_ActOk.j0 k true a0_0 a0_1 a0_2 a0_3 a0_4 a0_5 a0_6 a0_7 a0_8 a0_9 a0_10 a0_11 a0_12 a0_13) else ((spec_ValueOk.f k a0_4 a0_5 a0_6 a0_7 a0_8).bind fun t142 => (if t142 = true then ((spec_ValueOk.f k a0_9 a0_10 a0_11 a0_12 a0_13).bind fun t143 => (spec_ActOk.j0 k (!t143) a0_0 a0_1 a0_2 a0_3 a0_4 a0_5 a0_6 a0_7 a0_8 a0_9 a0_10 a0_11 a0_12 a0_13)) else (spec_ActOk.j0 k true a0_0 a0_1 a0_2 a0_3 a0_4 a0_5 a0_6 a0_7 a0_8 a0_9 a0_10 a0_11 a0_12 a0_13))))))))
theorem spec_ActOk.mono_l : ∀ k, (∀ y0 y1 y2 y3 y4 y5 y6 y7 y8 y9 y10 y11 y12 y13 y14, LeO (spec_ActOk.j0 k y0 y1 y2 y3 y4 y5 y6 y7 y8 y9 y10 y11 y12 y13 y14) (spec_ActOk.j0 (k + 1) y0 y1 y2 y3 y4 y5 y6 y7 y8 y9 y10 y11 y12 y13 y14)) ∧ (∀ y0 y1 y2 y3 y4 y5 y6 y7 y8 y9 y10 y11 y12 y13 y14 y15, LeO (spec_ActOk.j1 k y0 y1 y2 y3 y4 y5 y6 y7 y8 y9 y10 y11 y12 y13 y14 y15) (spec_ActOk.j1 (k + 1) y0 y1 y2 y3 y4 y5 y6 y7 y8 y9 y10 y11 y12 y13 y14 y15))
 | 0 => ⟨fun _ _ _ _ _ _ _ _ _ _ _ _ _ _ _ r h => by simp [spec_ActOk.j0] at h, fun _ _ _ _ _ _ _ _ _ _ _ _ _ _ _ _ r h => by simp [spec_ActOk.j1] at h⟩
 | k + 1 => by
  obtain ⟨ih0, ih1⟩ := spec_ActOk.mono_l k
  refine ⟨?_, ?_⟩
  ·intro y0 y1 y2 y3 y4 y5 y6 y7 y8 y9 y10 y11 y12 y13 y14
   unfold spec_ActOk.j0
   repeat' first
   | (with_reducible exact ih0 _ _ _ _ _ _ _ _ _ _ _ _ _ _ _)
   | (with_reducible exact ih1 _ _ _ _ _ _ _ _ _ _ _ _ _ _ _ _)
   | (with_reducible exact spec_ValueOk.mono _ _ _ _ _ _)
   | (with_reducible exact spec_l4bare.mono _ _ _ _ _ _ _ _ _ _ _ _ _ _ _ _ _ _ _ _)
   | (with_reducible exact LeO.refl _)
   | (with_reducible exact LeO.none _)
   | (with_reducible refine LeO.ite ?_ ?_)
   | (with_reducible refine LeO.bind ?_ (fun _ => ?_))
   | exact ih0 _ _ _ _ _ _ _ _ _ _ _ _ _ _ _
   | exact ih1 _ _ _ _ _ _ _ _ _ _ _ _ _ _ _ _
   | exact spec_ValueOk.mono _ _ _ _ _ _
   | exact spec_l4bare.mono _ _ _ _ _ _ _ _ _ _ _ _ _ _ _ _ _ _ _ _
   | exact LeO.none _
   | refine LeO.ite ?_ ?_
   | refine LeO.bind ?_ (fun _ => ?_)
  ·intro y0 y1 y2 y3 y4 y5 y6 y7 y8 y9 y10 y11 y12 y13 y14 y15
   unfold spec_ActOk.j1
   repeat' first
   | (with_reducible exact ih0 _ _ _ _ _ _ _ _ _ _ _ _ _ _ _)
   | (with_reducible exact ih1 _ _ _ _ _ _ _ _ _ _ _ _ _ _ _ _)
   | (with_reducible exact spec_ValueOk.mono _ _ _ _ _ _)
   | (with_reducible exact spec_l4bare.mono _ _ _ _ _ _ _ _ _ _ _ _ _ _ _ _ _ _ _ _)
   | (with_reducible exact LeO.refl _)
   | (with_reducible exact LeO.none _)
   | (with_reducible refine LeO.ite ?_ ?_)
   | (with_reducible refine LeO.bind ?_ (fun _ => ?_))
   | exact ih0 _ _ _ _ _ _ _ _ _ _ _ _ _ _ _
   | exact ih1 _ _ _ _ _ _ _ _ _ _ _ _ _ _ _ _
   | exact spec_ValueOk.mono _ _ _ _ _ _
   | exact spec_l4bare.mono _ _ _ _ _ _ _ _ _ _ _ _ _ _ _ _ _ _ _ _
   | exact LeO.none _
   | refine LeO.ite ?_ ?_
   | refine LeO.bind ?_ (fun _ => ?_)
theorem spec_ActOk.mono : ∀ a0 a1 a2 a3 a4 a5 a6 a7 a8 a9 a10 a11 a12 a13 k, LeO (spec_ActOk.f k a0 a1 a2 a3 a4 a5 a6 a7 a8 a9 a10 a11 a12 a13) (spec_ActOk.f (k + 1) a0 a1 a2 a3 a4 a5 a6 a7 a8 a9 a10 a11 a12 a13) := by
 intro a0 a1 a2 a3 a4 a5 a6 a7 a8 a9 a10 a11 a12 a13 k
 obtain ⟨ih0, ih1⟩ := spec_ActOk.mono_l k
 unfold spec_ActOk.f
 repeat' first
   | (with_reducible exact ih0 _ _ _ _ _ _ _ _ _ _ _ _ _ _ _)
   | (with_reducible exact ih1 _ _ _ _ _ _ _ _ _ _ _ _ _ _ _ _)
   | (with_reducible exact spec_ValueOk.mono _ _ _ _ _ _)
   | (with_reducible exact spec_l4bare.mono _ _ _ _ _ _ _ _ _ _ _ _ _ _ _ _ _ _ _ _)
   | (with_reducible exact LeO.refl _)
   | (with_reducible exact LeO.none _)
   | (with_reducible refine LeO.ite ?_ ?_)
   | (with_reducible refine LeO.bind ?_ (fun _ => ?_))
   | exact ih0 _ _ _ _ _ _ _ _ _ _ _ _ _ _ _
   | exact ih1 _ _ _ _ _ _ _ _ _ _ _ _ _ _ _ _
   | exact spec_ValueOk.mono _ _ _ _ _ _
   | exact spec_l4bare.mono _ _ _ _ _ _ _ _ _ _ _ _ _ _ _ _ _ _ _ _
   | exact LeO.none _
   | refine LeO.ite ?_ ?_
   | refine LeO.bind ?_ (fun _ => ?_)
set_option maxHeartbeats 8000000 in
set_option maxRecDepth 100000 in
theorem spec_ActOk.calls (k : Nat) (a0_0 : Int) (a0_1 : Int) (a0_2 : Int) (a0_3 : Int) (a0_4 : Int) (a0_5 : Int) (a0_6 : Nat) (a0_7 : ByteArray) (a0_8 : Int) (a0_9 : Int) (a0_10 : Int) (a0_11 : Nat) (a0_12 : ByteArray) (a0_13 : Int) (r : Bool) (w : World) (h : spec_ActOk.f k a0_0 a0_1 a0_2 a0_3 a0_4 a0_5 a0_6 a0_7 a0_8 a0_9 a0_10 a0_11 a0_12 a0_13 = some r) :
  Calls Tryd.prog 6 #[.agg #[.int .i64 a0_0, .int .i64 a0_1, .int .i64 a0_2, .int .i64 a0_3, .int .i64 a0_4, .int .i64 a0_5, .float .f64 a0_6, .string a0_7, .int .i64 a0_8, .int .i64 a0_9, .int .i64 a0_10, .float .f64 a0_11, .string a0_12, .int .i64 a0_13]] w fun e w' => e = .returned (.bool r) ∧ Below w.heap.size w w' := by
 have hu31 := Tryd.underlying31
 have hu29 := Tryd.underlying29
 have HB := Aside0.mk (Below.refl w.heap.size w)
 have H : (if a0_1 < 0 then (spec_ActOk.j0 k true a0_0 a0_1 a0_2 a0_3 a0_4 a0_5 a0_6 a0_7 a0_8 a0_9 a0_10 a0_11 a0_12 a0_13) else (if a0_1 ≥ 100 then (spec_ActOk.j0 k true a0_0 a0_1 a0_2 a0_3 a0_4 a0_5 a0_6 a0_7 a0_8 a0_9 a0_10 a0_11 a0_12 a0_13) else (if a0_2 < 0 then (spec_ActOk.j0 k true a0_0 a0_1 a0_2 a0_3 a0_4 a0_5 a0_6 a0_7 a0_8 a0_9 a0_10 a0_11 a0_12 a0_13) else (if a0_2 ≥ 50 then (spec_ActOk.j0 k true a0_0 a0_1 a0_2 a0_3 a0_4 a0_5 a0_6 a0_7 a0_8 a0_9 a0_10 a0_11 a0_12 a0_13) else (if a0_3 < 0 then (spec_ActOk.j0 k true a0_0 a0_1 a0_2 a0_3 a0_4 a0_5 a0_6 a0_7 a0_8 a0_9 a0_10 a0_11 a0_12 a0_13) else (if a0_3 > 1000000000000 then (spec_ActOk.j0 k true a0_0 a0_1 a0_2 a0_3 a0_4 a0_5 a0_6 a0_7 a0_8 a0_9 a0_10 a0_11 a0_12 a0_13) else ((spec_ValueOk.f k a0_4 a0_5 a0_6 a0_7 a0_8).bind fun t142 => (if t142 = true then ((spec_ValueOk.f k a0_9 a0_10 a0_11 a0_12 a0_13).bind fun t143 => (spec_ActOk.j0 k (!t143) a0_0 a0_1 a0_2 a0_3 a0_4 a0_5 a0_6 a0_7 a0_8 a0_9 a0_10 a0_11 a0_12 a0_13)) else (spec_ActOk.j0 k true a0_0 a0_1 a0_2 a0_3 a0_4 a0_5 a0_6 a0_7 a0_8 a0_9 a0_10 a0_11 a0_12 a0_13))))))))) = some r := h
 clear h
 have HC2 := Aside0.mk H
 clear H
 go_enter Tryd.func6, Tryd.ntmps6
 go_upto_region 1 with (first | ((with_reducible refine gate_dst (N := 1) rfl ?_); refine box_event ?hg (N := 1) ?hd (cs := #[.int .i64 a0_0, .int .i64 a0_1, .int .i64 a0_2, .int .i64 a0_3, .int .i64 a0_4, .int .i64 a0_5, .float .f64 a0_6, .string a0_7, .int .i64 a0_8, .int .i64 a0_9, .int .i64 a0_10, .float .f64 a0_11, .string a0_12, .int .i64 a0_13]) (t := 31) ?hr ?_; (case hd => rfl); (case hg => rfl); (case hr => first | (go_simp; done) | (go_simp; rfl)); intro gb141 hg w3 hbox hb; have n0_ := Aside0.mk (below_step (by repeat (first | (with_reducible first | exact HB.out | apply below_alloc | apply pw_below_drewN | apply below_drew1) | exact HB.out)) hb); have n1_ := Aside0.mk (hbox); have n2_ := Aside0.mk ((by rw [hg]; exact (below_size (by repeat (first | (with_reducible first | exact HB.out | apply below_alloc | apply pw_below_drewN | apply below_drew1) | exact HB.out))) : w.heap.size ≤ gb141)); have n3_ := Aside0.mk ((by rw [hg]; exact (below_size (by repeat (first | (with_reducible first | exact HB.out | apply below_alloc | apply pw_below_drewN | apply below_drew1) | exact HB.out))) : w.heap.size ≤ gb141)); clear HB; have HB := n0_; have BK141 := n1_; have GW141 := n2_; have GE141 := n3_; clear n0_ n1_ n2_ n3_; clear hb hbox hg))
 (try simp only [Act.put, List.setIfInBounds_toArray, List.set_cons_zero, List.set_cons_succ])
 go_cut [42] (fun v42 wc => ∃ (kq : Nat) (x42_1 : Bool), v42 = .bool x42_1 ∧ Aside0 (spec_ActOk.j0 kq x42_1 a0_0 a0_1 a0_2 a0_3 a0_4 a0_5 a0_6 a0_7 a0_8 a0_9 a0_10 a0_11 a0_12 a0_13 = some r) ∧ Aside0 (kq ≤ k) ∧ Aside0 (wc.heap[gb141]? = some (.cells #[.int .i64 a0_0, .int .i64 a0_1, .int .i64 a0_2, .int .i64 a0_3, .int .i64 a0_4, .int .i64 a0_5, .float .f64 a0_6, .string a0_7, .int .i64 a0_8, .int .i64 a0_9, .int .i64 a0_10, .float .f64 a0_11, .string a0_12, .int .i64 a0_13] 31 (0, 0))) ∧ Aside0 (Below w.heap.size w wc))
 case first =>
  have H := HC2.out
  clear HC2
  by_cases c4 : a0_1 < 0
  ·rw [if_pos c4] at H
   have c4b0 : decide (a0_1 < 0) = true := decide_eq_true c4
   clear c4
   (first | rw [c4b0] | (simp only [i64_w, i32_w]; rw [c4b0]) | skip)
   have H' := Aside0.mk H
   clear H
   have hcz5_0 : w3.cell? ⟨gb141, 0, none⟩ = some (.int .i64 a0_0) := (blk_cell BK141.out 0).trans rfl
   have hcz5_1 : w3.cell? ⟨gb141, 1, none⟩ = some (.int .i64 a0_1) := (blk_cell BK141.out 1).trans rfl
   have hcz5_2 : w3.cell? ⟨gb141, 2, none⟩ = some (.int .i64 a0_2) := (blk_cell BK141.out 2).trans rfl
   have hcz5_3 : w3.cell? ⟨gb141, 3, none⟩ = some (.int .i64 a0_3) := (blk_cell BK141.out 3).trans rfl
   have hcz5_4 : w3.cell? ⟨gb141, 4, none⟩ = some (.int .i64 a0_4) := (blk_cell BK141.out 4).trans rfl
   have hcz5_5 : w3.cell? ⟨gb141, 5, none⟩ = some (.int .i64 a0_5) := (blk_cell BK141.out 5).trans rfl
   have hcz5_6 : w3.cell? ⟨gb141, 6, none⟩ = some (.float .f64 a0_6) := (blk_cell BK141.out 6).trans rfl
   have hcz5_7 : w3.cell? ⟨gb141, 7, none⟩ = some (.string a0_7) := (blk_cell BK141.out 7).trans rfl
   have hcz5_8 : w3.cell? ⟨gb141, 8, none⟩ = some (.int .i64 a0_8) := (blk_cell BK141.out 8).trans rfl
   have hcz5_9 : w3.cell? ⟨gb141, 9, none⟩ = some (.int .i64 a0_9) := (blk_cell BK141.out 9).trans rfl
   have hcz5_10 : w3.cell? ⟨gb141, 10, none⟩ = some (.int .i64 a0_10) := (blk_cell BK141.out 10).trans rfl
   have hcz5_11 : w3.cell? ⟨gb141, 11, none⟩ = some (.float .f64 a0_11) := (blk_cell BK141.out 11).trans rfl
   have hcz5_12 : w3.cell? ⟨gb141, 12, none⟩ = some (.string a0_12) := (blk_cell BK141.out 12).trans rfl
   have hcz5_13 : w3.cell? ⟨gb141, 13, none⟩ = some (.int .i64 a0_13) := (blk_cell BK141.out 13).trans rfl
   have hfz5_0 := blk_frozen BK141.out 0
   have hfz5_1 := blk_frozen BK141.out 1
   have hfz5_2 := blk_frozen BK141.out 2
   have hfz5_3 := blk_frozen BK141.out 3
   have hfz5_4 := blk_frozen BK141.out 4
   have hfz5_5 := blk_frozen BK141.out 5
   have hfz5_6 := blk_frozen BK141.out 6
   have hfz5_7 := blk_frozen BK141.out 7
   have hfz5_8 := blk_frozen BK141.out 8
   have hfz5_9 := blk_frozen BK141.out 9
   have hfz5_10 := blk_frozen BK141.out 10
   have hfz5_11 := blk_frozen BK141.out 11
   have hfz5_12 := blk_frozen BK141.out 12
   have hfz5_13 := blk_frozen BK141.out 13
   go_wp2
   go_meet
   case rel => exact ⟨_, (true), (by first | rfl | (simp; done) | (simp [*]; done)), H', ⟨by first | omega | exact Nat.le_refl _⟩, ⟨by (with_reducible repeat (first | refine blk_drewN ?_ _ | refine blk_drew ?_ | refine blk_alloc ?_ _)); exact BK141.out⟩, ⟨by repeat (first | (with_reducible first | exact HB.out | apply below_alloc | apply pw_below_drewN | apply below_drew1 | refine below_set ?_ GE141.out) | exact HB.out)⟩⟩
  ·rw [if_neg c4] at H
   have c4b0 : decide (a0_1 < 0) = false := decide_eq_false c4
   clear c4
   (first | rw [c4b0] | (simp only [i64_w, i32_w]; rw [c4b0]) | skip)
   by_cases c6 : a0_1 ≥ 100
   ·rw [if_pos c6] at H
    have c6b0 : decide (100 ≤ a0_1) = true := decide_eq_true c6
    clear c6
    have H' := Aside0.mk H
    clear H
    have hcz7_0 : w3.cell? ⟨gb141, 0, none⟩ = some (.int .i64 a0_0) := (blk_cell BK141.out 0).trans rfl
    have hcz7_1 : w3.cell? ⟨gb141, 1, none⟩ = some (.int .i64 a0_1) := (blk_cell BK141.out 1).trans rfl
    have hcz7_2 : w3.cell? ⟨gb141, 2, none⟩ = some (.int .i64 a0_2) := (blk_cell BK141.out 2).trans rfl
    have hcz7_3 : w3.cell? ⟨gb141, 3, none⟩ = some (.int .i64 a0_3) := (blk_cell BK141.out 3).trans rfl
    have hcz7_4 : w3.cell? ⟨gb141, 4, none⟩ = some (.int .i64 a0_4) := (blk_cell BK141.out 4).trans rfl
    have hcz7_5 : w3.cell? ⟨gb141, 5, none⟩ = some (.int .i64 a0_5) := (blk_cell BK141.out 5).trans rfl
    have hcz7_6 : w3.cell? ⟨gb141, 6, none⟩ = some (.float .f64 a0_6) := (blk_cell BK141.out 6).trans rfl
    have hcz7_7 : w3.cell? ⟨gb141, 7, none⟩ = some (.string a0_7) := (blk_cell BK141.out 7).trans rfl
    have hcz7_8 : w3.cell? ⟨gb141, 8, none⟩ = some (.int .i64 a0_8) := (blk_cell BK141.out 8).trans rfl
    have hcz7_9 : w3.cell? ⟨gb141, 9, none⟩ = some (.int .i64 a0_9) := (blk_cell BK141.out 9).trans rfl
    have hcz7_10 : w3.cell? ⟨gb141, 10, none⟩ = some (.int .i64 a0_10) := (blk_cell BK141.out 10).trans rfl
    have hcz7_11 : w3.cell? ⟨gb141, 11, none⟩ = some (.float .f64 a0_11) := (blk_cell BK141.out 11).trans rfl
    have hcz7_12 : w3.cell? ⟨gb141, 12, none⟩ = some (.string a0_12) := (blk_cell BK141.out 12).trans rfl
    have hcz7_13 : w3.cell? ⟨gb141, 13, none⟩ = some (.int .i64 a0_13) := (blk_cell BK141.out 13).trans rfl
    have hfz7_0 := blk_frozen BK141.out 0
    have hfz7_1 := blk_frozen BK141.out 1
    have hfz7_2 := blk_frozen BK141.out 2
    have hfz7_3 := blk_frozen BK141.out 3
    have hfz7_4 := blk_frozen BK141.out 4
    have hfz7_5 := blk_frozen BK141.out 5
    have hfz7_6 := blk_frozen BK141.out 6
    have hfz7_7 := blk_frozen BK141.out 7
    have hfz7_8 := blk_frozen BK141.out 8
    have hfz7_9 := blk_frozen BK141.out 9
    have hfz7_10 := blk_frozen BK141.out 10
    have hfz7_11 := blk_frozen BK141.out 11
    have hfz7_12 := blk_frozen BK141.out 12
    have hfz7_13 := blk_frozen BK141.out 13
    go_wp2
    go_meet
    case rel => exact ⟨_, (true), (by first | rfl | (simp; done) | (simp [*]; done)), H', ⟨by first | omega | exact Nat.le_refl _⟩, ⟨by (with_reducible repeat (first | refine blk_drewN ?_ _ | refine blk_drew ?_ | refine blk_alloc ?_ _)); exact BK141.out⟩, ⟨by repeat (first | (with_reducible first | exact HB.out | apply below_alloc | apply pw_below_drewN | apply below_drew1 | refine below_set ?_ GE141.out) | exact HB.out)⟩⟩
   ·rw [if_neg c6] at H
    have c6b0 : decide (100 ≤ a0_1) = false := decide_eq_false c6
    clear c6
    by_cases c8 : a0_2 < 0
    ·rw [if_pos c8] at H
     have c8b0 : decide (a0_2 < 0) = true := decide_eq_true c8
     clear c8
     have H' := Aside0.mk H
     clear H
     have hcz9_0 : w3.cell? ⟨gb141, 0, none⟩ = some (.int .i64 a0_0) := (blk_cell BK141.out 0).trans rfl
     have hcz9_1 : w3.cell? ⟨gb141, 1, none⟩ = some (.int .i64 a0_1) := (blk_cell BK141.out 1).trans rfl
     have hcz9_2 : w3.cell? ⟨gb141, 2, none⟩ = some (.int .i64 a0_2) := (blk_cell BK141.out 2).trans rfl
     have hcz9_3 : w3.cell? ⟨gb141, 3, none⟩ = some (.int .i64 a0_3) := (blk_cell BK141.out 3).trans rfl
     have hcz9_4 : w3.cell? ⟨gb141, 4, none⟩ = some (.int .i64 a0_4) := (blk_cell BK141.out 4).trans rfl
     have hcz9_5 : w3.cell? ⟨gb141, 5, none⟩ = some (.int .i64 a0_5) := (blk_cell BK141.out 5).trans rfl
     have hcz9_6 : w3.cell? ⟨gb141, 6, none⟩ = some (.float .f64 a0_6) := (blk_cell BK141.out 6).trans rfl
     have hcz9_7 : w3.cell? ⟨gb141, 7, none⟩ = some (.string a0_7) := (blk_cell BK141.out 7).trans rfl
     have hcz9_8 : w3.cell? ⟨gb141, 8, none⟩ = some (.int .i64 a0_8) := (blk_cell BK141.out 8).trans rfl
     have hcz9_9 : w3.cell? ⟨gb141, 9, none⟩ = some (.int .i64 a0_9) := (blk_cell BK141.out 9).trans rfl
     have hcz9_10 : w3.cell? ⟨gb141, 10, none⟩ = some (.int .i64 a0_10) := (blk_cell BK141.out 10).trans rfl
     have hcz9_11 : w3.cell? ⟨gb141, 11, none⟩ = some (.float .f64 a0_11) := (blk_cell BK141.out 11).trans rfl
     have hcz9_12 : w3.cell? ⟨gb141, 12, none⟩ = some (.string a0_12) := (blk_cell BK141.out 12).trans rfl
     have hcz9_13 : w3.cell? ⟨gb141, 13, none⟩ = some (.int .i64 a0_13) := (blk_cell BK141.out 13).trans rfl
     have hfz9_0 := blk_frozen BK141.out 0
     have hfz9_1 := blk_frozen BK141.out 1
     have hfz9_2 := blk_frozen BK141.out 2
     have hfz9_3 := blk_frozen BK141.out 3
     have hfz9_4 := blk_frozen BK141.out 4
     have hfz9_5 := blk_frozen BK141.out 5
     have hfz9_6 := blk_frozen BK141.out 6
     have hfz9_7 := blk_frozen BK141.out 7
     have hfz9_8 := blk_frozen BK141.out 8
     have hfz9_9 := blk_frozen BK141.out 9
     have hfz9_10 := blk_frozen BK141.out 10
     have hfz9_11 := blk_frozen BK141.out 11
     have hfz9_12 := blk_frozen BK141.out 12
     have hfz9_13 := blk_frozen BK141.out 13
     go_wp2
     go_meet
     case rel => exact ⟨_, (true), (by first | rfl | (simp; done) | (simp [*]; done)), H', ⟨by first | omega | exact Nat.le_refl _⟩, ⟨by (with_reducible repeat (first | refine blk_drewN ?_ _ | refine blk_drew ?_ | refine blk_alloc ?_ _)); exact BK141.out⟩, ⟨by repeat (first | (with_reducible first | exact HB.out | apply below_alloc | apply pw_below_drewN | apply below_drew1 | refine below_set ?_ GE141.out) | exact HB.out)⟩⟩
    ·rw [if_neg c8] at H
     have c8b0 : decide (a0_2 < 0) = false := decide_eq_false c8
     clear c8
     by_cases c10 : a0_2 ≥ 50
     ·rw [if_pos c10] at H
      have c10b0 : decide (50 ≤ a0_2) = true := decide_eq_true c10
      clear c10
      have H' := Aside0.mk H
      clear H
      have hcz11_0 : w3.cell? ⟨gb141, 0, none⟩ = some (.int .i64 a0_0) := (blk_cell BK141.out 0).trans rfl
      have hcz11_1 : w3.cell? ⟨gb141, 1, none⟩ = some (.int .i64 a0_1) := (blk_cell BK141.out 1).trans rfl
      have hcz11_2 : w3.cell? ⟨gb141, 2, none⟩ = some (.int .i64 a0_2) := (blk_cell BK141.out 2).trans rfl
      have hcz11_3 : w3.cell? ⟨gb141, 3, none⟩ = some (.int .i64 a0_3) := (blk_cell BK141.out 3).trans rfl
      have hcz11_4 : w3.cell? ⟨gb141, 4, none⟩ = some (.int .i64 a0_4) := (blk_cell BK141.out 4).trans rfl
      have hcz11_5 : w3.cell? ⟨gb141, 5, none⟩ = some (.int .i64 a0_5) := (blk_cell BK141.out 5).trans rfl
      have hcz11_6 : w3.cell? ⟨gb141, 6, none⟩ = some (.float .f64 a0_6) := (blk_cell BK141.out 6).trans rfl
      have hcz11_7 : w3.cell? ⟨gb141, 7, none⟩ = some (.string a0_7) := (blk_cell BK141.out 7).trans rfl
      have hcz11_8 : w3.cell? ⟨gb141, 8, none⟩ = some (.int .i64 a0_8) := (blk_cell BK141.out 8).trans rfl
      have hcz11_9 : w3.cell? ⟨gb141, 9, none⟩ = some (.int .i64 a0_9) := (blk_cell BK141.out 9).trans rfl
      have hcz11_10 : w3.cell? ⟨gb141, 10, none⟩ = some (.int .i64 a0_10) := (blk_cell BK141.out 10).trans rfl
      have hcz11_11 : w3.cell? ⟨gb141, 11, none⟩ = some (.float .f64 a0_11) := (blk_cell BK141.out 11).trans rfl
      have hcz11_12 : w3.cell? ⟨gb141, 12, none⟩ = some (.string a0_12) := (blk_cell BK141.out 12).trans rfl
      have hcz11_13 : w3.cell? ⟨gb141, 13, none⟩ = some (.int .i64 a0_13) := (blk_cell BK141.out 13).trans rfl
      have hfz11_0 := blk_frozen BK141.out 0
      have hfz11_1 := blk_frozen BK141.out 1
      have hfz11_2 := blk_frozen BK141.out 2
      have hfz11_3 := blk_frozen BK141.out 3
      have hfz11_4 := blk_frozen BK141.out 4
      have hfz11_5 := blk_frozen BK141.out 5
      have hfz11_6 := blk_frozen BK141.out 6
      have hfz11_7 := blk_frozen BK141.out 7
      have hfz11_8 := blk_frozen BK141.out 8
      have hfz11_9 := blk_frozen BK141.out 9
      have hfz11_10 := blk_frozen BK141.out 10
      have hfz11_11 := blk_frozen BK141.out 11
      have hfz11_12 := blk_frozen BK141.out 12
      have hfz11_13 := blk_frozen BK141.out 13
      go_wp2
      go_meet
      case rel => exact ⟨_, (true), (by first | rfl | (simp; done) | (simp [*]; done)), H', ⟨by first | omega | exact Nat.le_refl _⟩, ⟨by (with_reducible repeat (first | refine blk_drewN ?_ _ | refine blk_drew ?_ | refine blk_alloc ?_ _)); exact BK141.out⟩, ⟨by repeat (first | (with_reducible first | exact HB.out | apply below_alloc | apply pw_below_drewN | apply below_drew1 | refine below_set ?_ GE141.out) | exact HB.out)⟩⟩
     ·rw [if_neg c10] at H
      have c10b0 : decide (50 ≤ a0_2) = false := decide_eq_false c10
      clear c10
      by_cases c12 : a0_3 < 0
      ·rw [if_pos c12] at H
       have c12b0 : decide (a0_3 < 0) = true := decide_eq_true c12
       clear c12
       have H' := Aside0.mk H
       clear H
       have hcz13_0 : w3.cell? ⟨gb141, 0, none⟩ = some (.int .i64 a0_0) := (blk_cell BK141.out 0).trans rfl
       have hcz13_1 : w3.cell? ⟨gb141, 1, none⟩ = some (.int .i64 a0_1) := (blk_cell BK141.out 1).trans rfl
       have hcz13_2 : w3.cell? ⟨gb141, 2, none⟩ = some (.int .i64 a0_2) := (blk_cell BK141.out 2).trans rfl
       have hcz13_3 : w3.cell? ⟨gb141, 3, none⟩ = some (.int .i64 a0_3) := (blk_cell BK141.out 3).trans rfl
       have hcz13_4 : w3.cell? ⟨gb141, 4, none⟩ = some (.int .i64 a0_4) := (blk_cell BK141.out 4).trans rfl
       have hcz13_5 : w3.cell? ⟨gb141, 5, none⟩ = some (.int .i64 a0_5) := (blk_cell BK141.out 5).trans rfl
       have hcz13_6 : w3.cell? ⟨gb141, 6, none⟩ = some (.float .f64 a0_6) := (blk_cell BK141.out 6).trans rfl
       have hcz13_7 : w3.cell? ⟨gb141, 7, none⟩ = some (.string a0_7) := (blk_cell BK141.out 7).trans rfl
       have hcz13_8 : w3.cell? ⟨gb141, 8, none⟩ = some (.int .i64 a0_8) := (blk_cell BK141.out 8).trans rfl
       have hcz13_9 : w3.cell? ⟨gb141, 9, none⟩ = some (.int .i64 a0_9) := (blk_cell BK141.out 9).trans rfl
       have hcz13_10 : w3.cell? ⟨gb141, 10, none⟩ = some (.int .i64 a0_10) := (blk_cell BK141.out 10).trans rfl
       have hcz13_11 : w3.cell? ⟨gb141, 11, none⟩ = some (.float .f64 a0_11) := (blk_cell BK141.out 11).trans rfl
       have hcz13_12 : w3.cell? ⟨gb141, 12, none⟩ = some (.string a0_12) := (blk_cell BK141.out 12).trans rfl
       have hcz13_13 : w3.cell? ⟨gb141, 13, none⟩ = some (.int .i64 a0_13) := (blk_cell BK141.out 13).trans rfl
       have hfz13_0 := blk_frozen BK141.out 0
       have hfz13_1 := blk_frozen BK141.out 1
       have hfz13_2 := blk_frozen BK141.out 2
       have hfz13_3 := blk_frozen BK141.out 3
       have hfz13_4 := blk_frozen BK141.out 4
       have hfz13_5 := blk_frozen BK141.out 5
       have hfz13_6 := blk_frozen BK141.out 6
       have hfz13_7 := blk_frozen BK141.out 7
       have hfz13_8 := blk_frozen BK141.out 8
       have hfz13_9 := blk_frozen BK141.out 9
       have hfz13_10 := blk_frozen BK141.out 10
       have hfz13_11 := blk_frozen BK141.out 11
       have hfz13_12 := blk_frozen BK141.out 12
       have hfz13_13 := blk_frozen BK141.out 13
       go_wp2
       go_meet
       case rel => exact ⟨_, (true), (by first | rfl | (simp; done) | (simp [*]; done)), H', ⟨by first | omega | exact Nat.le_refl _⟩, ⟨by (with_reducible repeat (first | refine blk_drewN ?_ _ | refine blk_drew ?_ | refine blk_alloc ?_ _)); exact BK141.out⟩, ⟨by repeat (first | (with_reducible first | exact HB.out | apply below_alloc | apply pw_below_drewN | apply below_drew1 | refine below_set ?_ GE141.out) | exact HB.out)⟩⟩
      ·rw [if_neg c12] at H
       have c12b0 : decide (a0_3 < 0) = false := decide_eq_false c12
       clear c12
       by_cases c14 : a0_3 > 1000000000000
       ·rw [if_pos c14] at H
        have c14b0 : decide (1000000000000 < a0_3) = true := decide_eq_true c14
        clear c14
        have H' := Aside0.mk H
        clear H
        have hcz15_0 : w3.cell? ⟨gb141, 0, none⟩ = some (.int .i64 a0_0) := (blk_cell BK141.out 0).trans rfl
        have hcz15_1 : w3.cell? ⟨gb141, 1, none⟩ = some (.int .i64 a0_1) := (blk_cell BK141.out 1).trans rfl
        have hcz15_2 : w3.cell? ⟨gb141, 2, none⟩ = some (.int .i64 a0_2) := (blk_cell BK141.out 2).trans rfl
        have hcz15_3 : w3.cell? ⟨gb141, 3, none⟩ = some (.int .i64 a0_3) := (blk_cell BK141.out 3).trans rfl
        have hcz15_4 : w3.cell? ⟨gb141, 4, none⟩ = some (.int .i64 a0_4) := (blk_cell BK141.out 4).trans rfl
        have hcz15_5 : w3.cell? ⟨gb141, 5, none⟩ = some (.int .i64 a0_5) := (blk_cell BK141.out 5).trans rfl
        have hcz15_6 : w3.cell? ⟨gb141, 6, none⟩ = some (.float .f64 a0_6) := (blk_cell BK141.out 6).trans rfl
        have hcz15_7 : w3.cell? ⟨gb141, 7, none⟩ = some (.string a0_7) := (blk_cell BK141.out 7).trans rfl
        have hcz15_8 : w3.cell? ⟨gb141, 8, none⟩ = some (.int .i64 a0_8) := (blk_cell BK141.out 8).trans rfl
        have hcz15_9 : w3.cell? ⟨gb141, 9, none⟩ = some (.int .i64 a0_9) := (blk_cell BK141.out 9).trans rfl
        have hcz15_10 : w3.cell? ⟨gb141, 10, none⟩ = some (.int .i64 a0_10) := (blk_cell BK141.out 10).trans rfl
        have hcz15_11 : w3.cell? ⟨gb141, 11, none⟩ = some (.float .f64 a0_11) := (blk_cell BK141.out 11).trans rfl
        have hcz15_12 : w3.cell? ⟨gb141, 12, none⟩ = some (.string a0_12) := (blk_cell BK141.out 12).trans rfl
        have hcz15_13 : w3.cell? ⟨gb141, 13, none⟩ = some (.int .i64 a0_13) := (blk_cell BK141.out 13).trans rfl
        have hfz15_0 := blk_frozen BK141.out 0
        have hfz15_1 := blk_frozen BK141.out 1
        have hfz15_2 := blk_frozen BK141.out 2
        have hfz15_3 := blk_frozen BK141.out 3
        have hfz15_4 := blk_frozen BK141.out 4
        have hfz15_5 := blk_frozen BK141.out 5
        have hfz15_6 := blk_frozen BK141.out 6
        have hfz15_7 := blk_frozen BK141.out 7
        have hfz15_8 := blk_frozen BK141.out 8
        have hfz15_9 := blk_frozen BK141.out 9
        have hfz15_10 := blk_frozen BK141.out 10
        have hfz15_11 := blk_frozen BK141.out 11
        have hfz15_12 := blk_frozen BK141.out 12
        have hfz15_13 := blk_frozen BK141.out 13
        go_wp2
        go_meet
        case rel => exact ⟨_, (true), (by first | rfl | (simp; done) | (simp [*]; done)), H', ⟨by first | omega | exact Nat.le_refl _⟩, ⟨by (with_reducible repeat (first | refine blk_drewN ?_ _ | refine blk_drew ?_ | refine blk_alloc ?_ _)); exact BK141.out⟩, ⟨by repeat (first | (with_reducible first | exact HB.out | apply below_alloc | apply pw_below_drewN | apply below_drew1 | refine below_set ?_ GE141.out) | exact HB.out)⟩⟩
       ·rw [if_neg c14] at H
        have c14b0 : decide (1000000000000 < a0_3) = false := decide_eq_false c14
        clear c14
        replace H := Option.bind_eq_some_iff.mp H
        obtain ⟨t142, A160, H⟩ := H
        replace H : (if t142 = true then ((spec_ValueOk.f k a0_9 a0_10 a0_11 a0_12 a0_13).bind fun t143 => (spec_ActOk.j0 k (!t143) a0_0 a0_1 a0_2 a0_3 a0_4 a0_5 a0_6 a0_7 a0_8 a0_9 a0_10 a0_11 a0_12 a0_13)) else (spec_ActOk.j0 k true a0_0 a0_1 a0_2 a0_3 a0_4 a0_5 a0_6 a0_7 a0_8 a0_9 a0_10 a0_11 a0_12 a0_13)) = some r := H
        have A16 := Aside0.mk A160
        clear A160
        by_cases c17 : t142 = true
        ·subst c17
         have H1 : ((spec_ValueOk.f k a0_9 a0_10 a0_11 a0_12 a0_13).bind fun t143 => (spec_ActOk.j0 k (!t143) a0_0 a0_1 a0_2 a0_3 a0_4 a0_5 a0_6 a0_7 a0_8 a0_9 a0_10 a0_11 a0_12 a0_13)) = some r := by rw [if_pos rfl] at H; exact H
         clear H
         have H := H1
         clear H1
         replace H := Option.bind_eq_some_iff.mp H
         obtain ⟨t143, A180, H⟩ := H
         replace H : (spec_ActOk.j0 k (!t143) a0_0 a0_1 a0_2 a0_3 a0_4 a0_5 a0_6 a0_7 a0_8 a0_9 a0_10 a0_11 a0_12 a0_13) = some r := H
         have A18 := Aside0.mk A180
         clear A180
         have H' := Aside0.mk H
         clear H
         have hcz19_0 : w3.cell? ⟨gb141, 0, none⟩ = some (.int .i64 a0_0) := (blk_cell BK141.out 0).trans rfl
         have hcz19_1 : w3.cell? ⟨gb141, 1, none⟩ = some (.int .i64 a0_1) := (blk_cell BK141.out 1).trans rfl
         have hcz19_2 : w3.cell? ⟨gb141, 2, none⟩ = some (.int .i64 a0_2) := (blk_cell BK141.out 2).trans rfl
         have hcz19_3 : w3.cell? ⟨gb141, 3, none⟩ = some (.int .i64 a0_3) := (blk_cell BK141.out 3).trans rfl
         have hcz19_4 : w3.cell? ⟨gb141, 4, none⟩ = some (.int .i64 a0_4) := (blk_cell BK141.out 4).trans rfl
         have hcz19_5 : w3.cell? ⟨gb141, 5, none⟩ = some (.int .i64 a0_5) := (blk_cell BK141.out 5).trans rfl
         have hcz19_6 : w3.cell? ⟨gb141, 6, none⟩ = some (.float .f64 a0_6) := (blk_cell BK141.out 6).trans rfl
         have hcz19_7 : w3.cell? ⟨gb141, 7, none⟩ = some (.string a0_7) := (blk_cell BK141.out 7).trans rfl
         have hcz19_8 : w3.cell? ⟨gb141, 8, none⟩ = some (.int .i64 a0_8) := (blk_cell BK141.out 8).trans rfl
         have hcz19_9 : w3.cell? ⟨gb141, 9, none⟩ = some (.int .i64 a0_9) := (blk_cell BK141.out 9).trans rfl
         have hcz19_10 : w3.cell? ⟨gb141, 10, none⟩ = some (.int .i64 a0_10) := (blk_cell BK141.out 10).trans rfl
         have hcz19_11 : w3.cell? ⟨gb141, 11, none⟩ = some (.float .f64 a0_11) := (blk_cell BK141.out 11).trans rfl
         have hcz19_12 : w3.cell? ⟨gb141, 12, none⟩ = some (.string a0_12) := (blk_cell BK141.out 12).trans rfl
         have hcz19_13 : w3.cell? ⟨gb141, 13, none⟩ = some (.int .i64 a0_13) := (blk_cell BK141.out 13).trans rfl
         have hfz19_0 := blk_frozen BK141.out 0
         have hfz19_1 := blk_frozen BK141.out 1
         have hfz19_2 := blk_frozen BK141.out 2
         have hfz19_3 := blk_frozen BK141.out 3
         have hfz19_4 := blk_frozen BK141.out 4
         have hfz19_5 := blk_frozen BK141.out 5
         have hfz19_6 := blk_frozen BK141.out 6
         have hfz19_7 := blk_frozen BK141.out 7
         have hfz19_8 := blk_frozen BK141.out 8
         have hfz19_9 := blk_frozen BK141.out 9
         have hfz19_10 := blk_frozen BK141.out 10
         have hfz19_11 := blk_frozen BK141.out 11
         have hfz19_12 := blk_frozen BK141.out 12
         have hfz19_13 := blk_frozen BK141.out 13
         go_wp2_with (first | (go_at_call 19; (with_reducible refine (spec_ValueOk.calls k a0_4 a0_5 a0_6 a0_7 a0_8 true _ A16.out).mono ?_); rintro e w20 ⟨rfl, hb⟩; have n0_ := Aside0.mk (blk_below (g := gb141) (o := .cells #[.int .i64 a0_0, .int .i64 a0_1, .int .i64 a0_2, .int .i64 a0_3, .int .i64 a0_4, .int .i64 a0_5, .float .f64 a0_6, .string a0_7, .int .i64 a0_8, .int .i64 a0_9, .int .i64 a0_10, .float .f64 a0_11, .string a0_12, .int .i64 a0_13] 31 (0, 0)) (by (with_reducible repeat (first | refine blk_drewN ?_ _ | refine blk_drew ?_ | refine blk_alloc ?_ _)); exact BK141.out) hb); have n1_ := Aside0.mk (below_step (by repeat (first | (with_reducible first | exact HB.out | apply below_alloc | apply pw_below_drewN | apply below_drew1 | refine below_set ?_ GE141.out) | exact HB.out)) hb); clear BK141; clear HB; have BK141 := n0_; have HB := n1_; clear n0_ n1_; (try clear hb); (try clear hb2); (try clear hk); (try clear hi); have hcz21_0 : w20.cell? ⟨gb141, 0, none⟩ = some (.int .i64 a0_0) := (blk_cell BK141.out 0).trans rfl; have hcz21_1 : w20.cell? ⟨gb141, 1, none⟩ = some (.int .i64 a0_1) := (blk_cell BK141.out 1).trans rfl; have hcz21_2 : w20.cell? ⟨gb141, 2, none⟩ = some (.int .i64 a0_2) := (blk_cell BK141.out 2).trans rfl; have hcz21_3 : w20.cell? ⟨gb141, 3, none⟩ = some (.int .i64 a0_3) := (blk_cell BK141.out 3).trans rfl; have hcz21_4 : w20.cell? ⟨gb141, 4, none⟩ = some (.int .i64 a0_4) := (blk_cell BK141.out 4).trans rfl; have hcz21_5 : w20.cell? ⟨gb141, 5, none⟩ = some (.int .i64 a0_5) := (blk_cell BK141.out 5).trans rfl; have hcz21_6 : w20.cell? ⟨gb141, 6, none⟩ = some (.float .f64 a0_6) := (blk_cell BK141.out 6).trans rfl; have hcz21_7 : w20.cell? ⟨gb141, 7, none⟩ = some (.string a0_7) := (blk_cell BK141.out 7).trans rfl; have hcz21_8 : w20.cell? ⟨gb141, 8, none⟩ = some (.int .i64 a0_8) := (blk_cell BK141.out 8).trans rfl; have hcz21_9 : w20.cell? ⟨gb141, 9, none⟩ = some (.int .i64 a0_9) := (blk_cell BK141.out 9).trans rfl; have hcz21_10 : w20.cell? ⟨gb141, 10, none⟩ = some (.int .i64 a0_10) := (blk_cell BK141.out 10).trans rfl; have hcz21_11 : w20.cell? ⟨gb141, 11, none⟩ = some (.float .f64 a0_11) := (blk_cell BK141.out 11).trans rfl; have hcz21_12 : w20.cell? ⟨gb141, 12, none⟩ = some (.string a0_12) := (blk_cell BK141.out 12).trans rfl; have hcz21_13 : w20.cell? ⟨gb141, 13, none⟩ = some (.int .i64 a0_13) := (blk_cell BK141.out 13).trans rfl; have hfz21_0 := blk_frozen BK141.out 0; have hfz21_1 := blk_frozen BK141.out 1; have hfz21_2 := blk_frozen BK141.out 2; have hfz21_3 := blk_frozen BK141.out 3; have hfz21_4 := blk_frozen BK141.out 4; have hfz21_5 := blk_frozen BK141.out 5; have hfz21_6 := blk_frozen BK141.out 6; have hfz21_7 := blk_frozen BK141.out 7; have hfz21_8 := blk_frozen BK141.out 8; have hfz21_9 := blk_frozen BK141.out 9; have hfz21_10 := blk_frozen BK141.out 10; have hfz21_11 := blk_frozen BK141.out 11; have hfz21_12 := blk_frozen BK141.out 12; have hfz21_13 := blk_frozen BK141.out 13) | (go_at_call 19; (with_reducible refine (spec_ValueOk.calls k a0_9 a0_10 a0_11 a0_12 a0_13 t143 _ A18.out).mono ?_); rintro e w22 ⟨rfl, hb⟩; have n0_ := Aside0.mk (blk_below (g := gb141) (o := .cells #[.int .i64 a0_0, .int .i64 a0_1, .int .i64 a0_2, .int .i64 a0_3, .int .i64 a0_4, .int .i64 a0_5, .float .f64 a0_6, .string a0_7, .int .i64 a0_8, .int .i64 a0_9, .int .i64 a0_10, .float .f64 a0_11, .string a0_12, .int .i64 a0_13] 31 (0, 0)) (by (with_reducible repeat (first | refine blk_drewN ?_ _ | refine blk_drew ?_ | refine blk_alloc ?_ _)); exact BK141.out) hb); have n1_ := Aside0.mk (below_step (by repeat (first | (with_reducible first | exact HB.out | apply below_alloc | apply pw_below_drewN | apply below_drew1 | refine below_set ?_ GE141.out) | exact HB.out)) hb); clear BK141; clear HB; have BK141 := n0_; have HB := n1_; clear n0_ n1_; (try clear hb); (try clear hb2); (try clear hk); (try clear hi)))
         go_meet
         case rel => exact ⟨_, (!t143), (by first | rfl | (simp; done) | (simp [*]; done)), H', ⟨by first | omega | exact Nat.le_refl _⟩, ⟨by (with_reducible repeat (first | refine blk_drewN ?_ _ | refine blk_drew ?_ | refine blk_alloc ?_ _)); exact BK141.out⟩, ⟨by repeat (first | (with_reducible first | exact HB.out | apply below_alloc | apply pw_below_drewN | apply below_drew1 | refine below_set ?_ GE141.out) | exact HB.out)⟩⟩
        ·replace c17 := Bool.eq_false_iff.mpr c17
         subst c17
         have H1 : (spec_ActOk.j0 k true a0_0 a0_1 a0_2 a0_3 a0_4 a0_5 a0_6 a0_7 a0_8 a0_9 a0_10 a0_11 a0_12 a0_13) = some r := by rw [if_neg (show ¬ (false = true) by decide)] at H; exact H
         clear H
         have H := H1
         clear H1
         have H' := Aside0.mk H
         clear H
         have hcz23_0 : w3.cell? ⟨gb141, 0, none⟩ = some (.int .i64 a0_0) := (blk_cell BK141.out 0).trans rfl
         have hcz23_1 : w3.cell? ⟨gb141, 1, none⟩ = some (.int .i64 a0_1) := (blk_cell BK141.out 1).trans rfl
         have hcz23_2 : w3.cell? ⟨gb141, 2, none⟩ = some (.int .i64 a0_2) := (blk_cell BK141.out 2).trans rfl
         have hcz23_3 : w3.cell? ⟨gb141, 3, none⟩ = some (.int .i64 a0_3) := (blk_cell BK141.out 3).trans rfl
         have hcz23_4 : w3.cell? ⟨gb141, 4, none⟩ = some (.int .i64 a0_4) := (blk_cell BK141.out 4).trans rfl
         have hcz23_5 : w3.cell? ⟨gb141, 5, none⟩ = some (.int .i64 a0_5) := (blk_cell BK141.out 5).trans rfl
         have hcz23_6 : w3.cell? ⟨gb141, 6, none⟩ = some (.float .f64 a0_6) := (blk_cell BK141.out 6).trans rfl
         have hcz23_7 : w3.cell? ⟨gb141, 7, none⟩ = some (.string a0_7) := (blk_cell BK141.out 7).trans rfl
         have hcz23_8 : w3.cell? ⟨gb141, 8, none⟩ = some (.int .i64 a0_8) := (blk_cell BK141.out 8).trans rfl
         have hcz23_9 : w3.cell? ⟨gb141, 9, none⟩ = some (.int .i64 a0_9) := (blk_cell BK141.out 9).trans rfl
         have hcz23_10 : w3.cell? ⟨gb141, 10, none⟩ = some (.int .i64 a0_10) := (blk_cell BK141.out 10).trans rfl
         have hcz23_11 : w3.cell? ⟨gb141, 11, none⟩ = some (.float .f64 a0_11) := (blk_cell BK141.out 11).trans rfl
         have hcz23_12 : w3.cell? ⟨gb141, 12, none⟩ = some (.string a0_12) := (blk_cell BK141.out 12).trans rfl
         have hcz23_13 : w3.cell? ⟨gb141, 13, none⟩ = some (.int .i64 a0_13) := (blk_cell BK141.out 13).trans rfl
         have hfz23_0 := blk_frozen BK141.out 0
         have hfz23_1 := blk_frozen BK141.out 1
         have hfz23_2 := blk_frozen BK141.out 2
         have hfz23_3 := blk_frozen BK141.out 3
         have hfz23_4 := blk_frozen BK141.out 4
         have hfz23_5 := blk_frozen BK141.out 5
         have hfz23_6 := blk_frozen BK141.out 6
         have hfz23_7 := blk_frozen BK141.out 7
         have hfz23_8 := blk_frozen BK141.out 8
         have hfz23_9 := blk_frozen BK141.out 9
         have hfz23_10 := blk_frozen BK141.out 10
         have hfz23_11 := blk_frozen BK141.out 11
         have hfz23_12 := blk_frozen BK141.out 12
         have hfz23_13 := blk_frozen BK141.out 13
         go_wp2_with (first | (go_at_call 19; (with_reducible refine (spec_ValueOk.calls k a0_4 a0_5 a0_6 a0_7 a0_8 false _ A16.out).mono ?_); rintro e w24 ⟨rfl, hb⟩; have n0_ := Aside0.mk (blk_below (g := gb141) (o := .cells #[.int .i64 a0_0, .int .i64 a0_1, .int .i64 a0_2, .int .i64 a0_3, .int .i64 a0_4, .int .i64 a0_5, .float .f64 a0_6, .string a0_7, .int .i64 a0_8, .int .i64 a0_9, .int .i64 a0_10, .float .f64 a0_11, .string a0_12, .int .i64 a0_13] 31 (0, 0)) (by (with_reducible repeat (first | refine blk_drewN ?_ _ | refine blk_drew ?_ | refine blk_alloc ?_ _)); exact BK141.out) hb); have n1_ := Aside0.mk (below_step (by repeat (first | (with_reducible first | exact HB.out | apply below_alloc | apply pw_below_drewN | apply below_drew1 | refine below_set ?_ GE141.out) | exact HB.out)) hb); clear BK141; clear HB; have BK141 := n0_; have HB := n1_; clear n0_ n1_; (try clear hb); (try clear hb2); (try clear hk); (try clear hi)))
         go_meet
         case rel => exact ⟨_, (true), (by first | rfl | (simp; done) | (simp [*]; done)), H', ⟨by first | omega | exact Nat.le_refl _⟩, ⟨by (with_reducible repeat (first | refine blk_drewN ?_ _ | refine blk_drew ?_ | refine blk_alloc ?_ _)); exact BK141.out⟩, ⟨by repeat (first | (with_reducible first | exact HB.out | apply below_alloc | apply pw_below_drewN | apply below_drew1 | refine below_set ?_ GE141.out) | exact HB.out)⟩⟩
 case rest =>
  clear HC2
  try clear c1
  try clear p2
  try clear c4
  try clear c4b0
  try clear c6
  try clear c6b0
  try clear c8
  try clear c8b0
  try clear c10
  try clear c10b0
  try clear c12
  try clear c12b0
  try clear c14
  try clear c14b0
  try clear c17
  try clear hcz11_0
  try clear hcz11_1
  try clear hcz11_10
  try clear hcz11_11
  try clear hcz11_12
  try clear hcz11_13
  try clear hcz11_2
  try clear hcz11_3
  try clear hcz11_4
  try clear hcz11_5
  try clear hcz11_6
  try clear hcz11_7
  try clear hcz11_8
  try clear hcz11_9
  try clear hcz13_0
  try clear hcz13_1
  try clear hcz13_10
  try clear hcz13_11
  try clear hcz13_12
  try clear hcz13_13
  try clear hcz13_2
  try clear hcz13_3
  try clear hcz13_4
  try clear hcz13_5
  try clear hcz13_6
  try clear hcz13_7
  try clear hcz13_8
  try clear hcz13_9
  try clear hcz15_0
  try clear hcz15_1
  try clear hcz15_10
  try clear hcz15_11
  try clear hcz15_12
  try clear hcz15_13
  try clear hcz15_2
  try clear hcz15_3
  try clear hcz15_4
  try clear hcz15_5
  try clear hcz15_6
  try clear hcz15_7
  try clear hcz15_8
  try clear hcz15_9
  try clear hcz19_0
  try clear hcz19_1
  try clear hcz19_10
  try clear hcz19_11
  try clear hcz19_12
  try clear hcz19_13
  try clear hcz19_2
  try clear hcz19_3
  try clear hcz19_4
  try clear hcz19_5
  try clear hcz19_6
  try clear hcz19_7
  try clear hcz19_8
  try clear hcz19_9
  try clear hcz21_0
  try clear hcz21_1
  try clear hcz21_10
  try clear hcz21_11
  try clear hcz21_12
  try clear hcz21_13
  try clear hcz21_2
  try clear hcz21_3
  try clear hcz21_4
  try clear hcz21_5
  try clear hcz21_6
  try clear hcz21_7
  try clear hcz21_8
  try clear hcz21_9
  try clear hcz23_0
  try clear hcz23_1
  try clear hcz23_10
  try clear hcz23_11
  try clear hcz23_12
  try clear hcz23_13
  try clear hcz23_2
  try clear hcz23_3
  try clear hcz23_4
  try clear hcz23_5
  try clear hcz23_6
  try clear hcz23_7
  try clear hcz23_8
  try clear hcz23_9
  try clear hcz5_0
  try clear hcz5_1
  try clear hcz5_10
  try clear hcz5_11
  try clear hcz5_12
  try clear hcz5_13
  try clear hcz5_2
  try clear hcz5_3
  try clear hcz5_4
  try clear hcz5_5
  try clear hcz5_6
  try clear hcz5_7
  try clear hcz5_8
  try clear hcz5_9
  try clear hcz7_0
  try clear hcz7_1
  try clear hcz7_10
  try clear hcz7_11
  try clear hcz7_12
  try clear hcz7_13
  try clear hcz7_2
  try clear hcz7_3
  try clear hcz7_4
  try clear hcz7_5
  try clear hcz7_6
  try clear hcz7_7
  try clear hcz7_8
  try clear hcz7_9
  try clear hcz9_0
  try clear hcz9_1
  try clear hcz9_10
  try clear hcz9_11
  try clear hcz9_12
  try clear hcz9_13
  try clear hcz9_2
  try clear hcz9_3
  try clear hcz9_4
  try clear hcz9_5
  try clear hcz9_6
  try clear hcz9_7
  try clear hcz9_8
  try clear hcz9_9
  try clear hfz11_0
  try clear hfz11_1
  try clear hfz11_10
  try clear hfz11_11
  try clear hfz11_12
  try clear hfz11_13
  try clear hfz11_2
  try clear hfz11_3
  try clear hfz11_4
  try clear hfz11_5
  try clear hfz11_6
  try clear hfz11_7
  try clear hfz11_8
  try clear hfz11_9
  try clear hfz13_0
  try clear hfz13_1
  try clear hfz13_10
  try clear hfz13_11
  try clear hfz13_12
  try clear hfz13_13
  try clear hfz13_2
  try clear hfz13_3
  try clear hfz13_4
  try clear hfz13_5
  try clear hfz13_6
  try clear hfz13_7
  try clear hfz13_8
  try clear hfz13_9
  try clear hfz15_0
  try clear hfz15_1
  try clear hfz15_10
  try clear hfz15_11
  try clear hfz15_12
  try clear hfz15_13
  try clear hfz15_2
  try clear hfz15_3
  try clear hfz15_4
  try clear hfz15_5
  try clear hfz15_6
  try clear hfz15_7
  try clear hfz15_8
  try clear hfz15_9
  try clear hfz19_0
  try clear hfz19_1
  try clear hfz19_10
  try clear hfz19_11
  try clear hfz19_12
  try clear hfz19_13
  try clear hfz19_2
  try clear hfz19_3
  try clear hfz19_4
  try clear hfz19_5
  try clear hfz19_6
  try clear hfz19_7
  try clear hfz19_8
  try clear hfz19_9
  try clear hfz21_0
  try clear hfz21_1
  try clear hfz21_10
  try clear hfz21_11
  try clear hfz21_12
  try clear hfz21_13
  try clear hfz21_2
  try clear hfz21_3
  try clear hfz21_4
  try clear hfz21_5
  try clear hfz21_6
  try clear hfz21_7
  try clear hfz21_8
  try clear hfz21_9
  try clear hfz23_0
  try clear hfz23_1
  try clear hfz23_10
  try clear hfz23_11
  try clear hfz23_12
  try clear hfz23_13
  try clear hfz23_2
  try clear hfz23_3
  try clear hfz23_4
  try clear hfz23_5
  try clear hfz23_6
  try clear hfz23_7
  try clear hfz23_8
  try clear hfz23_9
  try clear hfz5_0
  try clear hfz5_1
  try clear hfz5_10
  try clear hfz5_11
  try clear hfz5_12
  try clear hfz5_13
  try clear hfz5_2
  try clear hfz5_3
  try clear hfz5_4
  try clear hfz5_5
  try clear hfz5_6
  try clear hfz5_7
  try clear hfz5_8
  try clear hfz5_9
  try clear hfz7_0
  try clear hfz7_1
  try clear hfz7_10
  try clear hfz7_11
  try clear hfz7_12
  try clear hfz7_13
  try clear hfz7_2
  try clear hfz7_3
  try clear hfz7_4
  try clear hfz7_5
  try clear hfz7_6
  try clear hfz7_7
  try clear hfz7_8
  try clear hfz7_9
  try clear hfz9_0
  try clear hfz9_1
  try clear hfz9_10
  try clear hfz9_11
  try clear hfz9_12
  try clear hfz9_13
  try clear hfz9_2
  try clear hfz9_3
  try clear hfz9_4
  try clear hfz9_5
  try clear hfz9_6
  try clear hfz9_7
  try clear hfz9_8
  try clear hfz9_9
  obtain ⟨kq, x42_1, rfl, HA, HJ1, BK141, HB⟩ := hcut
  cases kq with
  | zero => exact absurd HA.out (by simp [spec_ActOk.j0])
  | succ kj1 =>
   have H := HA.out
   clear HA
   simp only [spec_ActOk.j0] at H
   by_cases c25 : x42_1 = true
   ·subst c25
    have H1 : (some false) = some r := by rw [if_pos rfl] at H; exact H
    clear H
    have H := H1
    clear H1
    obtain rfl := Option.some.inj H
    go_wp2
    go_ret
    exact ⟨by first | rfl | (simp [errW_none, errW_some] <;> rfl) | (simp [*, errW_none, errW_some] <;> rfl), by repeat (first | (with_reducible first | exact HB.out | apply below_alloc | apply pw_below_drewN | apply below_drew1 | refine below_set ?_ GE141.out) | exact HB.out)⟩
   ·replace c25 := Bool.eq_false_iff.mpr c25
    subst c25
    have H1 : (if a0_0 = 1 then ((spec_l4bare.f kj1 a0_0 a0_1 a0_2 a0_3 a0_4 a0_5 a0_6 a0_7 a0_8 a0_9 a0_10 a0_11 a0_12 a0_13 false false false false false).bind fun t144 => (some t144)) else (if a0_0 = 2 then ((spec_l4bare.f kj1 a0_0 a0_1 a0_2 a0_3 a0_4 a0_5 a0_6 a0_7 a0_8 a0_9 a0_10 a0_11 a0_12 a0_13 true false false true true).bind fun t145 => (some t145)) else (if a0_0 = 3 then ((spec_l4bare.f kj1 a0_0 a0_1 a0_2 a0_3 a0_4 a0_5 a0_6 a0_7 a0_8 a0_9 a0_10 a0_11 a0_12 a0_13 true false false true false).bind fun t146 => (some t146)) else (if a0_0 = 4 then ((spec_l4bare.f kj1 a0_0 a0_1 a0_2 a0_3 a0_4 a0_5 a0_6 a0_7 a0_8 a0_9 a0_10 a0_11 a0_12 a0_13 true false true false false).bind fun t147 => (some t147)) else (if a0_0 = 5 then (spec_ActOk.j1 kj1 a0_0 (a0_0 == 5) a0_0 a0_1 a0_2 a0_3 a0_4 a0_5 a0_6 a0_7 a0_8 a0_9 a0_10 a0_11 a0_12 a0_13) else (spec_ActOk.j1 kj1 a0_0 (a0_0 == 6) a0_0 a0_1 a0_2 a0_3 a0_4 a0_5 a0_6 a0_7 a0_8 a0_9 a0_10 a0_11 a0_12 a0_13)))))) = some r := by rw [if_neg (show ¬ (false = true) by decide)] at H; exact H
    clear H
    have H := H1
    clear H1
    by_cases c26 : a0_0 = 1
    ·rw [if_pos c26] at H
     have c26b0 : (a0_0 == 1) = true := beq_iff_eq.mpr c26
     have c26b1 : (a0_0 != 1) = false := bne_eq_false_iff_eq.mpr c26
     clear c26
     replace H := Option.bind_eq_some_iff.mp H
     obtain ⟨t144, A270, H⟩ := H
     replace H : (some t144) = some r := H
     have A27 := Aside0.mk A270
     clear A270
     obtain rfl := Option.some.inj H
     have hcz28_0 : wc.cell? ⟨gb141, 0, none⟩ = some (.int .i64 a0_0) := (blk_cell BK141.out 0).trans rfl
     have hcz28_1 : wc.cell? ⟨gb141, 1, none⟩ = some (.int .i64 a0_1) := (blk_cell BK141.out 1).trans rfl
     have hcz28_2 : wc.cell? ⟨gb141, 2, none⟩ = some (.int .i64 a0_2) := (blk_cell BK141.out 2).trans rfl
     have hcz28_3 : wc.cell? ⟨gb141, 3, none⟩ = some (.int .i64 a0_3) := (blk_cell BK141.out 3).trans rfl
     have hcz28_4 : wc.cell? ⟨gb141, 4, none⟩ = some (.int .i64 a0_4) := (blk_cell BK141.out 4).trans rfl
     have hcz28_5 : wc.cell? ⟨gb141, 5, none⟩ = some (.int .i64 a0_5) := (blk_cell BK141.out 5).trans rfl
     have hcz28_6 : wc.cell? ⟨gb141, 6, none⟩ = some (.float .f64 a0_6) := (blk_cell BK141.out 6).trans rfl
     have hcz28_7 : wc.cell? ⟨gb141, 7, none⟩ = some (.string a0_7) := (blk_cell BK141.out 7).trans rfl
     have hcz28_8 : wc.cell? ⟨gb141, 8, none⟩ = some (.int .i64 a0_8) := (blk_cell BK141.out 8).trans rfl
     have hcz28_9 : wc.cell? ⟨gb141, 9, none⟩ = some (.int .i64 a0_9) := (blk_cell BK141.out 9).trans rfl
     have hcz28_10 : wc.cell? ⟨gb141, 10, none⟩ = some (.int .i64 a0_10) := (blk_cell BK141.out 10).trans rfl
     have hcz28_11 : wc.cell? ⟨gb141, 11, none⟩ = some (.float .f64 a0_11) := (blk_cell BK141.out 11).trans rfl
     have hcz28_12 : wc.cell? ⟨gb141, 12, none⟩ = some (.string a0_12) := (blk_cell BK141.out 12).trans rfl
     have hcz28_13 : wc.cell? ⟨gb141, 13, none⟩ = some (.int .i64 a0_13) := (blk_cell BK141.out 13).trans rfl
     have hfz28_0 := blk_frozen BK141.out 0
     have hfz28_1 := blk_frozen BK141.out 1
     have hfz28_2 := blk_frozen BK141.out 2
     have hfz28_3 := blk_frozen BK141.out 3
     have hfz28_4 := blk_frozen BK141.out 4
     have hfz28_5 := blk_frozen BK141.out 5
     have hfz28_6 := blk_frozen BK141.out 6
     have hfz28_7 := blk_frozen BK141.out 7
     have hfz28_8 := blk_frozen BK141.out 8
     have hfz28_9 := blk_frozen BK141.out 9
     have hfz28_10 := blk_frozen BK141.out 10
     have hfz28_11 := blk_frozen BK141.out 11
     have hfz28_12 := blk_frozen BK141.out 12
     have hfz28_13 := blk_frozen BK141.out 13
     go_wp2_with (first | ((with_reducible refine gate_callee (f := 20) rfl ?_); refine goesL_ (some 48) rfl rfl Tryd.func20 (by kernel_rfl) rfl #[.agg #[.int .i64 a0_0, .int .i64 a0_1, .int .i64 a0_2, .int .i64 a0_3, .int .i64 a0_4, .int .i64 a0_5, .float .f64 a0_6, .string a0_7, .int .i64 a0_8, .int .i64 a0_9, .int .i64 a0_10, .float .f64 a0_11, .string a0_12, .int .i64 a0_13], .bool false, .bool false, .bool false, .bool false, .bool false] rfl (by (try simp only [List.map_toArray, List.map_cons, List.map_nil]); first | done | rfl | (simp only [List.length_drop, List.length_take]; rfl)) ?_; (with_reducible refine (spec_l4bare.calls kj1 a0_0 a0_1 a0_2 a0_3 a0_4 a0_5 a0_6 a0_7 a0_8 a0_9 a0_10 a0_11 a0_12 a0_13 false false false false false t144 _ A27.out).mono ?_); rintro e w29 ⟨rfl, hb⟩; refine ⟨_, rfl, ?_⟩; have n0_ := Aside0.mk (blk_below (g := gb141) (o := .cells #[.int .i64 a0_0, .int .i64 a0_1, .int .i64 a0_2, .int .i64 a0_3, .int .i64 a0_4, .int .i64 a0_5, .float .f64 a0_6, .string a0_7, .int .i64 a0_8, .int .i64 a0_9, .int .i64 a0_10, .float .f64 a0_11, .string a0_12, .int .i64 a0_13] 31 (0, 0)) (by (with_reducible repeat (first | refine blk_drewN ?_ _ | refine blk_drew ?_ | refine blk_alloc ?_ _)); exact BK141.out) hb); have n1_ := Aside0.mk (below_step (by repeat (first | (with_reducible first | exact HB.out | apply below_alloc | apply pw_below_drewN | apply below_drew1 | refine below_set ?_ GE141.out) | exact HB.out)) hb); clear BK141; clear HB; have BK141 := n0_; have HB := n1_; clear n0_ n1_; (try clear hb); (try clear hb2); (try clear hk); (try clear hi)))
     go_ret
     exact ⟨by first | rfl | (simp [errW_none, errW_some] <;> rfl) | (simp [*, errW_none, errW_some] <;> rfl), by repeat (first | (with_reducible first | exact HB.out | apply below_alloc | apply pw_below_drewN | apply below_drew1 | refine below_set ?_ GE141.out) | exact HB.out)⟩
    ·rw [if_neg c26] at H
     have c26b0 : (a0_0 == 1) = false := beq_eq_false_iff_ne.mpr c26
     have c26b1 : (a0_0 != 1) = true := bne_iff_ne.mpr c26
     by_cases c30 : a0_0 = 2
     ·rw [if_pos c30] at H
      have c30b0 : (a0_0 == 2) = true := beq_iff_eq.mpr c30
      have c30b1 : (a0_0 != 2) = false := bne_eq_false_iff_eq.mpr c30
      clear c30
      replace H := Option.bind_eq_some_iff.mp H
      obtain ⟨t145, A310, H⟩ := H
      replace H : (some t145) = some r := H
      have A31 := Aside0.mk A310
      clear A310
      obtain rfl := Option.some.inj H
      have hcz32_0 : wc.cell? ⟨gb141, 0, none⟩ = some (.int .i64 a0_0) := (blk_cell BK141.out 0).trans rfl
      have hcz32_1 : wc.cell? ⟨gb141, 1, none⟩ = some (.int .i64 a0_1) := (blk_cell BK141.out 1).trans rfl
      have hcz32_2 : wc.cell? ⟨gb141, 2, none⟩ = some (.int .i64 a0_2) := (blk_cell BK141.out 2).trans rfl
      have hcz32_3 : wc.cell? ⟨gb141, 3, none⟩ = some (.int .i64 a0_3) := (blk_cell BK141.out 3).trans rfl
      have hcz32_4 : wc.cell? ⟨gb141, 4, none⟩ = some (.int .i64 a0_4) := (blk_cell BK141.out 4).trans rfl
      have hcz32_5 : wc.cell? ⟨gb141, 5, none⟩ = some (.int .i64 a0_5) := (blk_cell BK141.out 5).trans rfl
      have hcz32_6 : wc.cell? ⟨gb141, 6, none⟩ = some (.float .f64 a0_6) := (blk_cell BK141.out 6).trans rfl
      have hcz32_7 : wc.cell? ⟨gb141, 7, none⟩ = some (.string a0_7) := (blk_cell BK141.out 7).trans rfl
      have hcz32_8 : wc.cell? ⟨gb141, 8, none⟩ = some (.int .i64 a0_8) := (blk_cell BK141.out 8).trans rfl
      have hcz32_9 : wc.cell? ⟨gb141, 9, none⟩ = some (.int .i64 a0_9) := (blk_cell BK141.out 9).trans rfl
      have hcz32_10 : wc.cell? ⟨gb141, 10, none⟩ = some (.int .i64 a0_10) := (blk_cell BK141.out 10).trans rfl
      have hcz32_11 : wc.cell? ⟨gb141, 11, none⟩ = some (.float .f64 a0_11) := (blk_cell BK141.out 11).trans rfl
      have hcz32_12 : wc.cell? ⟨gb141, 12, none⟩ = some (.string a0_12) := (blk_cell BK141.out 12).trans rfl
      have hcz32_13 : wc.cell? ⟨gb141, 13, none⟩ = some (.int .i64 a0_13) := (blk_cell BK141.out 13).trans rfl
      have hfz32_0 := blk_frozen BK141.out 0
      have hfz32_1 := blk_frozen BK141.out 1
      have hfz32_2 := blk_frozen BK141.out 2
      have hfz32_3 := blk_frozen BK141.out 3
      have hfz32_4 := blk_frozen BK141.out 4
      have hfz32_5 := blk_frozen BK141.out 5
      have hfz32_6 := blk_frozen BK141.out 6
      have hfz32_7 := blk_frozen BK141.out 7
      have hfz32_8 := blk_frozen BK141.out 8
      have hfz32_9 := blk_frozen BK141.out 9
      have hfz32_10 := blk_frozen BK141.out 10
      have hfz32_11 := blk_frozen BK141.out 11
      have hfz32_12 := blk_frozen BK141.out 12
      have hfz32_13 := blk_frozen BK141.out 13
      go_wp2_with (first | ((with_reducible refine gate_callee (f := 20) rfl ?_); refine goesL_ (some 52) rfl rfl Tryd.func20 (by kernel_rfl) rfl #[.agg #[.int .i64 a0_0, .int .i64 a0_1, .int .i64 a0_2, .int .i64 a0_3, .int .i64 a0_4, .int .i64 a0_5, .float .f64 a0_6, .string a0_7, .int .i64 a0_8, .int .i64 a0_9, .int .i64 a0_10, .float .f64 a0_11, .string a0_12, .int .i64 a0_13], .bool true, .bool false, .bool false, .bool true, .bool true] rfl (by (try simp only [List.map_toArray, List.map_cons, List.map_nil]); first | done | rfl | (simp only [List.length_drop, List.length_take]; rfl)) ?_; (with_reducible refine (spec_l4bare.calls kj1 a0_0 a0_1 a0_2 a0_3 a0_4 a0_5 a0_6 a0_7 a0_8 a0_9 a0_10 a0_11 a0_12 a0_13 true false false true true t145 _ A31.out).mono ?_); rintro e w33 ⟨rfl, hb⟩; refine ⟨_, rfl, ?_⟩; have n0_ := Aside0.mk (blk_below (g := gb141) (o := .cells #[.int .i64 a0_0, .int .i64 a0_1, .int .i64 a0_2, .int .i64 a0_3, .int .i64 a0_4, .int .i64 a0_5, .float .f64 a0_6, .string a0_7, .int .i64 a0_8, .int .i64 a0_9, .int .i64 a0_10, .float .f64 a0_11, .string a0_12, .int .i64 a0_13] 31 (0, 0)) (by (with_reducible repeat (first | refine blk_drewN ?_ _ | refine blk_drew ?_ | refine blk_alloc ?_ _)); exact BK141.out) hb); have n1_ := Aside0.mk (below_step (by repeat (first | (with_reducible first | exact HB.out | apply below_alloc | apply pw_below_drewN | apply below_drew1 | refine below_set ?_ GE141.out) | exact HB.out)) hb); clear BK141; clear HB; have BK141 := n0_; have HB := n1_; clear n0_ n1_; (try clear hb); (try clear hb2); (try clear hk); (try clear hi)))
      go_ret
      exact ⟨by first | rfl | (simp [errW_none, errW_some] <;> rfl) | (simp [*, errW_none, errW_some] <;> rfl), by repeat (first | (with_reducible first | exact HB.out | apply below_alloc | apply pw_below_drewN | apply below_drew1 | refine below_set ?_ GE141.out) | exact HB.out)⟩
     ·rw [if_neg c30] at H
      have c30b0 : (a0_0 == 2) = false := beq_eq_false_iff_ne.mpr c30
      have c30b1 : (a0_0 != 2) = true := bne_iff_ne.mpr c30
      by_cases c34 : a0_0 = 3
      ·rw [if_pos c34] at H
       have c34b0 : (a0_0 == 3) = true := beq_iff_eq.mpr c34
       have c34b1 : (a0_0 != 3) = false := bne_eq_false_iff_eq.mpr c34
       clear c34
       replace H := Option.bind_eq_some_iff.mp H
       obtain ⟨t146, A350, H⟩ := H
       replace H : (some t146) = some r := H
       have A35 := Aside0.mk A350
       clear A350
       obtain rfl := Option.some.inj H
       have hcz36_0 : wc.cell? ⟨gb141, 0, none⟩ = some (.int .i64 a0_0) := (blk_cell BK141.out 0).trans rfl
       have hcz36_1 : wc.cell? ⟨gb141, 1, none⟩ = some (.int .i64 a0_1) := (blk_cell BK141.out 1).trans rfl
       have hcz36_2 : wc.cell? ⟨gb141, 2, none⟩ = some (.int .i64 a0_2) := (blk_cell BK141.out 2).trans rfl
       have hcz36_3 : wc.cell? ⟨gb141, 3, none⟩ = some (.int .i64 a0_3) := (blk_cell BK141.out 3).trans rfl
       have hcz36_4 : wc.cell? ⟨gb141, 4, none⟩ = some (.int .i64 a0_4) := (blk_cell BK141.out 4).trans rfl
       have hcz36_5 : wc.cell? ⟨gb141, 5, none⟩ = some (.int .i64 a0_5) := (blk_cell BK141.out 5).trans rfl
       have hcz36_6 : wc.cell? ⟨gb141, 6, none⟩ = some (.float .f64 a0_6) := (blk_cell BK141.out 6).trans rfl
       have hcz36_7 : wc.cell? ⟨gb141, 7, none⟩ = some (.string a0_7) := (blk_cell BK141.out 7).trans rfl
       have hcz36_8 : wc.cell? ⟨gb141, 8, none⟩ = some (.int .i64 a0_8) := (blk_cell BK141.out 8).trans rfl
       have hcz36_9 : wc.cell? ⟨gb141, 9, none⟩ = some (.int .i64 a0_9) := (blk_cell BK141.out 9).trans rfl
       have hcz36_10 : wc.cell? ⟨gb141, 10, none⟩ = some (.int .i64 a0_10) := (blk_cell BK141.out 10).trans rfl
       have hcz36_11 : wc.cell? ⟨gb141, 11, none⟩ = some (.float .f64 a0_11) := (blk_cell BK141.out 11).trans rfl
       have hcz36_12 : wc.cell? ⟨gb141, 12, none⟩ = some (.string a0_12) := (blk_cell BK141.out 12).trans rfl
       have hcz36_13 : wc.cell? ⟨gb141, 13, none⟩ = some (.int .i64 a0_13) := (blk_cell BK141.out 13).trans rfl
       have hfz36_0 := blk_frozen BK141.out 0
       have hfz36_1 := blk_frozen BK141.out 1
       have hfz36_2 := blk_frozen BK141.out 2
       have hfz36_3 := blk_frozen BK141.out 3
       have hfz36_4 := blk_frozen BK141.out 4
       have hfz36_5 := blk_frozen BK141.out 5
       have hfz36_6 := blk_frozen BK141.out 6
       have hfz36_7 := blk_frozen BK141.out 7
       have hfz36_8 := blk_frozen BK141.out 8
       have hfz36_9 := blk_frozen BK141.out 9
       have hfz36_10 := blk_frozen BK141.out 10
       have hfz36_11 := blk_frozen BK141.out 11
       have hfz36_12 := blk_frozen BK141.out 12
       have hfz36_13 := blk_frozen BK141.out 13
       go_wp2_with (first | ((with_reducible refine gate_callee (f := 20) rfl ?_); refine goesL_ (some 56) rfl rfl Tryd.func20 (by kernel_rfl) rfl #[.agg #[.int .i64 a0_0, .int .i64 a0_1, .int .i64 a0_2, .int .i64 a0_3, .int .i64 a0_4, .int .i64 a0_5, .float .f64 a0_6, .string a0_7, .int .i64 a0_8, .int .i64 a0_9, .int .i64 a0_10, .float .f64 a0_11, .string a0_12, .int .i64 a0_13], .bool true, .bool false, .bool false, .bool true, .bool false] rfl (by (try simp only [List.map_toArray, List.map_cons, List.map_nil]); first | done | rfl | (simp only [List.length_drop, List.length_take]; rfl)) ?_; (with_reducible refine (spec_l4bare.calls kj1 a0_0 a0_1 a0_2 a0_3 a0_4 a0_5 a0_6 a0_7 a0_8 a0_9 a0_10 a0_11 a0_12 a0_13 true false false true false t146 _ A35.out).mono ?_); rintro e w37 ⟨rfl, hb⟩; refine ⟨_, rfl, ?_⟩; have n0_ := Aside0.mk (blk_below (g := gb141) (o := .cells #[.int .i64 a0_0, .int .i64 a0_1, .int .i64 a0_2, .int .i64 a0_3, .int .i64 a0_4, .int .i64 a0_5, .float .f64 a0_6, .string a0_7, .int .i64 a0_8, .int .i64 a0_9, .int .i64 a0_10, .float .f64 a0_11, .string a0_12, .int .i64 a0_13] 31 (0, 0)) (by (with_reducible repeat (first | refine blk_drewN ?_ _ | refine blk_drew ?_ | refine blk_alloc ?_ _)); exact BK141.out) hb); have n1_ := Aside0.mk (below_step (by repeat (first | (with_reducible first | exact HB.out | apply below_alloc | apply pw_below_drewN | apply below_drew1 | refine below_set ?_ GE141.out) | exact HB.out)) hb); clear BK141; clear HB; have BK141 := n0_; have HB := n1_; clear n0_ n1_; (try clear hb); (try clear hb2); (try clear hk); (try clear hi)))
       go_ret
       exact ⟨by first | rfl | (simp [errW_none, errW_some] <;> rfl) | (simp [*, errW_none, errW_some] <;> rfl), by repeat (first | (with_reducible first | exact HB.out | apply below_alloc | apply pw_below_drewN | apply below_drew1 | refine below_set ?_ GE141.out) | exact HB.out)⟩
      ·rw [if_neg c34] at H
       have c34b0 : (a0_0 == 3) = false := beq_eq_false_iff_ne.mpr c34
       have c34b1 : (a0_0 != 3) = true := bne_iff_ne.mpr c34
       by_cases c38 : a0_0 = 4
       ·rw [if_pos c38] at H
        have c38b0 : (a0_0 == 4) = true := beq_iff_eq.mpr c38
        have c38b1 : (a0_0 != 4) = false := bne_eq_false_iff_eq.mpr c38
        clear c38
        replace H := Option.bind_eq_some_iff.mp H
        obtain ⟨t147, A390, H⟩ := H
        replace H : (some t147) = some r := H
        have A39 := Aside0.mk A390
        clear A390
        obtain rfl := Option.some.inj H
        have hcz40_0 : wc.cell? ⟨gb141, 0, none⟩ = some (.int .i64 a0_0) := (blk_cell BK141.out 0).trans rfl
        have hcz40_1 : wc.cell? ⟨gb141, 1, none⟩ = some (.int .i64 a0_1) := (blk_cell BK141.out 1).trans rfl
        have hcz40_2 : wc.cell? ⟨gb141, 2, none⟩ = some (.int .i64 a0_2) := (blk_cell BK141.out 2).trans rfl
        have hcz40_3 : wc.cell? ⟨gb141, 3, none⟩ = some (.int .i64 a0_3) := (blk_cell BK141.out 3).trans rfl
        have hcz40_4 : wc.cell? ⟨gb141, 4, none⟩ = some (.int .i64 a0_4) := (blk_cell BK141.out 4).trans rfl
        have hcz40_5 : wc.cell? ⟨gb141, 5, none⟩ = some (.int .i64 a0_5) := (blk_cell BK141.out 5).trans rfl
        have hcz40_6 : wc.cell? ⟨gb141, 6, none⟩ = some (.float .f64 a0_6) := (blk_cell BK141.out 6).trans rfl
        have hcz40_7 : wc.cell? ⟨gb141, 7, none⟩ = some (.string a0_7) := (blk_cell BK141.out 7).trans rfl
        have hcz40_8 : wc.cell? ⟨gb141, 8, none⟩ = some (.int .i64 a0_8) := (blk_cell BK141.out 8).trans rfl
        have hcz40_9 : wc.cell? ⟨gb141, 9, none⟩ = some (.int .i64 a0_9) := (blk_cell BK141.out 9).trans rfl
        have hcz40_10 : wc.cell? ⟨gb141, 10, none⟩ = some (.int .i64 a0_10) := (blk_cell BK141.out 10).trans rfl
        have hcz40_11 : wc.cell? ⟨gb141, 11, none⟩ = some (.float .f64 a0_11) := (blk_cell BK141.out 11).trans rfl
        have hcz40_12 : wc.cell? ⟨gb141, 12, none⟩ = some (.string a0_12) := (blk_cell BK141.out 12).trans rfl
        have hcz40_13 : wc.cell? ⟨gb141, 13, none⟩ = some (.int .i64 a0_13) := (blk_cell BK141.out 13).trans rfl
        have hfz40_0 := blk_frozen BK141.out 0
        have hfz40_1 := blk_frozen BK141.out 1
        have hfz40_2 := blk_frozen BK141.out 2
        have hfz40_3 := blk_frozen BK141.out 3
        have hfz40_4 := blk_frozen BK141.out 4
        have hfz40_5 := blk_frozen BK141.out 5
        have hfz40_6 := blk_frozen BK141.out 6
        have hfz40_7 := blk_frozen BK141.out 7
        have hfz40_8 := blk_frozen BK141.out 8
        have hfz40_9 := blk_frozen BK141.out 9
        have hfz40_10 := blk_frozen BK141.out 10
        have hfz40_11 := blk_frozen BK141.out 11
        have hfz40_12 := blk_frozen BK141.out 12
        have hfz40_13 := blk_frozen BK141.out 13
        go_wp2_with (first | ((with_reducible refine gate_callee (f := 20) rfl ?_); refine goesL_ (some 60) rfl rfl Tryd.func20 (by kernel_rfl) rfl #[.agg #[.int .i64 a0_0, .int .i64 a0_1, .int .i64 a0_2, .int .i64 a0_3, .int .i64 a0_4, .int .i64 a0_5, .float .f64 a0_6, .string a0_7, .int .i64 a0_8, .int .i64 a0_9, .int .i64 a0_10, .float .f64 a0_11, .string a0_12, .int .i64 a0_13], .bool true, .bool false, .bool true, .bool false, .bool false] rfl (by (try simp only [List.map_toArray, List.map_cons, List.map_nil]); first | done | rfl | (simp only [List.length_drop, List.length_take]; rfl)) ?_; (with_reducible refine (spec_l4bare.calls kj1 a0_0 a0_1 a0_2 a0_3 a0_4 a0_5 a0_6 a0_7 a0_8 a0_9 a0_10 a0_11 a0_12 a0_13 true false true false false t147 _ A39.out).mono ?_); rintro e w41 ⟨rfl, hb⟩; refine ⟨_, rfl, ?_⟩; have n0_ := Aside0.mk (blk_below (g := gb141) (o := .cells #[.int .i64 a0_0, .int .i64 a0_1, .int .i64 a0_2, .int .i64 a0_3, .int .i64 a0_4, .int .i64 a0_5, .float .f64 a0_6, .string a0_7, .int .i64 a0_8, .int .i64 a0_9, .int .i64 a0_10, .float .f64 a0_11, .string a0_12, .int .i64 a0_13] 31 (0, 0)) (by (with_reducible repeat (first | refine blk_drewN ?_ _ | refine blk_drew ?_ | refine blk_alloc ?_ _)); exact BK141.out) hb); have n1_ := Aside0.mk (below_step (by repeat (first | (with_reducible first | exact HB.out | apply below_alloc | apply pw_below_drewN | apply below_drew1 | refine below_set ?_ GE141.out) | exact HB.out)) hb); clear BK141; clear HB; have BK141 := n0_; have HB := n1_; clear n0_ n1_; (try clear hb); (try clear hb2); (try clear hk); (try clear hi)))
        go_ret
        exact ⟨by first | rfl | (simp [errW_none, errW_some] <;> rfl) | (simp [*, errW_none, errW_some] <;> rfl), by repeat (first | (with_reducible first | exact HB.out | apply below_alloc | apply pw_below_drewN | apply below_drew1 | refine below_set ?_ GE141.out) | exact HB.out)⟩
       ·rw [if_neg c38] at H
        have c38b0 : (a0_0 == 4) = false := beq_eq_false_iff_ne.mpr c38
        have c38b1 : (a0_0 != 4) = true := bne_iff_ne.mpr c38
        have HC42 := Aside0.mk H
        clear H
        have hcz43_0 : wc.cell? ⟨gb141, 0, none⟩ = some (.int .i64 a0_0) := (blk_cell BK141.out 0).trans rfl
        have hcz43_1 : wc.cell? ⟨gb141, 1, none⟩ = some (.int .i64 a0_1) := (blk_cell BK141.out 1).trans rfl
        have hcz43_2 : wc.cell? ⟨gb141, 2, none⟩ = some (.int .i64 a0_2) := (blk_cell BK141.out 2).trans rfl
        have hcz43_3 : wc.cell? ⟨gb141, 3, none⟩ = some (.int .i64 a0_3) := (blk_cell BK141.out 3).trans rfl
        have hcz43_4 : wc.cell? ⟨gb141, 4, none⟩ = some (.int .i64 a0_4) := (blk_cell BK141.out 4).trans rfl
        have hcz43_5 : wc.cell? ⟨gb141, 5, none⟩ = some (.int .i64 a0_5) := (blk_cell BK141.out 5).trans rfl
        have hcz43_6 : wc.cell? ⟨gb141, 6, none⟩ = some (.float .f64 a0_6) := (blk_cell BK141.out 6).trans rfl
        have hcz43_7 : wc.cell? ⟨gb141, 7, none⟩ = some (.string a0_7) := (blk_cell BK141.out 7).trans rfl
        have hcz43_8 : wc.cell? ⟨gb141, 8, none⟩ = some (.int .i64 a0_8) := (blk_cell BK141.out 8).trans rfl
        have hcz43_9 : wc.cell? ⟨gb141, 9, none⟩ = some (.int .i64 a0_9) := (blk_cell BK141.out 9).trans rfl
        have hcz43_10 : wc.cell? ⟨gb141, 10, none⟩ = some (.int .i64 a0_10) := (blk_cell BK141.out 10).trans rfl
        have hcz43_11 : wc.cell? ⟨gb141, 11, none⟩ = some (.float .f64 a0_11) := (blk_cell BK141.out 11).trans rfl
        have hcz43_12 : wc.cell? ⟨gb141, 12, none⟩ = some (.string a0_12) := (blk_cell BK141.out 12).trans rfl
        have hcz43_13 : wc.cell? ⟨gb141, 13, none⟩ = some (.int .i64 a0_13) := (blk_cell BK141.out 13).trans rfl
        have hfz43_0 := blk_frozen BK141.out 0
        have hfz43_1 := blk_frozen BK141.out 1
        have hfz43_2 := blk_frozen BK141.out 2
        have hfz43_3 := blk_frozen BK141.out 3
        have hfz43_4 := blk_frozen BK141.out 4
        have hfz43_5 := blk_frozen BK141.out 5
        have hfz43_6 := blk_frozen BK141.out 6
        have hfz43_7 := blk_frozen BK141.out 7
        have hfz43_8 := blk_frozen BK141.out 8
        have hfz43_9 := blk_frozen BK141.out 9
        have hfz43_10 := blk_frozen BK141.out 10
        have hfz43_11 := blk_frozen BK141.out 11
        have hfz43_12 := blk_frozen BK141.out 12
        have hfz43_13 := blk_frozen BK141.out 13
        go_upto_if 61 with (fail)
        go_cut [61] (fun v61 wc => ∃ (kq : Nat) (x61_41 : Bool), v61 = .bool x61_41 ∧ Aside0 (spec_ActOk.j1 kq a0_0 x61_41 a0_0 a0_1 a0_2 a0_3 a0_4 a0_5 a0_6 a0_7 a0_8 a0_9 a0_10 a0_11 a0_12 a0_13 = some r) ∧ Aside0 (kq ≤ kj1) ∧ Aside0 (wc.heap[gb141]? = some (.cells #[.int .i64 a0_0, .int .i64 a0_1, .int .i64 a0_2, .int .i64 a0_3, .int .i64 a0_4, .int .i64 a0_5, .float .f64 a0_6, .string a0_7, .int .i64 a0_8, .int .i64 a0_9, .int .i64 a0_10, .float .f64 a0_11, .string a0_12, .int .i64 a0_13] 31 (0, 0))) ∧ Aside0 (Below w.heap.size w wc))
        case first =>
         have H := HC42.out
         clear HC42
         by_cases c44 : a0_0 = 5
         ·rw [if_pos c44] at H
          have c44b0 : (a0_0 == 5) = true := beq_iff_eq.mpr c44
          have c44b1 : (a0_0 != 5) = false := bne_eq_false_iff_eq.mpr c44
          clear c44
          (first | rw [c44b0] | (simp only [i64_w, i32_w]; rw [c44b0]) | skip)
          have H' := Aside0.mk H
          clear H
          go_wp2
          go_meet
          case rel => exact ⟨_, ((a0_0 == 5)), (by first | rfl | (simp; done) | (simp [*]; done)), H', ⟨by have := HJ1.out; first | omega | exact Nat.le_refl _⟩, ⟨by (with_reducible repeat (first | refine blk_drewN ?_ _ | refine blk_drew ?_ | refine blk_alloc ?_ _)); exact BK141.out⟩, ⟨by repeat (first | (with_reducible first | exact HB.out | apply below_alloc | apply pw_below_drewN | apply below_drew1 | refine below_set ?_ GE141.out) | exact HB.out)⟩⟩
         ·rw [if_neg c44] at H
          have c44b0 : (a0_0 == 5) = false := beq_eq_false_iff_ne.mpr c44
          have c44b1 : (a0_0 != 5) = true := bne_iff_ne.mpr c44
          (first | rw [c44b0] | (simp only [i64_w, i32_w]; rw [c44b0]) | skip)
          have H' := Aside0.mk H
          clear H
          go_wp2
          go_meet
          case rel => exact ⟨_, ((a0_0 == 6)), (by first | rfl | (simp; done) | (simp [*]; done)), H', ⟨by have := HJ1.out; first | omega | exact Nat.le_refl _⟩, ⟨by (with_reducible repeat (first | refine blk_drewN ?_ _ | refine blk_drew ?_ | refine blk_alloc ?_ _)); exact BK141.out⟩, ⟨by repeat (first | (with_reducible first | exact HB.out | apply below_alloc | apply pw_below_drewN | apply below_drew1 | refine below_set ?_ GE141.out) | exact HB.out)⟩⟩
        case rest =>
         clear HC42
         try clear c1
         try clear c2
         try clear p2
         try clear c3
         try clear c4
         try clear c4b0
         try clear c6
         try clear c6b0
         try clear c8
         try clear c8b0
         try clear c10
         try clear c10b0
         try clear c12
         try clear c12b0
         try clear c14
         try clear c14b0
         try clear c17
         try clear c20
         try clear c25
         try clear c26
         try clear c26b0
         try clear c26b1
         try clear c30
         try clear c30b0
         try clear c30b1
         try clear c34
         try clear c34b0
         try clear c34b1
         try clear c38
         try clear c38b0
         try clear c38b1
         try clear c44
         try clear c44b0
         try clear c44b1
         try clear hcz11_0
         try clear hcz11_1
         try clear hcz11_10
         try clear hcz11_11
         try clear hcz11_12
         try clear hcz11_13
         try clear hcz11_2
         try clear hcz11_3
         try clear hcz11_4
         try clear hcz11_5
         try clear hcz11_6
         try clear hcz11_7
         try clear hcz11_8
         try clear hcz11_9
         try clear hcz13_0
         try clear hcz13_1
         try clear hcz13_10
         try clear hcz13_11
         try clear hcz13_12
         try clear hcz13_13
         try clear hcz13_2
         try clear hcz13_3
         try clear hcz13_4
         try clear hcz13_5
         try clear hcz13_6
         try clear hcz13_7
         try clear hcz13_8
         try clear hcz13_9
         try clear hcz15_0
         try clear hcz15_1
         try clear hcz15_10
         try clear hcz15_11
         try clear hcz15_12
         try clear hcz15_13
         try clear hcz15_2
         try clear hcz15_3
         try clear hcz15_4
         try clear hcz15_5
         try clear hcz15_6
         try clear hcz15_7
         try clear hcz15_8
         try clear hcz15_9
         try clear hcz19_0
         try clear hcz19_1
         try clear hcz19_10
         try clear hcz19_11
         try clear hcz19_12
         try clear hcz19_13
         try clear hcz19_2
         try clear hcz19_3
         try clear hcz19_4
         try clear hcz19_5
         try clear hcz19_6
         try clear hcz19_7
         try clear hcz19_8
         try clear hcz19_9
         try clear hcz21_0
         try clear hcz21_1
         try clear hcz21_10
         try clear hcz21_11
         try clear hcz21_12
         try clear hcz21_13
         try clear hcz21_2
         try clear hcz21_3
         try clear hcz21_4
         try clear hcz21_5
         try clear hcz21_6
         try clear hcz21_7
         try clear hcz21_8
         try clear hcz21_9
         try clear hcz23_0
         try clear hcz23_1
         try clear hcz23_10
         try clear hcz23_11
         try clear hcz23_12
         try clear hcz23_13
         try clear hcz23_2
         try clear hcz23_3
         try clear hcz23_4
         try clear hcz23_5
         try clear hcz23_6
         try clear hcz23_7
         try clear hcz23_8
         try clear hcz23_9
         try clear hcz28_0
         try clear hcz28_1
         try clear hcz28_10
         try clear hcz28_11
         try clear hcz28_12
         try clear hcz28_13
         try clear hcz28_2
         try clear hcz28_3
         try clear hcz28_4
         try clear hcz28_5
         try clear hcz28_6
         try clear hcz28_7
         try clear hcz28_8
         try clear hcz28_9
         try clear hcz32_0
         try clear hcz32_1
         try clear hcz32_10
         try clear hcz32_11
         try clear hcz32_12
         try clear hcz32_13
         try clear hcz32_2
         try clear hcz32_3
         try clear hcz32_4
         try clear hcz32_5
         try clear hcz32_6
         try clear hcz32_7
         try clear hcz32_8
         try clear hcz32_9
         try clear hcz36_0
         try clear hcz36_1
         try clear hcz36_10
         try clear hcz36_11
         try clear hcz36_12
         try clear hcz36_13
         try clear hcz36_2
         try clear hcz36_3
         try clear hcz36_4
         try clear hcz36_5
         try clear hcz36_6
         try clear hcz36_7
         try clear hcz36_8
         try clear hcz36_9
         try clear hcz40_0
         try clear hcz40_1
         try clear hcz40_10
         try clear hcz40_11
         try clear hcz40_12
         try clear hcz40_13
         try clear hcz40_2
         try clear hcz40_3
         try clear hcz40_4
         try clear hcz40_5
         try clear hcz40_6
         try clear hcz40_7
         try clear hcz40_8
         try clear hcz40_9
         try clear hcz43_0
         try clear hcz43_1
         try clear hcz43_10
         try clear hcz43_11
         try clear hcz43_12
         try clear hcz43_13
         try clear hcz43_2
         try clear hcz43_3
         try clear hcz43_4
         try clear hcz43_5
         try clear hcz43_6
         try clear hcz43_7
         try clear hcz43_8
         try clear hcz43_9
         try clear hcz5_0
         try clear hcz5_1
         try clear hcz5_10
         try clear hcz5_11
         try clear hcz5_12
         try clear hcz5_13
         try clear hcz5_2
         try clear hcz5_3
         try clear hcz5_4
         try clear hcz5_5
         try clear hcz5_6
         try clear hcz5_7
         try clear hcz5_8
         try clear hcz5_9
         try clear hcz7_0
         try clear hcz7_1
         try clear hcz7_10
         try clear hcz7_11
         try clear hcz7_12
         try clear hcz7_13
         try clear hcz7_2
         try clear hcz7_3
         try clear hcz7_4
         try clear hcz7_5
         try clear hcz7_6
         try clear hcz7_7
         try clear hcz7_8
         try clear hcz7_9
         try clear hcz9_0
         try clear hcz9_1
         try clear hcz9_10
         try clear hcz9_11
         try clear hcz9_12
         try clear hcz9_13
         try clear hcz9_2
         try clear hcz9_3
         try clear hcz9_4
         try clear hcz9_5
         try clear hcz9_6
         try clear hcz9_7
         try clear hcz9_8
         try clear hcz9_9
         try clear hfz11_0
         try clear hfz11_1
         try clear hfz11_10
         try clear hfz11_11
         try clear hfz11_12
         try clear hfz11_13
         try clear hfz11_2
         try clear hfz11_3
         try clear hfz11_4
         try clear hfz11_5
         try clear hfz11_6
         try clear hfz11_7
         try clear hfz11_8
         try clear hfz11_9
         try clear hfz13_0
         try clear hfz13_1
         try clear hfz13_10
         try clear hfz13_11
         try clear hfz13_12
         try clear hfz13_13
         try clear hfz13_2
         try clear hfz13_3
         try clear hfz13_4
         try clear hfz13_5
         try clear hfz13_6
         try clear hfz13_7
         try clear hfz13_8
         try clear hfz13_9
         try clear hfz15_0
         try clear hfz15_1
         try clear hfz15_10
         try clear hfz15_11
         try clear hfz15_12
         try clear hfz15_13
         try clear hfz15_2
         try clear hfz15_3
         try clear hfz15_4
         try clear hfz15_5
         try clear hfz15_6
         try clear hfz15_7
         try clear hfz15_8
         try clear hfz15_9
         try clear hfz19_0
         try clear hfz19_1
         try clear hfz19_10
         try clear hfz19_11
         try clear hfz19_12
         try clear hfz19_13
         try clear hfz19_2
         try clear hfz19_3
         try clear hfz19_4
         try clear hfz19_5
         try clear hfz19_6
         try clear hfz19_7
         try clear hfz19_8
         try clear hfz19_9
         try clear hfz21_0
         try clear hfz21_1
         try clear hfz21_10
         try clear hfz21_11
         try clear hfz21_12
         try clear hfz21_13
         try clear hfz21_2
         try clear hfz21_3
         try clear hfz21_4
         try clear hfz21_5
         try clear hfz21_6
         try clear hfz21_7
         try clear hfz21_8
         try clear hfz21_9
         try clear hfz23_0
         try clear hfz23_1
         try clear hfz23_10
         try clear hfz23_11
         try clear hfz23_12
         try clear hfz23_13
         try clear hfz23_2
         try clear hfz23_3
         try clear hfz23_4
         try clear hfz23_5
         try clear hfz23_6
         try clear hfz23_7
         try clear hfz23_8
         try clear hfz23_9
         try clear hfz28_0
         try clear hfz28_1
         try clear hfz28_10
         try clear hfz28_11
         try clear hfz28_12
         try clear hfz28_13
         try clear hfz28_2
         try clear hfz28_3
         try clear hfz28_4
         try clear hfz28_5
         try clear hfz28_6
         try clear hfz28_7
         try clear hfz28_8
         try clear hfz28_9
         try clear hfz32_0
         try clear hfz32_1
         try clear hfz32_10
         try clear hfz32_11
         try clear hfz32_12
         try clear hfz32_13
         try clear hfz32_2
         try clear hfz32_3
         try clear hfz32_4
         try clear hfz32_5
         try clear hfz32_6
         try clear hfz32_7
         try clear hfz32_8
         try clear hfz32_9
         try clear hfz36_0
         try clear hfz36_1
         try clear hfz36_10
         try clear hfz36_11
         try clear hfz36_12
         try clear hfz36_13
         try clear hfz36_2
         try clear hfz36_3
         try clear hfz36_4
         try clear hfz36_5
         try clear hfz36_6
         try clear hfz36_7
         try clear hfz36_8
         try clear hfz36_9
         try clear hfz40_0
         try clear hfz40_1
         try clear hfz40_10
         try clear hfz40_11
         try clear hfz40_12
         try clear hfz40_13
         try clear hfz40_2
         try clear hfz40_3
         try clear hfz40_4
         try clear hfz40_5
         try clear hfz40_6
         try clear hfz40_7
         try clear hfz40_8
         try clear hfz40_9
         try clear hfz43_0
         try clear hfz43_1
         try clear hfz43_10
         try clear hfz43_11
         try clear hfz43_12
         try clear hfz43_13
         try clear hfz43_2
         try clear hfz43_3
         try clear hfz43_4
         try clear hfz43_5
         try clear hfz43_6
         try clear hfz43_7
         try clear hfz43_8
         try clear hfz43_9
         try clear hfz5_0
         try clear hfz5_1
         try clear hfz5_10
         try clear hfz5_11
         try clear hfz5_12
         try clear hfz5_13
         try clear hfz5_2
         try clear hfz5_3
         try clear hfz5_4
         try clear hfz5_5
         try clear hfz5_6
         try clear hfz5_7
         try clear hfz5_8
         try clear hfz5_9
         try clear hfz7_0
         try clear hfz7_1
         try clear hfz7_10
         try clear hfz7_11
         try clear hfz7_12
         try clear hfz7_13
         try clear hfz7_2
         try clear hfz7_3
         try clear hfz7_4
         try clear hfz7_5
         try clear hfz7_6
         try clear hfz7_7
         try clear hfz7_8
         try clear hfz7_9
         try clear hfz9_0
         try clear hfz9_1
         try clear hfz9_10
         try clear hfz9_11
         try clear hfz9_12
         try clear hfz9_13
         try clear hfz9_2
         try clear hfz9_3
         try clear hfz9_4
         try clear hfz9_5
         try clear hfz9_6
         try clear hfz9_7
         try clear hfz9_8
         try clear hfz9_9
         try clear p2
         obtain ⟨kq, x61_41, rfl, HA, HJ41, BK141, HB⟩ := hcut
         cases kq with
         | zero => exact absurd HA.out (by simp [spec_ActOk.j1])
         | succ kj41 =>
          have H := HA.out
          clear HA
          simp only [spec_ActOk.j1] at H
          by_cases c45 : x61_41 = true
          ·subst c45
           have H1 : ((spec_l4bare.f kj41 a0_0 a0_1 a0_2 a0_3 a0_4 a0_5 a0_6 a0_7 a0_8 a0_9 a0_10 a0_11 a0_12 a0_13 true false false false false).bind fun t148 => (some t148)) = some r := by rw [if_pos rfl] at H; exact H
           clear H
           have H := H1
           clear H1
           replace H := Option.bind_eq_some_iff.mp H
           obtain ⟨t148, A460, H⟩ := H
           replace H : (some t148) = some r := H
           have A46 := Aside0.mk A460
           clear A460
           obtain rfl := Option.some.inj H
           have hcz47_0 : wc.cell? ⟨gb141, 0, none⟩ = some (.int .i64 a0_0) := (blk_cell BK141.out 0).trans rfl
           have hcz47_1 : wc.cell? ⟨gb141, 1, none⟩ = some (.int .i64 a0_1) := (blk_cell BK141.out 1).trans rfl
           have hcz47_2 : wc.cell? ⟨gb141, 2, none⟩ = some (.int .i64 a0_2) := (blk_cell BK141.out 2).trans rfl
           have hcz47_3 : wc.cell? ⟨gb141, 3, none⟩ = some (.int .i64 a0_3) := (blk_cell BK141.out 3).trans rfl
           have hcz47_4 : wc.cell? ⟨gb141, 4, none⟩ = some (.int .i64 a0_4) := (blk_cell BK141.out 4).trans rfl
           have hcz47_5 : wc.cell? ⟨gb141, 5, none⟩ = some (.int .i64 a0_5) := (blk_cell BK141.out 5).trans rfl
           have hcz47_6 : wc.cell? ⟨gb141, 6, none⟩ = some (.float .f64 a0_6) := (blk_cell BK141.out 6).trans rfl
           have hcz47_7 : wc.cell? ⟨gb141, 7, none⟩ = some (.string a0_7) := (blk_cell BK141.out 7).trans rfl
           have hcz47_8 : wc.cell? ⟨gb141, 8, none⟩ = some (.int .i64 a0_8) := (blk_cell BK141.out 8).trans rfl
           have hcz47_9 : wc.cell? ⟨gb141, 9, none⟩ = some (.int .i64 a0_9) := (blk_cell BK141.out 9).trans rfl
           have hcz47_10 : wc.cell? ⟨gb141, 10, none⟩ = some (.int .i64 a0_10) := (blk_cell BK141.out 10).trans rfl
           have hcz47_11 : wc.cell? ⟨gb141, 11, none⟩ = some (.float .f64 a0_11) := (blk_cell BK141.out 11).trans rfl
           have hcz47_12 : wc.cell? ⟨gb141, 12, none⟩ = some (.string a0_12) := (blk_cell BK141.out 12).trans rfl
           have hcz47_13 : wc.cell? ⟨gb141, 13, none⟩ = some (.int .i64 a0_13) := (blk_cell BK141.out 13).trans rfl
           have hfz47_0 := blk_frozen BK141.out 0
           have hfz47_1 := blk_frozen BK141.out 1
           have hfz47_2 := blk_frozen BK141.out 2
           have hfz47_3 := blk_frozen BK141.out 3
           have hfz47_4 := blk_frozen BK141.out 4
           have hfz47_5 := blk_frozen BK141.out 5
           have hfz47_6 := blk_frozen BK141.out 6
           have hfz47_7 := blk_frozen BK141.out 7
           have hfz47_8 := blk_frozen BK141.out 8
           have hfz47_9 := blk_frozen BK141.out 9
           have hfz47_10 := blk_frozen BK141.out 10
           have hfz47_11 := blk_frozen BK141.out 11
           have hfz47_12 := blk_frozen BK141.out 12
           have hfz47_13 := blk_frozen BK141.out 13
           go_wp2_with (first | ((with_reducible refine gate_callee (f := 20) rfl ?_); refine goesL_ (some 65) rfl rfl Tryd.func20 (by kernel_rfl) rfl #[.agg #[.int .i64 a0_0, .int .i64 a0_1, .int .i64 a0_2, .int .i64 a0_3, .int .i64 a0_4, .int .i64 a0_5, .float .f64 a0_6, .string a0_7, .int .i64 a0_8, .int .i64 a0_9, .int .i64 a0_10, .float .f64 a0_11, .string a0_12, .int .i64 a0_13], .bool true, .bool false, .bool false, .bool false, .bool false] rfl (by (try simp only [List.map_toArray, List.map_cons, List.map_nil]); first | done | rfl | (simp only [List.length_drop, List.length_take]; rfl)) ?_; (with_reducible refine (spec_l4bare.calls kj41 a0_0 a0_1 a0_2 a0_3 a0_4 a0_5 a0_6 a0_7 a0_8 a0_9 a0_10 a0_11 a0_12 a0_13 true false false false false t148 _ A46.out).mono ?_); rintro e w48 ⟨rfl, hb⟩; refine ⟨_, rfl, ?_⟩; have n0_ := Aside0.mk (blk_below (g := gb141) (o := .cells #[.int .i64 a0_0, .int .i64 a0_1, .int .i64 a0_2, .int .i64 a0_3, .int .i64 a0_4, .int .i64 a0_5, .float .f64 a0_6, .string a0_7, .int .i64 a0_8, .int .i64 a0_9, .int .i64 a0_10, .float .f64 a0_11, .string a0_12, .int .i64 a0_13] 31 (0, 0)) (by (with_reducible repeat (first | refine blk_drewN ?_ _ | refine blk_drew ?_ | refine blk_alloc ?_ _)); exact BK141.out) hb); have n1_ := Aside0.mk (below_step (by repeat (first | (with_reducible first | exact HB.out | apply below_alloc | apply pw_below_drewN | apply below_drew1 | refine below_set ?_ GE141.out) | exact HB.out)) hb); clear BK141; clear HB; have BK141 := n0_; have HB := n1_; clear n0_ n1_; (try clear hb); (try clear hb2); (try clear hk); (try clear hi)))
           go_ret
           exact ⟨by first | rfl | (simp [errW_none, errW_some] <;> rfl) | (simp [*, errW_none, errW_some] <;> rfl), by repeat (first | (with_reducible first | exact HB.out | apply below_alloc | apply pw_below_drewN | apply below_drew1 | refine below_set ?_ GE141.out) | exact HB.out)⟩
          ·replace c45 := Bool.eq_false_iff.mpr c45
           subst c45
           have H1 : (if a0_0 = 7 then ((spec_l4bare.f kj41 a0_0 a0_1 a0_2 a0_3 a0_4 a0_5 a0_6 a0_7 a0_8 a0_9 a0_10 a0_11 a0_12 a0_13 false false false true false).bind fun t149 => (if t149 = true then (some (a0_4 == 4)) else (some false))) else (if a0_0 = 8 then ((spec_l4bare.f kj41 a0_0 a0_1 a0_2 a0_3 a0_4 a0_5 a0_6 a0_7 a0_8 a0_9 a0_10 a0_11 a0_12 a0_13 true true false false false).bind fun t150 => (some t150)) else (if a0_0 = 9 then ((spec_l4bare.f kj41 a0_0 a0_1 a0_2 a0_3 a0_4 a0_5 a0_6 a0_7 a0_8 a0_9 a0_10 a0_11 a0_12 a0_13 true true false false true).bind fun t151 => (some t151)) else (some false)))) = some r := by rw [if_neg (show ¬ (false = true) by decide)] at H; exact H
           clear H
           have H := H1
           clear H1
           by_cases c49 : a0_0 = 7
           ·rw [if_pos c49] at H
            have c49b0 : (a0_0 == 7) = true := beq_iff_eq.mpr c49
            have c49b1 : (a0_0 != 7) = false := bne_eq_false_iff_eq.mpr c49
            clear c49
            replace H := Option.bind_eq_some_iff.mp H
            obtain ⟨t149, A500, H⟩ := H
            replace H : (if t149 = true then (some (a0_4 == 4)) else (some false)) = some r := H
            have A50 := Aside0.mk A500
            clear A500
            by_cases c51 : t149 = true
            ·subst c51
             have H1 : (some (a0_4 == 4)) = some r := by rw [if_pos rfl] at H; exact H
             clear H
             have H := H1
             clear H1
             obtain rfl := Option.some.inj H
             have hcz52_0 : wc.cell? ⟨gb141, 0, none⟩ = some (.int .i64 a0_0) := (blk_cell BK141.out 0).trans rfl
             have hcz52_1 : wc.cell? ⟨gb141, 1, none⟩ = some (.int .i64 a0_1) := (blk_cell BK141.out 1).trans rfl
             have hcz52_2 : wc.cell? ⟨gb141, 2, none⟩ = some (.int .i64 a0_2) := (blk_cell BK141.out 2).trans rfl
             have hcz52_3 : wc.cell? ⟨gb141, 3, none⟩ = some (.int .i64 a0_3) := (blk_cell BK141.out 3).trans rfl
             have hcz52_4 : wc.cell? ⟨gb141, 4, none⟩ = some (.int .i64 a0_4) := (blk_cell BK141.out 4).trans rfl
             have hcz52_5 : wc.cell? ⟨gb141, 5, none⟩ = some (.int .i64 a0_5) := (blk_cell BK141.out 5).trans rfl
             have hcz52_6 : wc.cell? ⟨gb141, 6, none⟩ = some (.float .f64 a0_6) := (blk_cell BK141.out 6).trans rfl
             have hcz52_7 : wc.cell? ⟨gb141, 7, none⟩ = some (.string a0_7) := (blk_cell BK141.out 7).trans rfl
             have hcz52_8 : wc.cell? ⟨gb141, 8, none⟩ = some (.int .i64 a0_8) := (blk_cell BK141.out 8).trans rfl
             have hcz52_9 : wc.cell? ⟨gb141, 9, none⟩ = some (.int .i64 a0_9) := (blk_cell BK141.out 9).trans rfl
             have hcz52_10 : wc.cell? ⟨gb141, 10, none⟩ = some (.int .i64 a0_10) := (blk_cell BK141.out 10).trans rfl
             have hcz52_11 : wc.cell? ⟨gb141, 11, none⟩ = some (.float .f64 a0_11) := (blk_cell BK141.out 11).trans rfl
             have hcz52_12 : wc.cell? ⟨gb141, 12, none⟩ = some (.string a0_12) := (blk_cell BK141.out 12).trans rfl
             have hcz52_13 : wc.cell? ⟨gb141, 13, none⟩ = some (.int .i64 a0_13) := (blk_cell BK141.out 13).trans rfl
             have hfz52_0 := blk_frozen BK141.out 0
             have hfz52_1 := blk_frozen BK141.out 1
             have hfz52_2 := blk_frozen BK141.out 2
             have hfz52_3 := blk_frozen BK141.out 3
             have hfz52_4 := blk_frozen BK141.out 4
             have hfz52_5 := blk_frozen BK141.out 5
             have hfz52_6 := blk_frozen BK141.out 6
             have hfz52_7 := blk_frozen BK141.out 7
             have hfz52_8 := blk_frozen BK141.out 8
             have hfz52_9 := blk_frozen BK141.out 9
             have hfz52_10 := blk_frozen BK141.out 10
             have hfz52_11 := blk_frozen BK141.out 11
             have hfz52_12 := blk_frozen BK141.out 12
             have hfz52_13 := blk_frozen BK141.out 13
             go_wp2_with (first | ((with_reducible refine gate_callee (f := 20) rfl ?_); refine goesL_ (some 69) rfl rfl Tryd.func20 (by kernel_rfl) rfl #[.agg #[.int .i64 a0_0, .int .i64 a0_1, .int .i64 a0_2, .int .i64 a0_3, .int .i64 a0_4, .int .i64 a0_5, .float .f64 a0_6, .string a0_7, .int .i64 a0_8, .int .i64 a0_9, .int .i64 a0_10, .float .f64 a0_11, .string a0_12, .int .i64 a0_13], .bool false, .bool false, .bool false, .bool true, .bool false] rfl (by (try simp only [List.map_toArray, List.map_cons, List.map_nil]); first | done | rfl | (simp only [List.length_drop, List.length_take]; rfl)) ?_; (with_reducible refine (spec_l4bare.calls kj41 a0_0 a0_1 a0_2 a0_3 a0_4 a0_5 a0_6 a0_7 a0_8 a0_9 a0_10 a0_11 a0_12 a0_13 false false false true false true _ A50.out).mono ?_); rintro e w53 ⟨rfl, hb⟩; refine ⟨_, rfl, ?_⟩; have n0_ := Aside0.mk (blk_below (g := gb141) (o := .cells #[.int .i64 a0_0, .int .i64 a0_1, .int .i64 a0_2, .int .i64 a0_3, .int .i64 a0_4, .int .i64 a0_5, .float .f64 a0_6, .string a0_7, .int .i64 a0_8, .int .i64 a0_9, .int .i64 a0_10, .float .f64 a0_11, .string a0_12, .int .i64 a0_13] 31 (0, 0)) (by (with_reducible repeat (first | refine blk_drewN ?_ _ | refine blk_drew ?_ | refine blk_alloc ?_ _)); exact BK141.out) hb); have n1_ := Aside0.mk (below_step (by repeat (first | (with_reducible first | exact HB.out | apply below_alloc | apply pw_below_drewN | apply below_drew1 | refine below_set ?_ GE141.out) | exact HB.out)) hb); clear BK141; clear HB; have BK141 := n0_; have HB := n1_; clear n0_ n1_; (try clear hb); (try clear hb2); (try clear hk); (try clear hi); have hcz54_0 : w53.cell? ⟨gb141, 0, none⟩ = some (.int .i64 a0_0) := (blk_cell BK141.out 0).trans rfl; have hcz54_1 : w53.cell? ⟨gb141, 1, none⟩ = some (.int .i64 a0_1) := (blk_cell BK141.out 1).trans rfl; have hcz54_2 : w53.cell? ⟨gb141, 2, none⟩ = some (.int .i64 a0_2) := (blk_cell BK141.out 2).trans rfl; have hcz54_3 : w53.cell? ⟨gb141, 3, none⟩ = some (.int .i64 a0_3) := (blk_cell BK141.out 3).trans rfl; have hcz54_4 : w53.cell? ⟨gb141, 4, none⟩ = some (.int .i64 a0_4) := (blk_cell BK141.out 4).trans rfl; have hcz54_5 : w53.cell? ⟨gb141, 5, none⟩ = some (.int .i64 a0_5) := (blk_cell BK141.out 5).trans rfl; have hcz54_6 : w53.cell? ⟨gb141, 6, none⟩ = some (.float .f64 a0_6) := (blk_cell BK141.out 6).trans rfl; have hcz54_7 : w53.cell? ⟨gb141, 7, none⟩ = some (.string a0_7) := (blk_cell BK141.out 7).trans rfl; have hcz54_8 : w53.cell? ⟨gb141, 8, none⟩ = some (.int .i64 a0_8) := (blk_cell BK141.out 8).trans rfl; have hcz54_9 : w53.cell? ⟨gb141, 9, none⟩ = some (.int .i64 a0_9) := (blk_cell BK141.out 9).trans rfl; have hcz54_10 : w53.cell? ⟨gb141, 10, none⟩ = some (.int .i64 a0_10) := (blk_cell BK141.out 10).trans rfl; have hcz54_11 : w53.cell? ⟨gb141, 11, none⟩ = some (.float .f64 a0_11) := (blk_cell BK141.out 11).trans rfl; have hcz54_12 : w53.cell? ⟨gb141, 12, none⟩ = some (.string a0_12) := (blk_cell BK141.out 12).trans rfl; have hcz54_13 : w53.cell? ⟨gb141, 13, none⟩ = some (.int .i64 a0_13) := (blk_cell BK141.out 13).trans rfl; have hfz54_0 := blk_frozen BK141.out 0; have hfz54_1 := blk_frozen BK141.out 1; have hfz54_2 := blk_frozen BK141.out 2; have hfz54_3 := blk_frozen BK141.out 3; have hfz54_4 := blk_frozen BK141.out 4; have hfz54_5 := blk_frozen BK141.out 5; have hfz54_6 := blk_frozen BK141.out 6; have hfz54_7 := blk_frozen BK141.out 7; have hfz54_8 := blk_frozen BK141.out 8; have hfz54_9 := blk_frozen BK141.out 9; have hfz54_10 := blk_frozen BK141.out 10; have hfz54_11 := blk_frozen BK141.out 11; have hfz54_12 := blk_frozen BK141.out 12; have hfz54_13 := blk_frozen BK141.out 13))
             go_ret
             exact ⟨by first | rfl | (simp [errW_none, errW_some] <;> rfl) | (simp [*, errW_none, errW_some] <;> rfl), by repeat (first | (with_reducible first | exact HB.out | apply below_alloc | apply pw_below_drewN | apply below_drew1 | refine below_set ?_ GE141.out) | exact HB.out)⟩
            ·replace c51 := Bool.eq_false_iff.mpr c51
             subst c51
             have H1 : (some false) = some r := by rw [if_neg (show ¬ (false = true) by decide)] at H; exact H
             clear H
             have H := H1
             clear H1
             obtain rfl := Option.some.inj H
             have hcz55_0 : wc.cell? ⟨gb141, 0, none⟩ = some (.int .i64 a0_0) := (blk_cell BK141.out 0).trans rfl
             have hcz55_1 : wc.cell? ⟨gb141, 1, none⟩ = some (.int .i64 a0_1) := (blk_cell BK141.out 1).trans rfl
             have hcz55_2 : wc.cell? ⟨gb141, 2, none⟩ = some (.int .i64 a0_2) := (blk_cell BK141.out 2).trans rfl
             have hcz55_3 : wc.cell? ⟨gb141, 3, none⟩ = some (.int .i64 a0_3) := (blk_cell BK141.out 3).trans rfl
             have hcz55_4 : wc.cell? ⟨gb141, 4, none⟩ = some (.int .i64 a0_4) := (blk_cell BK141.out 4).trans rfl
             have hcz55_5 : wc.cell? ⟨gb141, 5, none⟩ = some (.int .i64 a0_5) := (blk_cell BK141.out 5).trans rfl
             have hcz55_6 : wc.cell? ⟨gb141, 6, none⟩ = some (.float .f64 a0_6) := (blk_cell BK141.out 6).trans rfl
             have hcz55_7 : wc.cell? ⟨gb141, 7, none⟩ = some (.string a0_7) := (blk_cell BK141.out 7).trans rfl
             have hcz55_8 : wc.cell? ⟨gb141, 8, none⟩ = some (.int .i64 a0_8) := (blk_cell BK141.out 8).trans rfl
             have hcz55_9 : wc.cell? ⟨gb141, 9, none⟩ = some (.int .i64 a0_9) := (blk_cell BK141.out 9).trans rfl
             have hcz55_10 : wc.cell? ⟨gb141, 10, none⟩ = some (.int .i64 a0_10) := (blk_cell BK141.out 10).trans rfl
             have hcz55_11 : wc.cell? ⟨gb141, 11, none⟩ = some (.float .f64 a0_11) := (blk_cell BK141.out 11).trans rfl
             have hcz55_12 : wc.cell? ⟨gb141, 12, none⟩ = some (.string a0_12) := (blk_cell BK141.out 12).trans rfl
             have hcz55_13 : wc.cell? ⟨gb141, 13, none⟩ = some (.int .i64 a0_13) := (blk_cell BK141.out 13).trans rfl
             have hfz55_0 := blk_frozen BK141.out 0
             have hfz55_1 := blk_frozen BK141.out 1
             have hfz55_2 := blk_frozen BK141.out 2
             have hfz55_3 := blk_frozen BK141.out 3
             have hfz55_4 := blk_frozen BK141.out 4
             have hfz55_5 := blk_frozen BK141.out 5
             have hfz55_6 := blk_frozen BK141.out 6
             have hfz55_7 := blk_frozen BK141.out 7
             have hfz55_8 := blk_frozen BK141.out 8
             have hfz55_9 := blk_frozen BK141.out 9
             have hfz55_10 := blk_frozen BK141.out 10
             have hfz55_11 := blk_frozen BK141.out 11
             have hfz55_12 := blk_frozen BK141.out 12
             have hfz55_13 := blk_frozen BK141.out 13
             go_wp2_with (first | ((with_reducible refine gate_callee (f := 20) rfl ?_); refine goesL_ (some 69) rfl rfl Tryd.func20 (by kernel_rfl) rfl #[.agg #[.int .i64 a0_0, .int .i64 a0_1, .int .i64 a0_2, .int .i64 a0_3, .int .i64 a0_4, .int .i64 a0_5, .float .f64 a0_6, .string a0_7, .int .i64 a0_8, .int .i64 a0_9, .int .i64 a0_10, .float .f64 a0_11, .string a0_12, .int .i64 a0_13], .bool false, .bool false, .bool false, .bool true, .bool false] rfl (by (try simp only [List.map_toArray, List.map_cons, List.map_nil]); first | done | rfl | (simp only [List.length_drop, List.length_take]; rfl)) ?_; (with_reducible refine (spec_l4bare.calls kj41 a0_0 a0_1 a0_2 a0_3 a0_4 a0_5 a0_6 a0_7 a0_8 a0_9 a0_10 a0_11 a0_12 a0_13 false false false true false false _ A50.out).mono ?_); rintro e w56 ⟨rfl, hb⟩; refine ⟨_, rfl, ?_⟩; have n0_ := Aside0.mk (blk_below (g := gb141) (o := .cells #[.int .i64 a0_0, .int .i64 a0_1, .int .i64 a0_2, .int .i64 a0_3, .int .i64 a0_4, .int .i64 a0_5, .float .f64 a0_6, .string a0_7, .int .i64 a0_8, .int .i64 a0_9, .int .i64 a0_10, .float .f64 a0_11, .string a0_12, .int .i64 a0_13] 31 (0, 0)) (by (with_reducible repeat (first | refine blk_drewN ?_ _ | refine blk_drew ?_ | refine blk_alloc ?_ _)); exact BK141.out) hb); have n1_ := Aside0.mk (below_step (by repeat (first | (with_reducible first | exact HB.out | apply below_alloc | apply pw_below_drewN | apply below_drew1 | refine below_set ?_ GE141.out) | exact HB.out)) hb); clear BK141; clear HB; have BK141 := n0_; have HB := n1_; clear n0_ n1_; (try clear hb); (try clear hb2); (try clear hk); (try clear hi)))
             go_ret
             exact ⟨by first | rfl | (simp [errW_none, errW_some] <;> rfl) | (simp [*, errW_none, errW_some] <;> rfl), by repeat (first | (with_reducible first | exact HB.out | apply below_alloc | apply pw_below_drewN | apply below_drew1 | refine below_set ?_ GE141.out) | exact HB.out)⟩
           ·rw [if_neg c49] at H
            have c49b0 : (a0_0 == 7) = false := beq_eq_false_iff_ne.mpr c49
            have c49b1 : (a0_0 != 7) = true := bne_iff_ne.mpr c49
            by_cases c57 : a0_0 = 8
            ·rw [if_pos c57] at H
             have c57b0 : (a0_0 == 8) = true := beq_iff_eq.mpr c57
             have c57b1 : (a0_0 != 8) = false := bne_eq_false_iff_eq.mpr c57
             clear c57
             replace H := Option.bind_eq_some_iff.mp H
             obtain ⟨t150, A580, H⟩ := H
             replace H : (some t150) = some r := H
             have A58 := Aside0.mk A580
             clear A580
             obtain rfl := Option.some.inj H
             have hcz59_0 : wc.cell? ⟨gb141, 0, none⟩ = some (.int .i64 a0_0) := (blk_cell BK141.out 0).trans rfl
             have hcz59_1 : wc.cell? ⟨gb141, 1, none⟩ = some (.int .i64 a0_1) := (blk_cell BK141.out 1).trans rfl
             have hcz59_2 : wc.cell? ⟨gb141, 2, none⟩ = some (.int .i64 a0_2) := (blk_cell BK141.out 2).trans rfl
             have hcz59_3 : wc.cell? ⟨gb141, 3, none⟩ = some (.int .i64 a0_3) := (blk_cell BK141.out 3).trans rfl
             have hcz59_4 : wc.cell? ⟨gb141, 4, none⟩ = some (.int .i64 a0_4) := (blk_cell BK141.out 4).trans rfl
             have hcz59_5 : wc.cell? ⟨gb141, 5, none⟩ = some (.int .i64 a0_5) := (blk_cell BK141.out 5).trans rfl
             have hcz59_6 : wc.cell? ⟨gb141, 6, none⟩ = some (.float .f64 a0_6) := (blk_cell BK141.out 6).trans rfl
             have hcz59_7 : wc.cell? ⟨gb141, 7, none⟩ = some (.string a0_7) := (blk_cell BK141.out 7).trans rfl
             have hcz59_8 : wc.cell? ⟨gb141, 8, none⟩ = some (.int .i64 a0_8) := (blk_cell BK141.out 8).trans rfl
             have hcz59_9 : wc.cell? ⟨gb141, 9, none⟩ = some (.int .i64 a0_9) := (blk_cell BK141.out 9).trans rfl
             have hcz59_10 : wc.cell? ⟨gb141, 10, none⟩ = some (.int .i64 a0_10) := (blk_cell BK141.out 10).trans rfl
             have hcz59_11 : wc.cell? ⟨gb141, 11, none⟩ = some (.float .f64 a0_11) := (blk_cell BK141.out 11).trans rfl
             have hcz59_12 : wc.cell? ⟨gb141, 12, none⟩ = some (.string a0_12) := (blk_cell BK141.out 12).trans rfl
             have hcz59_13 : wc.cell? ⟨gb141, 13, none⟩ = some (.int .i64 a0_13) := (blk_cell BK141.out 13).trans rfl
             have hfz59_0 := blk_frozen BK141.out 0
             have hfz59_1 := blk_frozen BK141.out 1
             have hfz59_2 := blk_frozen BK141.out 2
             have hfz59_3 := blk_frozen BK141.out 3
             have hfz59_4 := blk_frozen BK141.out 4
             have hfz59_5 := blk_frozen BK141.out 5
             have hfz59_6 := blk_frozen BK141.out 6
             have hfz59_7 := blk_frozen BK141.out 7
             have hfz59_8 := blk_frozen BK141.out 8
             have hfz59_9 := blk_frozen BK141.out 9
             have hfz59_10 := blk_frozen BK141.out 10
             have hfz59_11 := blk_frozen BK141.out 11
             have hfz59_12 := blk_frozen BK141.out 12
             have hfz59_13 := blk_frozen BK141.out 13
             go_wp2_with (first | ((with_reducible refine gate_callee (f := 20) rfl ?_); refine goesL_ (some 79) rfl rfl Tryd.func20 (by kernel_rfl) rfl #[.agg #[.int .i64 a0_0, .int .i64 a0_1, .int .i64 a0_2, .int .i64 a0_3, .int .i64 a0_4, .int .i64 a0_5, .float .f64 a0_6, .string a0_7, .int .i64 a0_8, .int .i64 a0_9, .int .i64 a0_10, .float .f64 a0_11, .string a0_12, .int .i64 a0_13], .bool true, .bool true, .bool false, .bool false, .bool false] rfl (by (try simp only [List.map_toArray, List.map_cons, List.map_nil]); first | done | rfl | (simp only [List.length_drop, List.length_take]; rfl)) ?_; (with_reducible refine (spec_l4bare.calls kj41 a0_0 a0_1 a0_2 a0_3 a0_4 a0_5 a0_6 a0_7 a0_8 a0_9 a0_10 a0_11 a0_12 a0_13 true true false false false t150 _ A58.out).mono ?_); rintro e w60 ⟨rfl, hb⟩; refine ⟨_, rfl, ?_⟩; have n0_ := Aside0.mk (blk_below (g := gb141) (o := .cells #[.int .i64 a0_0, .int .i64 a0_1, .int .i64 a0_2, .int .i64 a0_3, .int .i64 a0_4, .int .i64 a0_5, .float .f64 a0_6, .string a0_7, .int .i64 a0_8, .int .i64 a0_9, .int .i64 a0_10, .float .f64 a0_11, .string a0_12, .int .i64 a0_13] 31 (0, 0)) (by (with_reducible repeat (first | refine blk_drewN ?_ _ | refine blk_drew ?_ | refine blk_alloc ?_ _)); exact BK141.out) hb); have n1_ := Aside0.mk (below_step (by repeat (first | (with_reducible first | exact HB.out | apply below_alloc | apply pw_below_drewN | apply below_drew1 | refine below_set ?_ GE141.out) | exact HB.out)) hb); clear BK141; clear HB; have BK141 := n0_; have HB := n1_; clear n0_ n1_; (try clear hb); (try clear hb2); (try clear hk); (try clear hi)))
             go_ret
             exact ⟨by first | rfl | (simp [errW_none, errW_some] <;> rfl) | (simp [*, errW_none, errW_some] <;> rfl), by repeat (first | (with_reducible first | exact HB.out | apply below_alloc | apply pw_below_drewN | apply below_drew1 | refine below_set ?_ GE141.out) | exact HB.out)⟩
            ·rw [if_neg c57] at H
             have c57b0 : (a0_0 == 8) = false := beq_eq_false_iff_ne.mpr c57
             have c57b1 : (a0_0 != 8) = true := bne_iff_ne.mpr c57
             by_cases c61 : a0_0 = 9
             ·rw [if_pos c61] at H
              have c61b0 : (a0_0 == 9) = true := beq_iff_eq.mpr c61
              have c61b1 : (a0_0 != 9) = false := bne_eq_false_iff_eq.mpr c61
              clear c61
              replace H := Option.bind_eq_some_iff.mp H
              obtain ⟨t151, A620, H⟩ := H
              replace H : (some t151) = some r := H
              have A62 := Aside0.mk A620
              clear A620
              obtain rfl := Option.some.inj H
              have hcz63_0 : wc.cell? ⟨gb141, 0, none⟩ = some (.int .i64 a0_0) := (blk_cell BK141.out 0).trans rfl
              have hcz63_1 : wc.cell? ⟨gb141, 1, none⟩ = some (.int .i64 a0_1) := (blk_cell BK141.out 1).trans rfl
              have hcz63_2 : wc.cell? ⟨gb141, 2, none⟩ = some (.int .i64 a0_2) := (blk_cell BK141.out 2).trans rfl
              have hcz63_3 : wc.cell? ⟨gb141, 3, none⟩ = some (.int .i64 a0_3) := (blk_cell BK141.out 3).trans rfl
              have hcz63_4 : wc.cell? ⟨gb141, 4, none⟩ = some (.int .i64 a0_4) := (blk_cell BK141.out 4).trans rfl
              have hcz63_5 : wc.cell? ⟨gb141, 5, none⟩ = some (.int .i64 a0_5) := (blk_cell BK141.out 5).trans rfl
              have hcz63_6 : wc.cell? ⟨gb141, 6, none⟩ = some (.float .f64 a0_6) := (blk_cell BK141.out 6).trans rfl
              have hcz63_7 : wc.cell? ⟨gb141, 7, none⟩ = some (.string a0_7) := (blk_cell BK141.out 7).trans rfl
              have hcz63_8 : wc.cell? ⟨gb141, 8, none⟩ = some (.int .i64 a0_8) := (blk_cell BK141.out 8).trans rfl
              have hcz63_9 : wc.cell? ⟨gb141, 9, none⟩ = some (.int .i64 a0_9) := (blk_cell BK141.out 9).trans rfl
              have hcz63_10 : wc.cell? ⟨gb141, 10, none⟩ = some (.int .i64 a0_10) := (blk_cell BK141.out 10).trans rfl
              have hcz63_11 : wc.cell? ⟨gb141, 11, none⟩ = some (.float .f64 a0_11) := (blk_cell BK141.out 11).trans rfl
              have hcz63_12 : wc.cell? ⟨gb141, 12, none⟩ = some (.string a0_12) := (blk_cell BK141.out 12).trans rfl
              have hcz63_13 : wc.cell? ⟨gb141, 13, none⟩ = some (.int .i64 a0_13) := (blk_cell BK141.out 13).trans rfl
              have hfz63_0 := blk_frozen BK141.out 0
              have hfz63_1 := blk_frozen BK141.out 1
              have hfz63_2 := blk_frozen BK141.out 2
              have hfz63_3 := blk_frozen BK141.out 3
              have hfz63_4 := blk_frozen BK141.out 4
              have hfz63_5 := blk_frozen BK141.out 5
              have hfz63_6 := blk_frozen BK141.out 6
              have hfz63_7 := blk_frozen BK141.out 7
              have hfz63_8 := blk_frozen BK141.out 8
              have hfz63_9 := blk_frozen BK141.out 9
              have hfz63_10 := blk_frozen BK141.out 10
              have hfz63_11 := blk_frozen BK141.out 11
              have hfz63_12 := blk_frozen BK141.out 12
              have hfz63_13 := blk_frozen BK141.out 13
              go_wp2_with (first | ((with_reducible refine gate_callee (f := 20) rfl ?_); refine goesL_ (some 83) rfl rfl Tryd.func20 (by kernel_rfl) rfl #[.agg #[.int .i64 a0_0, .int .i64 a0_1, .int .i64 a0_2, .int .i64 a0_3, .int .i64 a0_4, .int .i64 a0_5, .float .f64 a0_6, .string a0_7, .int .i64 a0_8, .int .i64 a0_9, .int .i64 a0_10, .float .f64 a0_11, .string a0_12, .int .i64 a0_13], .bool true, .bool true, .bool false, .bool false, .bool true] rfl (by (try simp only [List.map_toArray, List.map_cons, List.map_nil]); first | done | rfl | (simp only [List.length_drop, List.length_take]; rfl)) ?_; (with_reducible refine (spec_l4bare.calls kj41 a0_0 a0_1 a0_2 a0_3 a0_4 a0_5 a0_6 a0_7 a0_8 a0_9 a0_10 a0_11 a0_12 a0_13 true true false false true t151 _ A62.out).mono ?_); rintro e w64 ⟨rfl, hb⟩; refine ⟨_, rfl, ?_⟩; have n0_ := Aside0.mk (blk_below (g := gb141) (o := .cells #[.int .i64 a0_0, .int .i64 a0_1, .int .i64 a0_2, .int .i64 a0_3, .int .i64 a0_4, .int .i64 a0_5, .float .f64 a0_6, .string a0_7, .int .i64 a0_8, .int .i64 a0_9, .int .i64 a0_10, .float .f64 a0_11, .string a0_12, .int .i64 a0_13] 31 (0, 0)) (by (with_reducible repeat (first | refine blk_drewN ?_ _ | refine blk_drew ?_ | refine blk_alloc ?_ _)); exact BK141.out) hb); have n1_ := Aside0.mk (below_step (by repeat (first | (with_reducible first | exact HB.out | apply below_alloc | apply pw_below_drewN | apply below_drew1 | refine below_set ?_ GE141.out) | exact HB.out)) hb); clear BK141; clear HB; have BK141 := n0_; have HB := n1_; clear n0_ n1_; (try clear hb); (try clear hb2); (try clear hk); (try clear hi)))
              go_ret
              exact ⟨by first | rfl | (simp [errW_none, errW_some] <;> rfl) | (simp [*, errW_none, errW_some] <;> rfl), by repeat (first | (with_reducible first | exact HB.out | apply below_alloc | apply pw_below_drewN | apply below_drew1 | refine below_set ?_ GE141.out) | exact HB.out)⟩
             ·rw [if_neg c61] at H
              have c61b0 : (a0_0 == 9) = false := beq_eq_false_iff_ne.mpr c61
              have c61b1 : (a0_0 != 9) = true := bne_iff_ne.mpr c61
              obtain rfl := Option.some.inj H
              go_wp2
              go_ret
              exact ⟨by first | rfl | (simp [errW_none, errW_some] <;> rfl) | (simp [*, errW_none, errW_some] <;> rfl), by repeat (first | (with_reducible first | exact HB.out | apply below_alloc | apply pw_below_drewN | apply below_drew1 | refine below_set ?_ GE141.out) | exact HB.out)⟩

end Go.Proofs.YtclploookcjcbaaDoor.PAct
