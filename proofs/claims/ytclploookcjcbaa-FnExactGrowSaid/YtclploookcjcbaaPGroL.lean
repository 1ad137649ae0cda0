/- Proved: each Go function that is named below comes to the answers of the Lean function printed for it. Printed by a changed copy of the kit's print program (wip/mkpk.py), for this claim. -/
import Derived.Test.YtclploookcjcbaaPGrox0
import Derived.Test.YtclploookcjcbaaPGroG
import Derived.Test.YtclploookcjcbaaPGroS
import Derived.Test.YtclploookcjcbaaPGroE
namespace Go.Proofs.Ytclploookcjcbaa.PGro
open Go.RowKit Go.Proofs.YtclploookcjcbaaW.PrintWords Go.Proofs.YtclploookcjcbaaW.PrintLast Go.Proofs.YtclploookcjcbaaW.PrintMore
attribute [local go_sem] max2_int min2_int max_two min_two max_three min_three max_four min_four   -- for this text's walks alone
set_option linter.unusedVariables false
set_option linter.unusedSimpArgs false

/-! ### laws_FnExactGrow: function 10 -/
def laws_FnExactGrow.j0 : Nat → Int → ByteArray → Bool → List (S123) → List (S75) → Int → List (S75) → Int → Option (Bool)
 | 0, _, _, _, _, _, _, _, _ => none
 | k + 1, x1, x2, x53, x225000, x234000, x234001, x243000, x243001 => if x53 = true then (none) else ((laws_markGrown.f k x243000 x243001 1).bind fun bt251 => ((laws_heldGrown.f k bt251.2 x243001 1).bind fun t253 => (if t253 < 0 then (none) else (if t253 = bt251.1 then ((laws_toForest.f k x225000).bind fun t254 => ((impl_Grow.f k t254 x1 x2).bind fun bt257 => ((laws_eqGrown.f k bt257.1 bt257.2 x234000 x234001).bind fun t262 => (if t262 = true then ((laws_heldGrown.f k bt251.2 x243001 1).bind fun t263 => (if t263 < 0 then (none) else (if t263 = bt251.1 then (some true) else (none)))) else (none))))) else (none)))))
def laws_FnExactGrow.f (k : Nat) (l0_0 : List (S123)) (a1 : Int) (a2 : ByteArray) : Option (Bool) := if (a2.size : Int) > 1048576 then (some true) else ((laws_szForest.f k l0_0 1048576).bind fun t225 => (if t225 < 0 then (some true) else ((laws_toForest.f k l0_0).bind fun t226 => ((spec_Grow.f k t226 a1 a2).bind fun bt229 => ((laws_toForest.f k l0_0).bind fun t234 => ((impl_Grow.f k t234 a1 a2).bind fun bt238 => ((laws_eqGrown.f k bt238.1 bt238.2 bt229.1 bt229.2).bind fun t243 => (if t243 = true then ((laws_toForest.f k l0_0).bind fun t244 => ((laws_eqForest.f k t234 t244).bind fun t247 => (if t247 = true then ((laws_markForest.f k t234 1).bind fun bt248 => (if bt248.1 < 0 then (laws_FnExactGrow.j0 k a1 a2 true l0_0 bt229.1 bt229.2 bt238.1 bt238.2) else ((laws_eqGrown.f k bt238.1 bt238.2 bt229.1 bt229.2).bind fun t250 => (laws_FnExactGrow.j0 k a1 a2 (!t250) l0_0 bt229.1 bt229.2 bt238.1 bt238.2)))) else (none)))) else (none)))))))))
theorem laws_FnExactGrow.mono_l : ∀ k, (∀ y0 y1 y2 y3 y4 y5 y6 y7, LeO (laws_FnExactGrow.j0 k y0 y1 y2 y3 y4 y5 y6 y7) (laws_FnExactGrow.j0 (k + 1) y0 y1 y2 y3 y4 y5 y6 y7))
 | 0 => fun _ _ _ _ _ _ _ _ r h => by simp [laws_FnExactGrow.j0] at h
 | k + 1 => by
  have ih0 := laws_FnExactGrow.mono_l k
  ·intro y0 y1 y2 y3 y4 y5 y6 y7
   unfold laws_FnExactGrow.j0
   repeat' first
   | (with_reducible exact ih0 _ _ _ _ _ _ _ _)
   | (with_reducible exact impl_Grow.mono _ _ _ _)
   | (with_reducible exact laws_eqForest.mono _ _ _)
   | (with_reducible exact laws_eqGrown.mono _ _ _ _ _)
   | (with_reducible exact laws_heldGrown.mono _ _ _ _)
   | (with_reducible exact laws_markForest.mono _ _ _)
   | (with_reducible exact laws_markGrown.mono _ _ _ _)
   | (with_reducible exact laws_szForest.mono _ _ _)
   | (with_reducible exact laws_toForest.mono _ _)
   | (with_reducible exact spec_Grow.mono _ _ _ _)
   | (with_reducible exact LeO.refl _)
   | (with_reducible exact LeO.none _)
   | (with_reducible refine LeO.ite ?_ ?_)
   | (with_reducible refine LeO.bind ?_ (fun _ => ?_))
   | exact ih0 _ _ _ _ _ _ _ _
   | exact impl_Grow.mono _ _ _ _
   | exact laws_eqForest.mono _ _ _
   | exact laws_eqGrown.mono _ _ _ _ _
   | exact laws_heldGrown.mono _ _ _ _
   | exact laws_markForest.mono _ _ _
   | exact laws_markGrown.mono _ _ _ _
   | exact laws_szForest.mono _ _ _
   | exact laws_toForest.mono _ _
   | exact spec_Grow.mono _ _ _ _
   | exact LeO.none _
   | refine LeO.ite ?_ ?_
   | refine LeO.bind ?_ (fun _ => ?_)
theorem laws_FnExactGrow.mono : ∀ a0 a1 a2 k, LeO (laws_FnExactGrow.f k a0 a1 a2) (laws_FnExactGrow.f (k + 1) a0 a1 a2) := by
 intro a0 a1 a2 k
 have ih0 := laws_FnExactGrow.mono_l k
 unfold laws_FnExactGrow.f
 repeat' first
   | (with_reducible exact ih0 _ _ _ _ _ _ _ _)
   | (with_reducible exact impl_Grow.mono _ _ _ _)
   | (with_reducible exact laws_eqForest.mono _ _ _)
   | (with_reducible exact laws_eqGrown.mono _ _ _ _ _)
   | (with_reducible exact laws_heldGrown.mono _ _ _ _)
   | (with_reducible exact laws_markForest.mono _ _ _)
   | (with_reducible exact laws_markGrown.mono _ _ _ _)
   | (with_reducible exact laws_szForest.mono _ _ _)
   | (with_reducible exact laws_toForest.mono _ _)
   | (with_reducible exact spec_Grow.mono _ _ _ _)
   | (with_reducible exact LeO.refl _)
   | (with_reducible exact LeO.none _)
   | (with_reducible refine LeO.ite ?_ ?_)
   | (with_reducible refine LeO.bind ?_ (fun _ => ?_))
   | exact ih0 _ _ _ _ _ _ _ _
   | exact impl_Grow.mono _ _ _ _
   | exact laws_eqForest.mono _ _ _
   | exact laws_eqGrown.mono _ _ _ _ _
   | exact laws_heldGrown.mono _ _ _ _
   | exact laws_markForest.mono _ _ _
   | exact laws_markGrown.mono _ _ _ _
   | exact laws_szForest.mono _ _ _
   | exact laws_toForest.mono _ _
   | exact spec_Grow.mono _ _ _ _
   | exact LeO.none _
   | refine LeO.ite ?_ ?_
   | refine LeO.bind ?_ (fun _ => ?_)
set_option maxHeartbeats 8000000 in
set_option maxRecDepth 100000 in
theorem laws_FnExactGrow.calls (k : Nat) (A0_0 : Option Addr) (c0_0 : Nat) (l0_0 : List (S123)) (a1 : Int) (a2 : ByteArray) (r : Bool) (w : World) (hr0_0 : Kd.C k123 w A0_0 l0_0.length l0_0) (hc0_0 : l0_0.length ≤ c0_0) (h : laws_FnExactGrow.f k l0_0 a1 a2 = some r) :
  Calls Try.prog 10 #[.agg #[.slice A0_0 l0_0.length c0_0], .int .i64 a1, .string a2] w fun e w' => e = .returned (.bool r) ∧ Below w.heap.size w w' := by
 have hu46 := Try.underlying46
 have hu64 := Try.underlying64
 have hu36 := Try.underlying36
 have HR0_0 := A0_.mk hr0_0
 have HC0_0 := A0_.mk hc0_0
 clear hr0_0 hc0_0
 have HB := A0_.mk (Below.refl w.heap.size w)
 have H : (if (a2.size : Int) > 1048576 then (some true) else ((laws_szForest.f k l0_0 1048576).bind fun t225 => (if t225 < 0 then (some true) else ((laws_toForest.f k l0_0).bind fun t226 => ((spec_Grow.f k t226 a1 a2).bind fun bt229 => ((laws_toForest.f k l0_0).bind fun t234 => ((impl_Grow.f k t234 a1 a2).bind fun bt238 => ((laws_eqGrown.f k bt238.1 bt238.2 bt229.1 bt229.2).bind fun t243 => (if t243 = true then ((laws_toForest.f k l0_0).bind fun t244 => ((laws_eqForest.f k t234 t244).bind fun t247 => (if t247 = true then ((laws_markForest.f k t234 1).bind fun bt248 => (if bt248.1 < 0 then (laws_FnExactGrow.j0 k a1 a2 true l0_0 bt229.1 bt229.2 bt238.1 bt238.2) else ((laws_eqGrown.f k bt238.1 bt238.2 bt229.1 bt229.2).bind fun t250 => (laws_FnExactGrow.j0 k a1 a2 (!t250) l0_0 bt229.1 bt229.2 bt238.1 bt238.2)))) else (none)))) else (none)))))))))) = some r := h
 clear h
 by_cases c4 : (a2.size : Int) > 1048576
 ·rw [if_pos c4] at H
  have c4b0 : decide (1048576 < (a2.size : Int)) = true := decide_eq_true c4
  have c4b1 : decide (1048576 < a2.size) = true := decide_eq_true (by omega)
  clear c4
  obtain rfl := Option.some.inj H
  go_enter Try.func10, Try.ntmps10
  go_wp2_with (first | ((with_reducible refine gate_dst (N := 3) rfl ?_); refine box_event ?hg (N := 3) ?hd (cs := #[.slice A0_0 l0_0.length c0_0]) (t := 46) ?hr ?_; (case hd => rfl); (case hg => rfl); (case hr => first | (go_simp; done) | (go_simp; rfl)); intro gb224 hg w5 hbox hb; have n0_ := A0_.mk (below_step (by repeat (first | (with_reducible first | exact HB.out | apply bal | apply pdN | apply bdr) | exact HB.out)) hb); have n1_ := A0_.mk (hbox); have n2_ := A0_.mk ((by rw [hg]; exact (below_size (by repeat (first | (with_reducible first | exact HB.out | apply bal | apply pdN | apply bdr) | exact HB.out))) : w.heap.size ≤ gb224)); have n3_ := A0_.mk ((by rw [hg]; exact (below_size (by repeat (first | (with_reducible first | exact HB.out | apply bal | apply pdN | apply bdr) | exact HB.out))) : w.heap.size ≤ gb224)); clear HB; have HB := n0_; have BK224 := n1_; have GW224 := n2_; have GE224 := n3_; clear n0_ n1_ n2_ n3_; clear hb hbox hg))
  go_ret
  exact ⟨by first | rfl | (simp [errW_none, errW_some] <;> rfl) | (simp [*, errW_none, errW_some] <;> rfl), by repeat (first | (with_reducible first | exact HB.out | apply bal | apply pdN | apply bdr | refine bst ?_ GE224.out) | exact HB.out)⟩
 ·rw [if_neg c4] at H
  have c4b0 : decide (1048576 < (a2.size : Int)) = false := decide_eq_false c4
  have c4b1 : decide (1048576 < a2.size) = false := decide_eq_false (by omega)
  clear c4
  replace H := Option.bind_eq_some_iff.mp H
  obtain ⟨t225, A60, H⟩ := H
  replace H : (if t225 < 0 then (some true) else ((laws_toForest.f k l0_0).bind fun t226 => ((spec_Grow.f k t226 a1 a2).bind fun bt229 => ((laws_toForest.f k l0_0).bind fun t234 => ((impl_Grow.f k t234 a1 a2).bind fun bt238 => ((laws_eqGrown.f k bt238.1 bt238.2 bt229.1 bt229.2).bind fun t243 => (if t243 = true then ((laws_toForest.f k l0_0).bind fun t244 => ((laws_eqForest.f k t234 t244).bind fun t247 => (if t247 = true then ((laws_markForest.f k t234 1).bind fun bt248 => (if bt248.1 < 0 then (laws_FnExactGrow.j0 k a1 a2 true l0_0 bt229.1 bt229.2 bt238.1 bt238.2) else ((laws_eqGrown.f k bt238.1 bt238.2 bt229.1 bt229.2).bind fun t250 => (laws_FnExactGrow.j0 k a1 a2 (!t250) l0_0 bt229.1 bt229.2 bt238.1 bt238.2)))) else (none)))) else (none)))))))) = some r := H
  have A6 := A0_.mk A60
  clear A60
  by_cases c7 : t225 < 0
  ·rw [if_pos c7] at H
   have c7b0 : decide (t225 < 0) = true := decide_eq_true c7
   clear c7
   obtain rfl := Option.some.inj H
   go_enter Try.func10, Try.ntmps10
   go_wp2_with (first | ((with_reducible refine gate_dst (N := 3) rfl ?_); refine box_event ?hg (N := 3) ?hd (cs := #[.slice A0_0 l0_0.length c0_0]) (t := 46) ?hr ?_; (case hd => rfl); (case hg => rfl); (case hr => first | (go_simp; done) | (go_simp; rfl)); intro gb224 hg w8 hbox hb; have n0_ := A0_.mk (below_step (by repeat (first | (with_reducible first | exact HB.out | apply bal | apply pdN | apply bdr) | exact HB.out)) hb); have n1_ := A0_.mk (hbox); have n2_ := A0_.mk ((by rw [hg]; exact (below_size (by repeat (first | (with_reducible first | exact HB.out | apply bal | apply pdN | apply bdr) | exact HB.out))) : w.heap.size ≤ gb224)); have n3_ := A0_.mk ((by rw [hg]; exact (below_size (by repeat (first | (with_reducible first | exact HB.out | apply bal | apply pdN | apply bdr) | exact HB.out))) : w.heap.size ≤ gb224)); clear HB; have HB := n0_; have BK224 := n1_; have GW224 := n2_; have GE224 := n3_; clear n0_ n1_ n2_ n3_; clear hb hbox hg; have hcz9_0 : w8.cell? ⟨gb224, 0, none⟩ = some (.slice A0_0 l0_0.length c0_0) := (bkC BK224.out 0).trans rfl; have hfz9_0 := bkF BK224.out 0) | ((with_reducible refine gate_callee (f := 21) rfl ?_); refine goesL_ (some 20) rfl rfl Try.func21 (by kernel_rfl) rfl #[.agg #[.slice A0_0 l0_0.length c0_0], .int .i64 1048576] rfl (by (try simp only [List.map_toArray, List.map_cons, List.map_nil]); first | done | rfl | (simp only [List.length_drop, List.length_take]; rfl)) ?_; (with_reducible refine (laws_szForest.calls k _ _ l0_0 1048576 t225 _ ?side1 ?side2 A6.out).mono ?_); (case side1 => repeat (first | exact (Kd.C_below HR0_0.out HB.out) | (with_reducible refine Kd.C_alloc ?_ _) | (with_reducible refine Kd.C_drewN ?_ _) | (with_reducible refine Kd.C_drew ?_))); (case side2 => exact HC0_0.out); rintro e w10 ⟨rfl, hb⟩; refine ⟨_, rfl, ?_⟩; have n0_ := A0_.mk (blk_below (g := gb224) (o := .cells #[.slice A0_0 l0_0.length c0_0] 46 (0, 0)) (by (with_reducible repeat (first | refine bkN ?_ _ | refine bkD ?_ | refine bkA ?_ _)); exact BK224.out) hb); have n1_ := A0_.mk (below_step (by repeat (first | (with_reducible first | exact HB.out | apply bal | apply pdN | apply bdr | refine bst ?_ GE224.out) | exact HB.out)) hb); clear BK224; clear HB; have BK224 := n0_; have HB := n1_; clear n0_ n1_; (try clear hb); (try clear hb2); (try clear hk); (try clear hi)))
   go_ret
   exact ⟨by first | rfl | (simp [errW_none, errW_some] <;> rfl) | (simp [*, errW_none, errW_some] <;> rfl), by repeat (first | (with_reducible first | exact HB.out | apply bal | apply pdN | apply bdr | refine bst ?_ GE224.out) | exact HB.out)⟩
  ·rw [if_neg c7] at H
   have c7b0 : decide (t225 < 0) = false := decide_eq_false c7
   clear c7
   replace H := Option.bind_eq_some_iff.mp H
   obtain ⟨t226, A110, H⟩ := H
   replace H : ((spec_Grow.f k t226 a1 a2).bind fun bt229 => ((laws_toForest.f k l0_0).bind fun t234 => ((impl_Grow.f k t234 a1 a2).bind fun bt238 => ((laws_eqGrown.f k bt238.1 bt238.2 bt229.1 bt229.2).bind fun t243 => (if t243 = true then ((laws_toForest.f k l0_0).bind fun t244 => ((laws_eqForest.f k t234 t244).bind fun t247 => (if t247 = true then ((laws_markForest.f k t234 1).bind fun bt248 => (if bt248.1 < 0 then (laws_FnExactGrow.j0 k a1 a2 true l0_0 bt229.1 bt229.2 bt238.1 bt238.2) else ((laws_eqGrown.f k bt238.1 bt238.2 bt229.1 bt229.2).bind fun t250 => (laws_FnExactGrow.j0 k a1 a2 (!t250) l0_0 bt229.1 bt229.2 bt238.1 bt238.2)))) else (none)))) else (none)))))) = some r := H
   have A11 := A0_.mk A110
   clear A110
   replace H := Option.bind_eq_some_iff.mp H
   obtain ⟨⟨t229, t232⟩, A120, H⟩ := H
   replace H : ((laws_toForest.f k l0_0).bind fun t234 => ((impl_Grow.f k t234 a1 a2).bind fun bt238 => ((laws_eqGrown.f k bt238.1 bt238.2 t229 t232).bind fun t243 => (if t243 = true then ((laws_toForest.f k l0_0).bind fun t244 => ((laws_eqForest.f k t234 t244).bind fun t247 => (if t247 = true then ((laws_markForest.f k t234 1).bind fun bt248 => (if bt248.1 < 0 then (laws_FnExactGrow.j0 k a1 a2 true l0_0 t229 t232 bt238.1 bt238.2) else ((laws_eqGrown.f k bt238.1 bt238.2 t229 t232).bind fun t250 => (laws_FnExactGrow.j0 k a1 a2 (!t250) l0_0 t229 t232 bt238.1 bt238.2)))) else (none)))) else (none))))) = some r := H
   have A12 := A0_.mk A120
   clear A120
   replace H := Option.bind_eq_some_iff.mp H
   obtain ⟨t234, A130, H⟩ := H
   replace H : ((impl_Grow.f k t234 a1 a2).bind fun bt238 => ((laws_eqGrown.f k bt238.1 bt238.2 t229 t232).bind fun t243 => (if t243 = true then ((laws_toForest.f k l0_0).bind fun t244 => ((laws_eqForest.f k t234 t244).bind fun t247 => (if t247 = true then ((laws_markForest.f k t234 1).bind fun bt248 => (if bt248.1 < 0 then (laws_FnExactGrow.j0 k a1 a2 true l0_0 t229 t232 bt238.1 bt238.2) else ((laws_eqGrown.f k bt238.1 bt238.2 t229 t232).bind fun t250 => (laws_FnExactGrow.j0 k a1 a2 (!t250) l0_0 t229 t232 bt238.1 bt238.2)))) else (none)))) else (none)))) = some r := H
   have A13 := A0_.mk A130
   clear A130
   replace H := Option.bind_eq_some_iff.mp H
   obtain ⟨⟨t238, t241⟩, A140, H⟩ := H
   replace H : ((laws_eqGrown.f k t238 t241 t229 t232).bind fun t243 => (if t243 = true then ((laws_toForest.f k l0_0).bind fun t244 => ((laws_eqForest.f k t234 t244).bind fun t247 => (if t247 = true then ((laws_markForest.f k t234 1).bind fun bt248 => (if bt248.1 < 0 then (laws_FnExactGrow.j0 k a1 a2 true l0_0 t229 t232 t238 t241) else ((laws_eqGrown.f k t238 t241 t229 t232).bind fun t250 => (laws_FnExactGrow.j0 k a1 a2 (!t250) l0_0 t229 t232 t238 t241)))) else (none)))) else (none))) = some r := H
   have A14 := A0_.mk A140
   clear A140
   replace H := Option.bind_eq_some_iff.mp H
   obtain ⟨t243, A150, H⟩ := H
   replace H : (if t243 = true then ((laws_toForest.f k l0_0).bind fun t244 => ((laws_eqForest.f k t234 t244).bind fun t247 => (if t247 = true then ((laws_markForest.f k t234 1).bind fun bt248 => (if bt248.1 < 0 then (laws_FnExactGrow.j0 k a1 a2 true l0_0 t229 t232 t238 t241) else ((laws_eqGrown.f k t238 t241 t229 t232).bind fun t250 => (laws_FnExactGrow.j0 k a1 a2 (!t250) l0_0 t229 t232 t238 t241)))) else (none)))) else (none)) = some r := H
   have A15 := A0_.mk A150
   clear A150
   by_cases c16 : t243 = true
   ·subst c16
    have H1 : ((laws_toForest.f k l0_0).bind fun t244 => ((laws_eqForest.f k t234 t244).bind fun t247 => (if t247 = true then ((laws_markForest.f k t234 1).bind fun bt248 => (if bt248.1 < 0 then (laws_FnExactGrow.j0 k a1 a2 true l0_0 t229 t232 t238 t241) else ((laws_eqGrown.f k t238 t241 t229 t232).bind fun t250 => (laws_FnExactGrow.j0 k a1 a2 (!t250) l0_0 t229 t232 t238 t241)))) else (none)))) = some r := by rw [if_pos rfl] at H; exact H
    clear H
    have H := H1
    clear H1
    replace H := Option.bind_eq_some_iff.mp H
    obtain ⟨t244, A170, H⟩ := H
    replace H : ((laws_eqForest.f k t234 t244).bind fun t247 => (if t247 = true then ((laws_markForest.f k t234 1).bind fun bt248 => (if bt248.1 < 0 then (laws_FnExactGrow.j0 k a1 a2 true l0_0 t229 t232 t238 t241) else ((laws_eqGrown.f k t238 t241 t229 t232).bind fun t250 => (laws_FnExactGrow.j0 k a1 a2 (!t250) l0_0 t229 t232 t238 t241)))) else (none))) = some r := H
    have A17 := A0_.mk A170
    clear A170
    replace H := Option.bind_eq_some_iff.mp H
    obtain ⟨t247, A180, H⟩ := H
    replace H : (if t247 = true then ((laws_markForest.f k t234 1).bind fun bt248 => (if bt248.1 < 0 then (laws_FnExactGrow.j0 k a1 a2 true l0_0 t229 t232 t238 t241) else ((laws_eqGrown.f k t238 t241 t229 t232).bind fun t250 => (laws_FnExactGrow.j0 k a1 a2 (!t250) l0_0 t229 t232 t238 t241)))) else (none)) = some r := H
    have A18 := A0_.mk A180
    clear A180
    by_cases c19 : t247 = true
    ·subst c19
     have H1 : ((laws_markForest.f k t234 1).bind fun bt248 => (if bt248.1 < 0 then (laws_FnExactGrow.j0 k a1 a2 true l0_0 t229 t232 t238 t241) else ((laws_eqGrown.f k t238 t241 t229 t232).bind fun t250 => (laws_FnExactGrow.j0 k a1 a2 (!t250) l0_0 t229 t232 t238 t241)))) = some r := by rw [if_pos rfl] at H; exact H
     clear H
     have H := H1
     clear H1
     replace H := Option.bind_eq_some_iff.mp H
     obtain ⟨⟨t248, t249⟩, A200, H⟩ := H
     replace H : (if t248 < 0 then (laws_FnExactGrow.j0 k a1 a2 true l0_0 t229 t232 t238 t241) else ((laws_eqGrown.f k t238 t241 t229 t232).bind fun t250 => (laws_FnExactGrow.j0 k a1 a2 (!t250) l0_0 t229 t232 t238 t241))) = some r := H
     have A20 := A0_.mk A200
     clear A200
     have HC21 := A0_.mk H
     clear H
     go_enter Try.func10, Try.ntmps10
     try go_wp2_with (first | ((with_reducible refine gate_dst (N := 3) rfl ?_); refine box_event ?hg (N := 3) ?hd (cs := #[.slice A0_0 l0_0.length c0_0]) (t := 46) ?hr ?_; (case hd => rfl); (case hg => rfl); (case hr => first | (go_simp; done) | (go_simp; rfl)); intro gb224 hg w22 hbox hb; have n0_ := A0_.mk (below_step (by repeat (first | (with_reducible first | exact HB.out | apply bal | apply pdN | apply bdr) | exact HB.out)) hb); have n1_ := A0_.mk (hbox); have n2_ := A0_.mk ((by rw [hg]; exact (below_size (by repeat (first | (with_reducible first | exact HB.out | apply bal | apply pdN | apply bdr) | exact HB.out))) : w.heap.size ≤ gb224)); have n3_ := A0_.mk ((by rw [hg]; exact (below_size (by repeat (first | (with_reducible first | exact HB.out | apply bal | apply pdN | apply bdr) | exact HB.out))) : w.heap.size ≤ gb224)); clear HB; have HB := n0_; have BK224 := n1_; have GW224 := n2_; have GE224 := n3_; clear n0_ n1_ n2_ n3_; clear hb hbox hg; have hcz23_0 : w22.cell? ⟨gb224, 0, none⟩ = some (.slice A0_0 l0_0.length c0_0) := (bkC BK224.out 0).trans rfl; have hfz23_0 := bkF BK224.out 0) | ((with_reducible refine gate_callee (f := 21) rfl ?_); refine goesL_ (some 20) rfl rfl Try.func21 (by kernel_rfl) rfl #[.agg #[.slice A0_0 l0_0.length c0_0], .int .i64 1048576] rfl (by (try simp only [List.map_toArray, List.map_cons, List.map_nil]); first | done | rfl | (simp only [List.length_drop, List.length_take]; rfl)) ?_; (with_reducible refine (laws_szForest.calls k _ _ l0_0 1048576 t225 _ ?side1 ?side2 A6.out).mono ?_); (case side1 => repeat (first | exact (Kd.C_below HR0_0.out HB.out) | (with_reducible refine Kd.C_alloc ?_ _) | (with_reducible refine Kd.C_drewN ?_ _) | (with_reducible refine Kd.C_drew ?_))); (case side2 => exact HC0_0.out); rintro e w24 ⟨rfl, hb⟩; refine ⟨_, rfl, ?_⟩; have n0_ := A0_.mk (blk_below (g := gb224) (o := .cells #[.slice A0_0 l0_0.length c0_0] 46 (0, 0)) (by (with_reducible repeat (first | refine bkN ?_ _ | refine bkD ?_ | refine bkA ?_ _)); exact BK224.out) hb); have n1_ := A0_.mk (below_step (by repeat (first | (with_reducible first | exact HB.out | apply bal | apply pdN | apply bdr | refine bst ?_ GE224.out) | exact HB.out)) hb); clear BK224; clear HB; have BK224 := n0_; have HB := n1_; clear n0_ n1_; (try clear hb); (try clear hb2); (try clear hk); (try clear hi); have hcz25_0 : w24.cell? ⟨gb224, 0, none⟩ = some (.slice A0_0 l0_0.length c0_0) := (bkC BK224.out 0).trans rfl; have hfz25_0 := bkF BK224.out 0) | ((with_reducible refine gate_callee (f := 23) rfl ?_); refine goesL_ (some 24) rfl rfl Try.func23 (by kernel_rfl) rfl #[.agg #[.slice A0_0 l0_0.length c0_0]] rfl (by (try simp only [List.map_toArray, List.map_cons, List.map_nil]); first | done | rfl | (simp only [List.length_drop, List.length_take]; rfl)) ?_; (with_reducible refine (laws_toForest.calls k _ _ l0_0 t226 _ ?side1 ?side2 A11.out).mono ?_); (case side1 => repeat (first | exact (Kd.C_below HR0_0.out HB.out) | (with_reducible refine Kd.C_alloc ?_ _) | (with_reducible refine Kd.C_drewN ?_ _) | (with_reducible refine Kd.C_drew ?_))); (case side2 => exact HC0_0.out); rintro e w26 ⟨v227, rfl, ho0, hb⟩; refine ⟨_, rfl, ?_⟩; have n0_ := A0_.mk (Kd.R_lower ho0 (below_size (by repeat (first | (with_reducible first | exact HB.out | apply bal | apply pdN | apply bdr | refine bst ?_ GE224.out) | exact HB.out)))); have n1_ := A0_.mk (blk_below (g := gb224) (o := .cells #[.slice A0_0 l0_0.length c0_0] 46 (0, 0)) (by (with_reducible repeat (first | refine bkN ?_ _ | refine bkD ?_ | refine bkA ?_ _)); exact BK224.out) hb); have n2_ := A0_.mk (below_step (by repeat (first | (with_reducible first | exact HB.out | apply bal | apply pdN | apply bdr | refine bst ?_ GE224.out) | exact HB.out)) hb); clear BK224; clear HB; have HO228 := n0_; have BK224 := n1_; have HB := n2_; clear n0_ n1_ n2_; (try clear hb); (try clear hb2); (try clear hk); (try clear hi); (try clear ho0); obtain ⟨Ao27, co27, eo27⟩ := Kd.R_slice HO228.out; subst eo27) | ((with_reducible refine gate_callee (f := 36) rfl ?_); refine goesL_ (some 27) rfl rfl Try.func36 (by kernel_rfl) rfl #[.agg #[.slice Ao27 t226.length co27], .int .i64 a1, .string a2] rfl (by (try simp only [List.map_toArray, List.map_cons, List.map_nil]); first | done | rfl | (simp only [List.length_drop, List.length_take]; rfl)) ?_; (with_reducible refine (spec_Grow.calls k _ _ t226 a1 a2 t229 t232 _ ?side1 ?side2 A12.out).mono ?_); (case side1 => repeat (first | exact (Kd.R_reads' HO228.out).2.2 | (with_reducible refine Kd.C_alloc ?_ _) | (with_reducible refine Kd.C_drewN ?_ _) | (with_reducible refine Kd.C_drew ?_))); (case side2 => exact (Kd.R_reads' HO228.out).2.1); rintro e w28 ⟨v230, rfl, ho0, hb⟩; refine ⟨_, rfl, ?_⟩; have n0_ := A0_.mk (Kd.R_elder' (by (with_reducible repeat (first | apply Kd.R_alloc | apply Kd.R_drewN | apply Kd.R_drew)); exact HO228.out) (Kd.R_base ho0) hb); have n1_ := A0_.mk (Kd.R_lower (Kd.R_new' ho0 (Kd.R_lt (by (with_reducible repeat (first | apply Kd.R_alloc | apply Kd.R_drewN | apply Kd.R_drew)); exact HO228.out))) (below_size (by repeat (first | (with_reducible first | exact HB.out | apply bal | apply pdN | apply bdr | refine bst ?_ GE224.out) | exact HB.out)))); have n2_ := A0_.mk (blk_below (g := gb224) (o := .cells #[.slice A0_0 l0_0.length c0_0] 46 (0, 0)) (by (with_reducible repeat (first | refine bkN ?_ _ | refine bkD ?_ | refine bkA ?_ _)); exact BK224.out) hb); have n3_ := A0_.mk (below_step (by repeat (first | (with_reducible first | exact HB.out | apply bal | apply pdN | apply bdr | refine bst ?_ GE224.out) | exact HB.out)) hb); clear HO228; clear BK224; clear HB; have HO228 := n0_; have HO231 := n1_; have BK224 := n2_; have HB := n3_; clear n0_ n1_ n2_ n3_; (try clear hb); (try clear hb2); (try clear hk); (try clear hi); (try clear ho0)) | ((with_reducible refine gate_dst (N := 8) rfl ?_); refine box_event ?hg (N := 8) ?hd (cs := #[.slice none 0 0, .int .i64 0]) (t := 64) ?hr ?_; (case hd => rfl); (case hg => rfl); (case hr => first | (go_simp; done) | (go_simp; rfl)); intro gb233 hg w29 hbox hb; have n0_ := A0_.mk (Kd.R_below (by (with_reducible repeat (first | apply Kd.R_alloc | apply Kd.R_drewN | apply Kd.R_drew)); exact HO228.out) hb); have n1_ := A0_.mk (Kd.R_below (by (with_reducible repeat (first | apply Kd.R_alloc | apply Kd.R_drewN | apply Kd.R_drew)); exact HO231.out) hb); have n2_ := A0_.mk (blk_below (g := gb224) (o := .cells #[.slice A0_0 l0_0.length c0_0] 46 (0, 0)) (by (with_reducible repeat (first | refine bkN ?_ _ | refine bkD ?_ | refine bkA ?_ _)); exact BK224.out) hb); have n3_ := A0_.mk (below_step (by repeat (first | (with_reducible first | exact HB.out | apply bal | apply pdN | apply bdr | refine bst ?_ GE224.out) | exact HB.out)) hb); have n4_ := A0_.mk (hbox); have n5_ := A0_.mk ((by rw [hg]; exact (below_size (by repeat (first | (with_reducible first | exact HB.out | apply bal | apply pdN | apply bdr | refine bst ?_ GE224.out) | exact HB.out))) : w.heap.size ≤ gb233)); have n6_ := A0_.mk ((by rw [hg]; exact (below_size (by repeat (first | (with_reducible first | exact HB.out | apply bal | apply pdN | apply bdr | refine bst ?_ GE224.out) | exact HB.out))) : w.heap.size ≤ gb233)); have n7_ := A0_.mk ((by rw [hg]; exact Nat.ne_of_lt (blk_lt (g := gb224) (o := .cells #[.slice A0_0 l0_0.length c0_0] 46 (0, 0)) (by (with_reducible repeat (first | refine bkN ?_ _ | refine bkD ?_ | refine bkA ?_ _)); exact BK224.out)) : gb224 ≠ gb233)); have n8_ := A0_.mk ((by rw [hg]; exact Nat.ne_of_gt (blk_lt (g := gb224) (o := .cells #[.slice A0_0 l0_0.length c0_0] 46 (0, 0)) (by (with_reducible repeat (first | refine bkN ?_ _ | refine bkD ?_ | refine bkA ?_ _)); exact BK224.out)) : gb233 ≠ gb224)); clear HO228; clear HO231; clear BK224; clear HB; have HO228 := n0_; have HO231 := n1_; have BK224 := n2_; have HB := n3_; have BK233 := n4_; have GW233 := n5_; have GE233 := n6_; have NB224_233 := n7_; have NB233_224 := n8_; clear n0_ n1_ n2_ n3_ n4_ n5_ n6_ n7_ n8_; clear hb hbox hg; obtain ⟨Ao30, co30, eo30⟩ := Kd.R_slice HO231.out; subst eo30; have hnb31 := NB233_224.out; have hnc31 := NB224_233.out; have hcz32_0 : w29.cell? ⟨gb233, 0, none⟩ = some (.slice none 0 0) := (bkC BK233.out 0).trans rfl; have hcz32_1 : w29.cell? ⟨gb233, 1, none⟩ = some (.int .i64 0) := (bkC BK233.out 1).trans rfl; have hfz32_0 := bkF BK233.out 0; have hfz32_1 := bkF BK233.out 1; have hcz33_0 : w29.cell? ⟨gb224, 0, none⟩ = some (.slice A0_0 l0_0.length c0_0) := (bkC BK224.out 0).trans rfl; have hfz33_0 := bkF BK224.out 0) | ((with_reducible refine gate_callee (f := 23) rfl ?_); refine goesL_ (some 29) rfl rfl Try.func23 (by kernel_rfl) rfl #[.agg #[.slice A0_0 l0_0.length c0_0]] rfl (by (try simp only [List.map_toArray, List.map_cons, List.map_nil]); first | done | rfl | (simp only [List.length_drop, List.length_take]; rfl)) ?_; (with_reducible refine (laws_toForest.calls k _ _ l0_0 t234 _ ?side1 ?side2 A13.out).mono ?_); (case side1 => exact Kd.C_below HR0_0.out (by repeat (first | (with_reducible first | exact HB.out | apply bal | apply pdN | apply bdr | refine bst ?_ GE224.out | refine bst ?_ GE233.out) | exact HB.out))); (case side2 => exact HC0_0.out); rintro e w34 ⟨v235, rfl, ho0, hb⟩; refine ⟨_, rfl, ?_⟩; have n0_ := A0_.mk (Kd.R_elder' (by (with_reducible repeat (first | apply Kd.R_alloc | apply Kd.R_drewN | apply Kd.R_drew)); exact (Kd.R_mono (Kd.R_far (p := ⟨gb233, 1, none⟩) (Kd.R_far (p := ⟨gb233, 0, none⟩) (Kd.R_types HO228.out BK233.out (by decide)) (fun _ hk => hk.2) (.slice Ao30 t229.length co30)) (fun _ hk => hk.2) (.int .i64 t232)) (fun _ h_ => h_.1))) (Kd.R_base ho0) hb); have n1_ := A0_.mk (Kd.R_elder' (by (with_reducible repeat (first | apply Kd.R_alloc | apply Kd.R_drewN | apply Kd.R_drew)); exact (Kd.R_mono (Kd.R_far (p := ⟨gb233, 1, none⟩) (Kd.R_far (p := ⟨gb233, 0, none⟩) (Kd.R_types HO231.out BK233.out (by decide)) (fun _ hk => hk.2) (.slice Ao30 t229.length co30)) (fun _ hk => hk.2) (.int .i64 t232)) (fun _ h_ => h_.1))) (Kd.R_base ho0) hb); have n2_ := A0_.mk (Kd.R_lower (Kd.R_new' (Kd.R_new' ho0 (Kd.R_lt (by (with_reducible repeat (first | apply Kd.R_alloc | apply Kd.R_drewN | apply Kd.R_drew)); exact (Kd.R_mono (Kd.R_far (p := ⟨gb233, 1, none⟩) (Kd.R_far (p := ⟨gb233, 0, none⟩) (Kd.R_types HO228.out BK233.out (by decide)) (fun _ hk => hk.2) (.slice Ao30 t229.length co30)) (fun _ hk => hk.2) (.int .i64 t232)) (fun _ h_ => h_.1))))) (Kd.R_lt (by (with_reducible repeat (first | apply Kd.R_alloc | apply Kd.R_drewN | apply Kd.R_drew)); exact (Kd.R_mono (Kd.R_far (p := ⟨gb233, 1, none⟩) (Kd.R_far (p := ⟨gb233, 0, none⟩) (Kd.R_types HO231.out BK233.out (by decide)) (fun _ hk => hk.2) (.slice Ao30 t229.length co30)) (fun _ hk => hk.2) (.int .i64 t232)) (fun _ h_ => h_.1))))) (below_size (by repeat (first | (with_reducible first | exact HB.out | apply bal | apply pdN | apply bdr | refine bst ?_ GE224.out | refine bst ?_ GE233.out) | exact HB.out)))); have n3_ := A0_.mk (blk_below (g := gb224) (o := .cells #[.slice A0_0 l0_0.length c0_0] 46 (0, 0)) (by (with_reducible repeat (first | refine bkN ?_ _ | refine bkD ?_ | refine bkA ?_ _)); refine blk_far ?_ NB224_233.out _; (with_reducible repeat (first | refine bkN ?_ _ | refine bkD ?_ | refine bkA ?_ _)); refine blk_far ?_ NB224_233.out _; (with_reducible repeat (first | refine bkN ?_ _ | refine bkD ?_ | refine bkA ?_ _)); exact BK224.out) hb); have n4_ := A0_.mk (blk_below (g := gb233) (o := .cells #[.slice Ao30 t229.length co30, .int .i64 t232] 64 (0, 0)) (by (with_reducible repeat (first | refine bkN ?_ _ | refine bkD ?_ | refine bkA ?_ _)); refine blk_put (cs := #[.slice Ao30 t229.length co30, .int .i64 0]) ?_ 1 _ rfl; (with_reducible repeat (first | refine bkN ?_ _ | refine bkD ?_ | refine bkA ?_ _)); refine blk_put (cs := #[.slice none 0 0, .int .i64 0]) ?_ 0 _ rfl; (with_reducible repeat (first | refine bkN ?_ _ | refine bkD ?_ | refine bkA ?_ _)); exact BK233.out) hb); have n5_ := A0_.mk (below_step (by repeat (first | (with_reducible first | exact HB.out | apply bal | apply pdN | apply bdr | refine bst ?_ GE224.out | refine bst ?_ GE233.out) | exact HB.out)) hb); clear HO228; clear HO231; clear BK224; clear BK233; clear HB; have HO228 := n0_; have HO231 := n1_; have HO236 := n2_; have BK224 := n3_; have BK233 := n4_; have HB := n5_; clear n0_ n1_ n2_ n3_ n4_ n5_; (try clear hb); (try clear hb2); (try clear hk); (try clear hi); (try clear ho0)) | ((with_reducible refine gate_dst (N := 9) rfl ?_); refine box_event ?hg (N := 9) ?hd (cs := #[.slice none 0 0]) (t := 36) ?hr ?_; (case hd => rfl); (case hg => rfl); (case hr => first | (go_simp; done) | (go_simp; rfl)); intro gb237 hg w35 hbox hb; have n0_ := A0_.mk (Kd.R_below (by (with_reducible repeat (first | apply Kd.R_alloc | apply Kd.R_drewN | apply Kd.R_drew)); exact HO228.out) hb); have n1_ := A0_.mk (Kd.R_below (by (with_reducible repeat (first | apply Kd.R_alloc | apply Kd.R_drewN | apply Kd.R_drew)); exact HO231.out) hb); have n2_ := A0_.mk (Kd.R_below (by (with_reducible repeat (first | apply Kd.R_alloc | apply Kd.R_drewN | apply Kd.R_drew)); exact HO236.out) hb); have n3_ := A0_.mk (blk_below (g := gb224) (o := .cells #[.slice A0_0 l0_0.length c0_0] 46 (0, 0)) (by (with_reducible repeat (first | refine bkN ?_ _ | refine bkD ?_ | refine bkA ?_ _)); exact BK224.out) hb); have n4_ := A0_.mk (blk_below (g := gb233) (o := .cells #[.slice Ao30 t229.length co30, .int .i64 t232] 64 (0, 0)) (by (with_reducible repeat (first | refine bkN ?_ _ | refine bkD ?_ | refine bkA ?_ _)); exact BK233.out) hb); have n5_ := A0_.mk (below_step (by repeat (first | (with_reducible first | exact HB.out | apply bal | apply pdN | apply bdr | refine bst ?_ GE224.out | refine bst ?_ GE233.out) | exact HB.out)) hb); have n6_ := A0_.mk (hbox); have n7_ := A0_.mk ((by rw [hg]; exact (below_size (by repeat (first | (with_reducible first | exact HB.out | apply bal | apply pdN | apply bdr | refine bst ?_ GE224.out | refine bst ?_ GE233.out) | exact HB.out))) : w.heap.size ≤ gb237)); have n8_ := A0_.mk ((by rw [hg]; exact (below_size (by repeat (first | (with_reducible first | exact HB.out | apply bal | apply pdN | apply bdr | refine bst ?_ GE224.out | refine bst ?_ GE233.out) | exact HB.out))) : w.heap.size ≤ gb237)); have n9_ := A0_.mk ((by rw [hg]; exact Nat.ne_of_lt (blk_lt (g := gb224) (o := .cells #[.slice A0_0 l0_0.length c0_0] 46 (0, 0)) (by (with_reducible repeat (first | refine bkN ?_ _ | refine bkD ?_ | refine bkA ?_ _)); exact BK224.out)) : gb224 ≠ gb237)); have n10_ := A0_.mk ((by rw [hg]; exact Nat.ne_of_gt (blk_lt (g := gb224) (o := .cells #[.slice A0_0 l0_0.length c0_0] 46 (0, 0)) (by (with_reducible repeat (first | refine bkN ?_ _ | refine bkD ?_ | refine bkA ?_ _)); exact BK224.out)) : gb237 ≠ gb224)); have n11_ := A0_.mk ((by rw [hg]; exact Nat.ne_of_lt (blk_lt (g := gb233) (o := .cells #[.slice Ao30 t229.length co30, .int .i64 t232] 64 (0, 0)) (by (with_reducible repeat (first | refine bkN ?_ _ | refine bkD ?_ | refine bkA ?_ _)); exact BK233.out)) : gb233 ≠ gb237)); have n12_ := A0_.mk ((by rw [hg]; exact Nat.ne_of_gt (blk_lt (g := gb233) (o := .cells #[.slice Ao30 t229.length co30, .int .i64 t232] 64 (0, 0)) (by (with_reducible repeat (first | refine bkN ?_ _ | refine bkD ?_ | refine bkA ?_ _)); exact BK233.out)) : gb237 ≠ gb233)); clear HO228; clear HO231; clear HO236; clear BK224; clear BK233; clear HB; have HO228 := n0_; have HO231 := n1_; have HO236 := n2_; have BK224 := n3_; have BK233 := n4_; have HB := n5_; have BK237 := n6_; have GW237 := n7_; have GE237 := n8_; have NB224_237 := n9_; have NB237_224 := n10_; have NB233_237 := n11_; have NB237_233 := n12_; clear n0_ n1_ n2_ n3_ n4_ n5_ n6_ n7_ n8_ n9_ n10_ n11_ n12_; clear hb hbox hg; obtain ⟨Ao36, co36, eo36⟩ := Kd.R_slice HO236.out; subst eo36; have hnb37 := NB237_224.out; have hnc37 := NB224_237.out; have hnb38 := NB237_233.out; have hnc38 := NB233_237.out; have hcz39_0 : w35.cell? ⟨gb237, 0, none⟩ = some (.slice none 0 0) := (bkC BK237.out 0).trans rfl; have hfz39_0 := bkF BK237.out 0) | ((with_reducible refine gate_callee (f := 35) rfl ?_); refine goesL_ (some 33) rfl rfl Try.func35 (by kernel_rfl) rfl #[.agg #[.slice Ao36 t234.length co36], .int .i64 a1, .string a2] rfl (by (try simp only [List.map_toArray, List.map_cons, List.map_nil]); first | done | rfl | (simp only [List.length_drop, List.length_take]; rfl)) ?_; (with_reducible refine (impl_Grow.calls k _ _ t234 a1 a2 t238 t241 _ ?side1 ?side2 A14.out).mono ?_); (case side1 => refine (Kd.R_reads' (e := 75) (base := w.heap.size) (ok := fun k_ => ((True ∧ some k_ ≠ (.slice Ao27 t226.length co27 : Value).ownBlock) ∧ some k_ ≠ (.slice Ao30 t229.length co30 : Value).ownBlock)) (n := t234.length) (c := co36) ?_).2.2; exact (by (with_reducible repeat (first | apply Kd.R_alloc | apply Kd.R_drewN | apply Kd.R_drew)); exact (Kd.R_mono (Kd.R_far (p := ⟨gb237, 0, none⟩) (Kd.R_types HO236.out BK237.out (by decide)) (fun _ hk => hk.2) (.slice Ao36 t234.length co36)) (fun _ h_ => h_.1)))); (case side2 => exact (Kd.R_reads' HO236.out).2.1); rintro e w40 ⟨v239, rfl, ho0, hb⟩; refine ⟨_, rfl, ?_⟩; have n0_ := A0_.mk (Kd.R_elder' (by (with_reducible repeat (first | apply Kd.R_alloc | apply Kd.R_drewN | apply Kd.R_drew)); exact (Kd.R_mono (Kd.R_far (p := ⟨gb237, 0, none⟩) (Kd.R_types HO228.out BK237.out (by decide)) (fun _ hk => hk.2) (.slice Ao36 t234.length co36)) (fun _ h_ => h_.1))) (Kd.R_base ho0) hb); have n1_ := A0_.mk (Kd.R_elder' (by (with_reducible repeat (first | apply Kd.R_alloc | apply Kd.R_drewN | apply Kd.R_drew)); exact (Kd.R_mono (Kd.R_far (p := ⟨gb237, 0, none⟩) (Kd.R_types HO231.out BK237.out (by decide)) (fun _ hk => hk.2) (.slice Ao36 t234.length co36)) (fun _ h_ => h_.1))) (Kd.R_base ho0) hb); have n2_ := A0_.mk (Kd.R_elder' (by (with_reducible repeat (first | apply Kd.R_alloc | apply Kd.R_drewN | apply Kd.R_drew)); exact (Kd.R_mono (Kd.R_far (p := ⟨gb237, 0, none⟩) (Kd.R_types HO236.out BK237.out (by decide)) (fun _ hk => hk.2) (.slice Ao36 t234.length co36)) (fun _ h_ => h_.1))) (Kd.R_base ho0) hb); have n3_ := A0_.mk (Kd.R_lower (Kd.R_new' (Kd.R_new' (Kd.R_new' ho0 (Kd.R_lt (by (with_reducible repeat (first | apply Kd.R_alloc | apply Kd.R_drewN | apply Kd.R_drew)); exact (Kd.R_mono (Kd.R_far (p := ⟨gb237, 0, none⟩) (Kd.R_types HO228.out BK237.out (by decide)) (fun _ hk => hk.2) (.slice Ao36 t234.length co36)) (fun _ h_ => h_.1))))) (Kd.R_lt (by (with_reducible repeat (first | apply Kd.R_alloc | apply Kd.R_drewN | apply Kd.R_drew)); exact (Kd.R_mono (Kd.R_far (p := ⟨gb237, 0, none⟩) (Kd.R_types HO231.out BK237.out (by decide)) (fun _ hk => hk.2) (.slice Ao36 t234.length co36)) (fun _ h_ => h_.1))))) (Kd.R_lt (by (with_reducible repeat (first | apply Kd.R_alloc | apply Kd.R_drewN | apply Kd.R_drew)); exact (Kd.R_mono (Kd.R_far (p := ⟨gb237, 0, none⟩) (Kd.R_types HO236.out BK237.out (by decide)) (fun _ hk => hk.2) (.slice Ao36 t234.length co36)) (fun _ h_ => h_.1))))) (below_size (by repeat (first | (with_reducible first | exact HB.out | apply bal | apply pdN | apply bdr | refine bst ?_ GE224.out | refine bst ?_ GE233.out | refine bst ?_ GE237.out) | exact HB.out)))); have n4_ := A0_.mk (blk_below (g := gb224) (o := .cells #[.slice A0_0 l0_0.length c0_0] 46 (0, 0)) (by (with_reducible repeat (first | refine bkN ?_ _ | refine bkD ?_ | refine bkA ?_ _)); refine blk_far ?_ NB224_237.out _; (with_reducible repeat (first | refine bkN ?_ _ | refine bkD ?_ | refine bkA ?_ _)); exact BK224.out) hb); have n5_ := A0_.mk (blk_below (g := gb233) (o := .cells #[.slice Ao30 t229.length co30, .int .i64 t232] 64 (0, 0)) (by (with_reducible repeat (first | refine bkN ?_ _ | refine bkD ?_ | refine bkA ?_ _)); refine blk_far ?_ NB233_237.out _; (with_reducible repeat (first | refine bkN ?_ _ | refine bkD ?_ | refine bkA ?_ _)); exact BK233.out) hb); have n6_ := A0_.mk (blk_below (g := gb237) (o := .cells #[.slice Ao36 t234.length co36] 36 (0, 0)) (by (with_reducible repeat (first | refine bkN ?_ _ | refine bkD ?_ | refine bkA ?_ _)); refine blk_put (cs := #[.slice none 0 0]) ?_ 0 _ rfl; (with_reducible repeat (first | refine bkN ?_ _ | refine bkD ?_ | refine bkA ?_ _)); exact BK237.out) hb); have n7_ := A0_.mk (below_step (by repeat (first | (with_reducible first | exact HB.out | apply bal | apply pdN | apply bdr | refine bst ?_ GE224.out | refine bst ?_ GE233.out | refine bst ?_ GE237.out) | exact HB.out)) hb); clear HO228; clear HO231; clear HO236; clear BK224; clear BK233; clear BK237; clear HB; have HO228 := n0_; have HO231 := n1_; have HO236 := n2_; have HO240 := n3_; have BK224 := n4_; have BK233 := n5_; have BK237 := n6_; have HB := n7_; clear n0_ n1_ n2_ n3_ n4_ n5_ n6_ n7_; (try clear hb); (try clear hb2); (try clear hk); (try clear hi); (try clear ho0)) | ((with_reducible refine gate_dst (N := 10) rfl ?_); refine box_event ?hg (N := 10) ?hd (cs := #[.slice none 0 0, .int .i64 0]) (t := 64) ?hr ?_; (case hd => rfl); (case hg => rfl); (case hr => first | (go_simp; done) | (go_simp; rfl)); intro gb242 hg w41 hbox hb; have n0_ := A0_.mk (Kd.R_below (by (with_reducible repeat (first | apply Kd.R_alloc | apply Kd.R_drewN | apply Kd.R_drew)); exact HO228.out) hb); have n1_ := A0_.mk (Kd.R_below (by (with_reducible repeat (first | apply Kd.R_alloc | apply Kd.R_drewN | apply Kd.R_drew)); exact HO231.out) hb); have n2_ := A0_.mk (Kd.R_below (by (with_reducible repeat (first | apply Kd.R_alloc | apply Kd.R_drewN | apply Kd.R_drew)); exact HO236.out) hb); have n3_ := A0_.mk (Kd.R_below (by (with_reducible repeat (first | apply Kd.R_alloc | apply Kd.R_drewN | apply Kd.R_drew)); exact HO240.out) hb); have n4_ := A0_.mk (blk_below (g := gb224) (o := .cells #[.slice A0_0 l0_0.length c0_0] 46 (0, 0)) (by (with_reducible repeat (first | refine bkN ?_ _ | refine bkD ?_ | refine bkA ?_ _)); exact BK224.out) hb); have n5_ := A0_.mk (blk_below (g := gb233) (o := .cells #[.slice Ao30 t229.length co30, .int .i64 t232] 64 (0, 0)) (by (with_reducible repeat (first | refine bkN ?_ _ | refine bkD ?_ | refine bkA ?_ _)); exact BK233.out) hb); have n6_ := A0_.mk (blk_below (g := gb237) (o := .cells #[.slice Ao36 t234.length co36] 36 (0, 0)) (by (with_reducible repeat (first | refine bkN ?_ _ | refine bkD ?_ | refine bkA ?_ _)); exact BK237.out) hb); have n7_ := A0_.mk (below_step (by repeat (first | (with_reducible first | exact HB.out | apply bal | apply pdN | apply bdr | refine bst ?_ GE224.out | refine bst ?_ GE233.out | refine bst ?_ GE237.out) | exact HB.out)) hb); have n8_ := A0_.mk (hbox); have n9_ := A0_.mk ((by rw [hg]; exact (below_size (by repeat (first | (with_reducible first | exact HB.out | apply bal | apply pdN | apply bdr | refine bst ?_ GE224.out | refine bst ?_ GE233.out | refine bst ?_ GE237.out) | exact HB.out))) : w.heap.size ≤ gb242)); have n10_ := A0_.mk ((by rw [hg]; exact (below_size (by repeat (first | (with_reducible first | exact HB.out | apply bal | apply pdN | apply bdr | refine bst ?_ GE224.out | refine bst ?_ GE233.out | refine bst ?_ GE237.out) | exact HB.out))) : w.heap.size ≤ gb242)); have n11_ := A0_.mk ((by rw [hg]; exact Nat.ne_of_lt (blk_lt (g := gb224) (o := .cells #[.slice A0_0 l0_0.length c0_0] 46 (0, 0)) (by (with_reducible repeat (first | refine bkN ?_ _ | refine bkD ?_ | refine bkA ?_ _)); exact BK224.out)) : gb224 ≠ gb242)); have n12_ := A0_.mk ((by rw [hg]; exact Nat.ne_of_gt (blk_lt (g := gb224) (o := .cells #[.slice A0_0 l0_0.length c0_0] 46 (0, 0)) (by (with_reducible repeat (first | refine bkN ?_ _ | refine bkD ?_ | refine bkA ?_ _)); exact BK224.out)) : gb242 ≠ gb224)); have n13_ := A0_.mk ((by rw [hg]; exact Nat.ne_of_lt (blk_lt (g := gb233) (o := .cells #[.slice Ao30 t229.length co30, .int .i64 t232] 64 (0, 0)) (by (with_reducible repeat (first | refine bkN ?_ _ | refine bkD ?_ | refine bkA ?_ _)); exact BK233.out)) : gb233 ≠ gb242)); have n14_ := A0_.mk ((by rw [hg]; exact Nat.ne_of_gt (blk_lt (g := gb233) (o := .cells #[.slice Ao30 t229.length co30, .int .i64 t232] 64 (0, 0)) (by (with_reducible repeat (first | refine bkN ?_ _ | refine bkD ?_ | refine bkA ?_ _)); exact BK233.out)) : gb242 ≠ gb233)); have n15_ := A0_.mk ((by rw [hg]; exact Nat.ne_of_lt (blk_lt (g := gb237) (o := .cells #[.slice Ao36 t234.length co36] 36 (0, 0)) (by (with_reducible repeat (first | refine bkN ?_ _ | refine bkD ?_ | refine bkA ?_ _)); exact BK237.out)) : gb237 ≠ gb242)); have n16_ := A0_.mk ((by rw [hg]; exact Nat.ne_of_gt (blk_lt (g := gb237) (o := .cells #[.slice Ao36 t234.length co36] 36 (0, 0)) (by (with_reducible repeat (first | refine bkN ?_ _ | refine bkD ?_ | refine bkA ?_ _)); exact BK237.out)) : gb242 ≠ gb237)); clear HO228; clear HO231; clear HO236; clear HO240; clear BK224; clear BK233; clear BK237; clear HB; have HO228 := n0_; have HO231 := n1_; have HO236 := n2_; have HO240 := n3_; have BK224 := n4_; have BK233 := n5_; have BK237 := n6_; have HB := n7_; have BK242 := n8_; have GW242 := n9_; have GE242 := n10_; have NB224_242 := n11_; have NB242_224 := n12_; have NB233_242 := n13_; have NB242_233 := n14_; have NB237_242 := n15_; have NB242_237 := n16_; clear n0_ n1_ n2_ n3_ n4_ n5_ n6_ n7_ n8_ n9_ n10_ n11_ n12_ n13_ n14_ n15_ n16_; clear hb hbox hg; obtain ⟨Ao42, co42, eo42⟩ := Kd.R_slice HO240.out; subst eo42; have hnb43 := NB242_224.out; have hnc43 := NB224_242.out; have hnb44 := NB242_233.out; have hnc44 := NB233_242.out; have hnb45 := NB242_237.out; have hnc45 := NB237_242.out; have hcz46_0 : w41.cell? ⟨gb242, 0, none⟩ = some (.slice none 0 0) := (bkC BK242.out 0).trans rfl; have hcz46_1 : w41.cell? ⟨gb242, 1, none⟩ = some (.int .i64 0) := (bkC BK242.out 1).trans rfl; have hfz46_0 := bkF BK242.out 0; have hfz46_1 := bkF BK242.out 1; have hcz47_0 : w41.cell? ⟨gb233, 0, none⟩ = some (.slice Ao30 t229.length co30) := (bkC BK233.out 0).trans rfl; have hcz47_1 : w41.cell? ⟨gb233, 1, none⟩ = some (.int .i64 t232) := (bkC BK233.out 1).trans rfl; have hfz47_0 := bkF BK233.out 0; have hfz47_1 := bkF BK233.out 1) | ((with_reducible refine gate_callee (f := 38) rfl ?_); refine goesL_ (some 36) rfl rfl Try.func38 (by kernel_rfl) rfl #[.agg #[.slice Ao42 t238.length co42, .int .i64 t241], .agg #[.slice Ao30 t229.length co30, .int .i64 t232]] rfl (by (try simp only [List.map_toArray, List.map_cons, List.map_nil]); first | done | rfl | (simp only [List.length_drop, List.length_take]; rfl)) ?_; (with_reducible refine (laws_eqGrown.calls k _ _ t238 t241 _ _ t229 t232 true _ ?side1 ?side2 ?side3 ?side4 A15.out).mono ?_); (case side1 => refine (Kd.R_reads' (e := 75) (base := w.heap.size) (ok := fun k_ => (((True ∧ some k_ ≠ (.slice Ao27 t226.length co27 : Value).ownBlock) ∧ some k_ ≠ (.slice Ao30 t229.length co30 : Value).ownBlock) ∧ some k_ ≠ (.slice Ao36 t234.length co36 : Value).ownBlock)) (n := t238.length) (c := co42) ?_).2.2; exact (by (with_reducible repeat (first | apply Kd.R_alloc | apply Kd.R_drewN | apply Kd.R_drew)); exact (Kd.R_mono (Kd.R_far (p := ⟨gb242, 1, none⟩) (Kd.R_far (p := ⟨gb242, 0, none⟩) (Kd.R_types HO240.out BK242.out (by decide)) (fun _ hk => hk.2) (.slice Ao42 t238.length co42)) (fun _ hk => hk.2) (.int .i64 t241)) (fun _ h_ => h_.1)))); (case side2 => exact (Kd.R_reads' HO240.out).2.1); (case side3 => refine (Kd.R_reads' (e := 75) (base := w.heap.size) (ok := fun k_ => (((True ∧ some k_ ≠ (.slice Ao27 t226.length co27 : Value).ownBlock) ∧ some k_ ≠ (.slice Ao36 t234.length co36 : Value).ownBlock) ∧ some k_ ≠ (.slice Ao42 t238.length co42 : Value).ownBlock)) (n := t229.length) (c := co30) ?_).2.2; exact (by (with_reducible repeat (first | apply Kd.R_alloc | apply Kd.R_drewN | apply Kd.R_drew)); exact (Kd.R_mono (Kd.R_far (p := ⟨gb242, 1, none⟩) (Kd.R_far (p := ⟨gb242, 0, none⟩) (Kd.R_types HO231.out BK242.out (by decide)) (fun _ hk => hk.2) (.slice Ao42 t238.length co42)) (fun _ hk => hk.2) (.int .i64 t241)) (fun _ h_ => h_.1)))); (case side4 => exact (Kd.R_reads' HO231.out).2.1); rintro e w48 ⟨rfl, hb⟩; refine ⟨_, rfl, ?_⟩; have n0_ := A0_.mk (Kd.R_below (by (with_reducible repeat (first | apply Kd.R_alloc | apply Kd.R_drewN | apply Kd.R_drew)); exact (Kd.R_mono (Kd.R_far (p := ⟨gb242, 1, none⟩) (Kd.R_far (p := ⟨gb242, 0, none⟩) (Kd.R_types HO228.out BK242.out (by decide)) (fun _ hk => hk.2) (.slice Ao42 t238.length co42)) (fun _ hk => hk.2) (.int .i64 t241)) (fun _ h_ => h_.1))) hb); have n1_ := A0_.mk (Kd.R_below (by (with_reducible repeat (first | apply Kd.R_alloc | apply Kd.R_drewN | apply Kd.R_drew)); exact (Kd.R_mono (Kd.R_far (p := ⟨gb242, 1, none⟩) (Kd.R_far (p := ⟨gb242, 0, none⟩) (Kd.R_types HO231.out BK242.out (by decide)) (fun _ hk => hk.2) (.slice Ao42 t238.length co42)) (fun _ hk => hk.2) (.int .i64 t241)) (fun _ h_ => h_.1))) hb); have n2_ := A0_.mk (Kd.R_below (by (with_reducible repeat (first | apply Kd.R_alloc | apply Kd.R_drewN | apply Kd.R_drew)); exact (Kd.R_mono (Kd.R_far (p := ⟨gb242, 1, none⟩) (Kd.R_far (p := ⟨gb242, 0, none⟩) (Kd.R_types HO236.out BK242.out (by decide)) (fun _ hk => hk.2) (.slice Ao42 t238.length co42)) (fun _ hk => hk.2) (.int .i64 t241)) (fun _ h_ => h_.1))) hb); have n3_ := A0_.mk (Kd.R_below (by (with_reducible repeat (first | apply Kd.R_alloc | apply Kd.R_drewN | apply Kd.R_drew)); exact (Kd.R_mono (Kd.R_far (p := ⟨gb242, 1, none⟩) (Kd.R_far (p := ⟨gb242, 0, none⟩) (Kd.R_types HO240.out BK242.out (by decide)) (fun _ hk => hk.2) (.slice Ao42 t238.length co42)) (fun _ hk => hk.2) (.int .i64 t241)) (fun _ h_ => h_.1))) hb); have n4_ := A0_.mk (blk_below (g := gb224) (o := .cells #[.slice A0_0 l0_0.length c0_0] 46 (0, 0)) (by (with_reducible repeat (first | refine bkN ?_ _ | refine bkD ?_ | refine bkA ?_ _)); refine blk_far ?_ NB224_242.out _; (with_reducible repeat (first | refine bkN ?_ _ | refine bkD ?_ | refine bkA ?_ _)); refine blk_far ?_ NB224_242.out _; (with_reducible repeat (first | refine bkN ?_ _ | refine bkD ?_ | refine bkA ?_ _)); exact BK224.out) hb); have n5_ := A0_.mk (blk_below (g := gb233) (o := .cells #[.slice Ao30 t229.length co30, .int .i64 t232] 64 (0, 0)) (by (with_reducible repeat (first | refine bkN ?_ _ | refine bkD ?_ | refine bkA ?_ _)); refine blk_far ?_ NB233_242.out _; (with_reducible repeat (first | refine bkN ?_ _ | refine bkD ?_ | refine bkA ?_ _)); refine blk_far ?_ NB233_242.out _; (with_reducible repeat (first | refine bkN ?_ _ | refine bkD ?_ | refine bkA ?_ _)); exact BK233.out) hb); have n6_ := A0_.mk (blk_below (g := gb237) (o := .cells #[.slice Ao36 t234.length co36] 36 (0, 0)) (by (with_reducible repeat (first | refine bkN ?_ _ | refine bkD ?_ | refine bkA ?_ _)); refine blk_far ?_ NB237_242.out _; (with_reducible repeat (first | refine bkN ?_ _ | refine bkD ?_ | refine bkA ?_ _)); refine blk_far ?_ NB237_242.out _; (with_reducible repeat (first | refine bkN ?_ _ | refine bkD ?_ | refine bkA ?_ _)); exact BK237.out) hb); have n7_ := A0_.mk (blk_below (g := gb242) (o := .cells #[.slice Ao42 t238.length co42, .int .i64 t241] 64 (0, 0)) (by (with_reducible repeat (first | refine bkN ?_ _ | refine bkD ?_ | refine bkA ?_ _)); refine blk_put (cs := #[.slice Ao42 t238.length co42, .int .i64 0]) ?_ 1 _ rfl; (with_reducible repeat (first | refine bkN ?_ _ | refine bkD ?_ | refine bkA ?_ _)); refine blk_put (cs := #[.slice none 0 0, .int .i64 0]) ?_ 0 _ rfl; (with_reducible repeat (first | refine bkN ?_ _ | refine bkD ?_ | refine bkA ?_ _)); exact BK242.out) hb); have n8_ := A0_.mk (below_step (by repeat (first | (with_reducible first | exact HB.out | apply bal | apply pdN | apply bdr | refine bst ?_ GE224.out | refine bst ?_ GE233.out | refine bst ?_ GE237.out | refine bst ?_ GE242.out) | exact HB.out)) hb); clear HO228; clear HO231; clear HO236; clear HO240; clear BK224; clear BK233; clear BK237; clear BK242; clear HB; have HO228 := n0_; have HO231 := n1_; have HO236 := n2_; have HO240 := n3_; have BK224 := n4_; have BK233 := n5_; have BK237 := n6_; have BK242 := n7_; have HB := n8_; clear n0_ n1_ n2_ n3_ n4_ n5_ n6_ n7_ n8_; (try clear hb); (try clear hb2); (try clear hk); (try clear hi)))
     have n0_ := A0_.mk (Kd.R_drew HO228.out)
     have n1_ := A0_.mk (Kd.R_drew HO231.out)
     have n2_ := A0_.mk (Kd.R_drew HO236.out)
     have n3_ := A0_.mk (Kd.R_drew HO240.out)
     have n4_ := A0_.mk (bkD BK224.out)
     have n5_ := A0_.mk (bkD BK233.out)
     have n6_ := A0_.mk (bkD BK237.out)
     have n7_ := A0_.mk (bkD BK242.out)
     have n8_ := A0_.mk (bdr HB.out)
     clear HO228
     clear HO231
     clear HO236
     clear HO240
     clear BK224
     clear BK233
     clear BK237
     clear BK242
     clear HB
     have HO228 := n0_
     have HO231 := n1_
     have HO236 := n2_
     have HO240 := n3_
     have BK224 := n4_
     have BK233 := n5_
     have BK237 := n6_
     have BK242 := n7_
     have HB := n8_
     clear n0_ n1_ n2_ n3_ n4_ n5_ n6_ n7_ n8_
     refine start_ (n := 5) (S := fun w' => w'.cell? ⟨gb237, 0, none⟩ = some (.slice Ao36 t234.length co36) ∧ w'.cell? ⟨gb224, 0, none⟩ = some (.slice A0_0 l0_0.length c0_0)) (ds := []) #[false, false, false, false, false] (by kernel_rfl) rfl rfl ⟨(bkC BK237.out 0).trans rfl, (bkC BK224.out 0).trans rfl⟩ (fun hHeld => ?_)
     generalize w48.drew = w49 at HO228 HO231 HO236 HO240 BK224 BK233 BK237 BK242 HB hHeld ⊢
     refine take_ (i := 0) (N := some 38) (v := ?_) (a' := ?_) #[true, false, false, false, false] rfl rfl (by kernel_rfl) (fun _ _ _ h => h) (Or.inl ⟨by rfl, ?_⟩) hHeld ?_ ?_
     rotate_left
     ·rintro w' ⟨s0, s1⟩
      go_simp
      with_reducible rfl
     rotate_left
     ·simp only [Act.put, List.setIfInBounds_toArray, List.set_cons_zero, List.set_cons_succ, i64_w, i32_w]
      rfl
     refine take_ (i := 1) (N := some 39) (v := ?_) (a' := ?_) #[true, true, false, false, false] rfl rfl (by kernel_rfl) (fun _ _ _ h => h) (Or.inl ⟨by rfl, ?_⟩) hHeld ?_ ?_
     rotate_left
     ·rintro w' ⟨s0, s1⟩
      go_simp
      with_reducible rfl
     rotate_left
     ·simp only [Act.put, List.setIfInBounds_toArray, List.set_cons_zero, List.set_cons_succ, i64_w, i32_w]
      rfl
     refine one_ (i := 2) (N := some 40) #[true, true, true, false, false] rfl rfl (by kernel_rfl) (by decide) (fun K hK => ?_)
     refine goes_ Try.func23 (by kernel_rfl) rfl #[.agg #[.slice A0_0 l0_0.length c0_0]] (by rfl) rfl rfl (by (try simp only [List.map_toArray, List.map_cons, List.map_nil]); first | done | rfl | (simp only [List.length_drop, List.length_take]; rfl)) ?_
     with_reducible refine (laws_toForest.calls k _ _ l0_0 t244 _ ?side1 ?side2 A17.out).mono ?_
     (case side1 => repeat (first | exact (Kd.C_below HR0_0.out HB.out) | (with_reducible refine Kd.C_alloc ?_ _) | (with_reducible refine Kd.C_drewN ?_ _) | (with_reducible refine Kd.C_drew ?_)))
     (case side2 => exact HC0_0.out)
     rintro e w50 ⟨v245, rfl, ho0, hb⟩
     refine ⟨_, rfl, ?_⟩
     have n0_ := A0_.mk (Kd.R_elder' (by (with_reducible repeat (first | apply Kd.R_alloc | apply Kd.R_drewN | apply Kd.R_drew)); exact HO228.out) (Kd.R_base ho0) hb)
     have n1_ := A0_.mk (Kd.R_elder' (by (with_reducible repeat (first | apply Kd.R_alloc | apply Kd.R_drewN | apply Kd.R_drew)); exact HO231.out) (Kd.R_base ho0) hb)
     have n2_ := A0_.mk (Kd.R_elder' (by (with_reducible repeat (first | apply Kd.R_alloc | apply Kd.R_drewN | apply Kd.R_drew)); exact HO236.out) (Kd.R_base ho0) hb)
     have n3_ := A0_.mk (Kd.R_elder' (by (with_reducible repeat (first | apply Kd.R_alloc | apply Kd.R_drewN | apply Kd.R_drew)); exact HO240.out) (Kd.R_base ho0) hb)
     have n4_ := A0_.mk (Kd.R_lower (Kd.R_new' (Kd.R_new' (Kd.R_new' (Kd.R_new' ho0 (Kd.R_lt (by (with_reducible repeat (first | apply Kd.R_alloc | apply Kd.R_drewN | apply Kd.R_drew)); exact HO228.out))) (Kd.R_lt (by (with_reducible repeat (first | apply Kd.R_alloc | apply Kd.R_drewN | apply Kd.R_drew)); exact HO231.out))) (Kd.R_lt (by (with_reducible repeat (first | apply Kd.R_alloc | apply Kd.R_drewN | apply Kd.R_drew)); exact HO236.out))) (Kd.R_lt (by (with_reducible repeat (first | apply Kd.R_alloc | apply Kd.R_drewN | apply Kd.R_drew)); exact HO240.out))) (below_size (by repeat (first | (with_reducible first | exact HB.out | apply bal | apply pdN | apply bdr | refine bst ?_ GE224.out | refine bst ?_ GE233.out | refine bst ?_ GE237.out | refine bst ?_ GE242.out) | exact HB.out))))
     have n5_ := A0_.mk (blk_below (g := gb224) (o := .cells #[.slice A0_0 l0_0.length c0_0] 46 (0, 0)) (by (with_reducible repeat (first | refine bkN ?_ _ | refine bkD ?_ | refine bkA ?_ _)); exact BK224.out) hb)
     have n6_ := A0_.mk (blk_below (g := gb233) (o := .cells #[.slice Ao30 t229.length co30, .int .i64 t232] 64 (0, 0)) (by (with_reducible repeat (first | refine bkN ?_ _ | refine bkD ?_ | refine bkA ?_ _)); exact BK233.out) hb)
     have n7_ := A0_.mk (blk_below (g := gb237) (o := .cells #[.slice Ao36 t234.length co36] 36 (0, 0)) (by (with_reducible repeat (first | refine bkN ?_ _ | refine bkD ?_ | refine bkA ?_ _)); exact BK237.out) hb)
     have n8_ := A0_.mk (blk_below (g := gb242) (o := .cells #[.slice Ao42 t238.length co42, .int .i64 t241] 64 (0, 0)) (by (with_reducible repeat (first | refine bkN ?_ _ | refine bkD ?_ | refine bkA ?_ _)); exact BK242.out) hb)
     have n9_ := A0_.mk (below_step (by repeat (first | (with_reducible first | exact HB.out | apply bal | apply pdN | apply bdr | refine bst ?_ GE224.out | refine bst ?_ GE233.out | refine bst ?_ GE237.out | refine bst ?_ GE242.out) | exact HB.out)) hb)
     clear HO228
     clear HO231
     clear HO236
     clear HO240
     clear BK224
     clear BK233
     clear BK237
     clear BK242
     clear HB
     have HO228 := n0_
     have HO231 := n1_
     have HO236 := n2_
     have HO240 := n3_
     have HO246 := n4_
     have BK224 := n5_
     have BK233 := n6_
     have BK237 := n7_
     have BK242 := n8_
     have HB := n9_
     clear n0_ n1_ n2_ n3_ n4_ n5_ n6_ n7_ n8_ n9_
     (try clear hb)
     (try clear hb2)
     (try clear hk)
     (try clear hi)
     (try clear ho0)
     obtain ⟨Ao51, co51, eo51⟩ := Kd.R_slice HO246.out
     (first | subst eo51 | (injection eo51 with f1_ f2_ f3_; have f4_ := f1_.symm; have f5_ := f3_.symm; clear f1_ f2_ f3_; subst f4_; subst f5_))
     refine hK.out _ _ ⟨(bkC BK237.out 0).trans rfl, (bkC BK224.out 0).trans rfl⟩ (fun hHeld => ?_)
     clear hK K
     refine norm_ (a' := ?_) ?_ ?_
     rotate_left
     ·show Act.put _ (some 40) _ = _
      simp only [Act.put, List.setIfInBounds_toArray, List.set_cons_zero, List.set_cons_succ, i64_w, i32_w]
      rfl
     refine one_ (i := 3) (N := some 41) #[true, true, true, true, false] rfl rfl (by kernel_rfl) (by decide) (fun K hK => ?_)
     refine goes_ Try.func25 (by kernel_rfl) rfl #[.agg #[.slice Ao36 t234.length co36], .agg #[.slice Ao51 t244.length co51]] (by rfl) rfl rfl (by (try simp only [List.map_toArray, List.map_cons, List.map_nil]); first | done | rfl | (simp only [List.length_drop, List.length_take]; rfl)) ?_
     with_reducible refine (laws_eqForest.calls k _ _ t234 _ _ t244 true _ ?side1 ?side2 ?side3 ?side4 A18.out).mono ?_
     (case side1 => repeat (first | exact (Kd.R_reads' HO236.out).2.2 | (with_reducible refine Kd.C_alloc ?_ _) | (with_reducible refine Kd.C_drewN ?_ _) | (with_reducible refine Kd.C_drew ?_)))
     (case side2 => exact (Kd.R_reads' HO236.out).2.1)
     (case side3 => repeat (first | exact (Kd.R_reads' HO246.out).2.2 | (with_reducible refine Kd.C_alloc ?_ _) | (with_reducible refine Kd.C_drewN ?_ _) | (with_reducible refine Kd.C_drew ?_)))
     (case side4 => exact (Kd.R_reads' HO246.out).2.1)
     rintro e w52 ⟨rfl, hb⟩
     refine ⟨_, rfl, ?_⟩
     have n0_ := A0_.mk (Kd.R_below (by (with_reducible repeat (first | apply Kd.R_alloc | apply Kd.R_drewN | apply Kd.R_drew)); exact HO228.out) hb)
     have n1_ := A0_.mk (Kd.R_below (by (with_reducible repeat (first | apply Kd.R_alloc | apply Kd.R_drewN | apply Kd.R_drew)); exact HO231.out) hb)
     have n2_ := A0_.mk (Kd.R_below (by (with_reducible repeat (first | apply Kd.R_alloc | apply Kd.R_drewN | apply Kd.R_drew)); exact HO236.out) hb)
     have n3_ := A0_.mk (Kd.R_below (by (with_reducible repeat (first | apply Kd.R_alloc | apply Kd.R_drewN | apply Kd.R_drew)); exact HO240.out) hb)
     have n4_ := A0_.mk (Kd.R_below (by (with_reducible repeat (first | apply Kd.R_alloc | apply Kd.R_drewN | apply Kd.R_drew)); exact HO246.out) hb)
     have n5_ := A0_.mk (blk_below (g := gb224) (o := .cells #[.slice A0_0 l0_0.length c0_0] 46 (0, 0)) (by (with_reducible repeat (first | refine bkN ?_ _ | refine bkD ?_ | refine bkA ?_ _)); exact BK224.out) hb)
     have n6_ := A0_.mk (blk_below (g := gb233) (o := .cells #[.slice Ao30 t229.length co30, .int .i64 t232] 64 (0, 0)) (by (with_reducible repeat (first | refine bkN ?_ _ | refine bkD ?_ | refine bkA ?_ _)); exact BK233.out) hb)
     have n7_ := A0_.mk (blk_below (g := gb237) (o := .cells #[.slice Ao36 t234.length co36] 36 (0, 0)) (by (with_reducible repeat (first | refine bkN ?_ _ | refine bkD ?_ | refine bkA ?_ _)); exact BK237.out) hb)
     have n8_ := A0_.mk (blk_below (g := gb242) (o := .cells #[.slice Ao42 t238.length co42, .int .i64 t241] 64 (0, 0)) (by (with_reducible repeat (first | refine bkN ?_ _ | refine bkD ?_ | refine bkA ?_ _)); exact BK242.out) hb)
     have n9_ := A0_.mk (below_step (by repeat (first | (with_reducible first | exact HB.out | apply bal | apply pdN | apply bdr | refine bst ?_ GE224.out | refine bst ?_ GE233.out | refine bst ?_ GE237.out | refine bst ?_ GE242.out) | exact HB.out)) hb)
     clear HO228
     clear HO231
     clear HO236
     clear HO240
     clear HO246
     clear BK224
     clear BK233
     clear BK237
     clear BK242
     clear HB
     have HO228 := n0_
     have HO231 := n1_
     have HO236 := n2_
     have HO240 := n3_
     have HO246 := n4_
     have BK224 := n5_
     have BK233 := n6_
     have BK237 := n7_
     have BK242 := n8_
     have HB := n9_
     clear n0_ n1_ n2_ n3_ n4_ n5_ n6_ n7_ n8_ n9_
     (try clear hb)
     (try clear hb2)
     (try clear hk)
     (try clear hi)
     refine hK.out _ _ ⟨(bkC BK237.out 0).trans rfl, (bkC BK224.out 0).trans rfl⟩ (fun hHeld => ?_)
     clear hK K
     refine norm_ (a' := ?_) ?_ ?_
     rotate_left
     ·show Act.put _ (some 41) _ = _
      simp only [Act.put, List.setIfInBounds_toArray, List.set_cons_zero, List.set_cons_succ, i64_w, i32_w]
      rfl
     refine pure_ (i := 4) (N := some 42) (v := ?_) (a' := ?_) #[true, true, true, true, true] rfl rfl (by kernel_rfl) (fun _ _ _ h => h) (Or.inl ⟨by rfl, ?_⟩) ?_ ?_
     rotate_left
     ·intro w'
      go_simp
      with_reducible rfl
     rotate_left
     ·simp only [Act.put, List.setIfInBounds_toArray, List.set_cons_zero, List.set_cons_succ, i64_w, i32_w]
      rfl
     refine done_ (by kernel_rfl) ?_
     have hcz53_0 : w52.cell? ⟨gb237, 0, none⟩ = some (.slice Ao36 t234.length co36) := (bkC BK237.out 0).trans rfl
     have hfz53_0 := bkF BK237.out 0
     go_upto_region 16 with (first | ((with_reducible refine gate_callee (f := 31) rfl ?_); refine goesL_ (some 45) rfl rfl Try.func31 (by kernel_rfl) rfl #[.agg #[.slice Ao36 t234.length co36], .int .i64 1] rfl (by (try simp only [List.map_toArray, List.map_cons, List.map_nil]); first | done | rfl | (simp only [List.length_drop, List.length_take]; rfl)) ?_; (with_reducible refine (laws_markForest.calls k (fun k_ => some k_ = (.slice Ao36 t234.length co36 : Value).ownBlock) (.slice Ao36 t234.length co36) t234 1 t248 t249 w _ ?side1 ?side2 A20.out).mono ?_); (case side1 => repeat (first | (with_reducible first | exact HB.out | apply bal | apply pdN | apply bdr | refine bst ?_ GE224.out | refine bst ?_ GE233.out | refine bst ?_ GE237.out | refine bst ?_ GE242.out) | exact HB.out)); (case side2 => exact Kd.R_tight rfl HO236.out); rintro e w54 ⟨rfl, hy0, hb, hkp⟩; refine ⟨_, rfl, ?_⟩; have n0_ := A0_.mk (blk_kept (by (with_reducible repeat (first | refine bkN ?_ _ | refine bkD ?_ | refine bkA ?_ _)); exact BK224.out) hkp (fun hs_ => (fun e_ => (Kd.R_ne HO236.out BK224.out (by decide)) e_) hs_)); have n1_ := A0_.mk (Kd.R_mono (ok' := fun k_ => some k_ ≠ (.slice Ao30 t229.length co30 : Value).ownBlock ∧ some k_ ≠ (.slice Ao36 t234.length co36 : Value).ownBlock ∧ some k_ ≠ (.slice Ao42 t238.length co42 : Value).ownBlock ∧ some k_ ≠ (.slice Ao51 t244.length co51 : Value).ownBlock) (Kd.R_keptB (HO228.out) hkp (fun k_ hk_ hs_ => (hk_.1.1.2) hs_)) (fun k_ hk_ => ⟨hk_.1.1.1.1.2, hk_.1.1.1.2, hk_.1.1.2, hk_.1.2⟩)); have n2_ := A0_.mk (Kd.R_mono (ok' := fun k_ => some k_ ≠ (.slice Ao27 t226.length co27 : Value).ownBlock ∧ some k_ ≠ (.slice Ao36 t234.length co36 : Value).ownBlock ∧ some k_ ≠ (.slice Ao42 t238.length co42 : Value).ownBlock ∧ some k_ ≠ (.slice Ao51 t244.length co51 : Value).ownBlock) (Kd.R_keptB (HO231.out) hkp (fun k_ hk_ hs_ => (hk_.1.1.2) hs_)) (fun k_ hk_ => ⟨hk_.1.1.1.1.2, hk_.1.1.1.2, hk_.1.1.2, hk_.1.2⟩)); have n3_ := A0_.mk (blk_kept (by (with_reducible repeat (first | refine bkN ?_ _ | refine bkD ?_ | refine bkA ?_ _)); exact BK233.out) hkp (fun hs_ => (fun e_ => (Kd.R_ne HO236.out BK233.out (by decide)) e_) hs_)); have n4_ := A0_.mk (Kd.R_reok rfl hy0 (fun k_ e_ => HO236.out.1 k_ e_)); have n5_ := A0_.mk (blk_kept (by (with_reducible repeat (first | refine bkN ?_ _ | refine bkD ?_ | refine bkA ?_ _)); exact BK237.out) hkp (fun hs_ => (fun e_ => (Kd.R_ne HO236.out BK237.out (by decide)) e_) hs_)); have n6_ := A0_.mk (Kd.R_mono (ok' := fun k_ => some k_ ≠ (.slice Ao27 t226.length co27 : Value).ownBlock ∧ some k_ ≠ (.slice Ao30 t229.length co30 : Value).ownBlock ∧ some k_ ≠ (.slice Ao36 t234.length co36 : Value).ownBlock ∧ some k_ ≠ (.slice Ao51 t244.length co51 : Value).ownBlock) (Kd.R_keptB (HO240.out) hkp (fun k_ hk_ hs_ => (hk_.1.2) hs_)) (fun k_ hk_ => ⟨hk_.1.1.1.1.2, hk_.1.1.1.2, hk_.1.1.2, hk_.1.2⟩)); have n7_ := A0_.mk (blk_kept (by (with_reducible repeat (first | refine bkN ?_ _ | refine bkD ?_ | refine bkA ?_ _)); exact BK242.out) hkp (fun hs_ => (fun e_ => (Kd.R_ne HO236.out BK242.out (by decide)) e_) hs_)); have n8_ := A0_.mk (Kd.R_mono (ok' := fun k_ => some k_ ≠ (.slice Ao27 t226.length co27 : Value).ownBlock ∧ some k_ ≠ (.slice Ao30 t229.length co30 : Value).ownBlock ∧ some k_ ≠ (.slice Ao36 t234.length co36 : Value).ownBlock ∧ some k_ ≠ (.slice Ao42 t238.length co42 : Value).ownBlock) (Kd.R_keptB (HO246.out) hkp (fun k_ hk_ hs_ => (hk_.1.2) hs_)) (fun k_ hk_ => ⟨hk_.1.1.1.1.2, hk_.1.1.1.2, hk_.1.1.2, hk_.1.2⟩)); have n9_ := A0_.mk (hb); clear BK224; clear HO228; clear HO231; clear BK233; clear HO236; clear BK237; clear HO240; clear BK242; clear HO246; clear HB; have BK224 := n0_; have HO228 := n1_; have HO231 := n2_; have BK233 := n3_; have HO236 := n4_; have BK237 := n5_; have HO240 := n6_; have BK242 := n7_; have HO246 := n8_; have HB := n9_; clear n0_ n1_ n2_ n3_ n4_ n5_ n6_ n7_ n8_ n9_; (try clear hb); (try clear hkp); (try clear hy0)))
     (try simp only [Act.put, List.setIfInBounds_toArray, List.set_cons_zero, List.set_cons_succ])
     go_cut [53] (fun v53 wc => ∃ (kq : Nat) (x53_20 : Bool), v53 = .bool x53_20 ∧ A0_ (laws_FnExactGrow.j0 kq a1 a2 x53_20 l0_0 t229 t232 t238 t241 = some r) ∧ A0_ (kq ≤ k) ∧ A0_ (Kd.R k75 75 wc w.heap.size (fun k_ => some k_ ≠ ((.slice Ao36 t234.length co36) : Value).ownBlock ∧ some k_ ≠ ((.slice Ao42 t238.length co42) : Value).ownBlock) (.slice Ao30 t229.length co30) t229) ∧ A0_ (Kd.R k75 75 wc w.heap.size (fun k_ => some k_ ≠ ((.slice Ao30 t229.length co30) : Value).ownBlock ∧ some k_ ≠ ((.slice Ao42 t238.length co42) : Value).ownBlock) (.slice Ao36 t234.length co36) t249) ∧ A0_ (Kd.R k75 75 wc w.heap.size (fun k_ => some k_ ≠ ((.slice Ao30 t229.length co30) : Value).ownBlock ∧ some k_ ≠ ((.slice Ao36 t234.length co36) : Value).ownBlock) (.slice Ao42 t238.length co42) t238) ∧ A0_ (wc.heap[gb224]? = some (.cells #[(.slice A0_0 l0_0.length c0_0)] 46 (0, 0))) ∧ A0_ (wc.heap[gb233]? = some (.cells #[(.slice Ao30 t229.length co30), .int .i64 t232] 64 (0, 0))) ∧ A0_ (wc.heap[gb237]? = some (.cells #[(.slice Ao36 t234.length co36)] 36 (0, 0))) ∧ A0_ (wc.heap[gb242]? = some (.cells #[(.slice Ao42 t238.length co42), .int .i64 t241] 64 (0, 0))) ∧ A0_ (Below w.heap.size w wc))
     case first =>
      have H := HC21.out
      clear HC21
      by_cases c55 : t248 < 0
      ·rw [if_pos c55] at H
       have c55b0 : decide (t248 < 0) = true := decide_eq_true c55
       clear c55
       (first | rw [c55b0] | (simp only [i64_w, i32_w]; rw [c55b0]) | skip)
       have H' := A0_.mk H
       clear H
       go_wp2
       go_meet
       case rel => exact ⟨_, (true), (by first | rfl | (simp; done) | (simp [*]; done)), H', ⟨by first | omega | exact Nat.le_refl _⟩, ⟨by (with_reducible repeat (first | apply Kd.R_alloc | apply Kd.R_drewN | apply Kd.R_drew)); exact Kd.R_mono HO231.out (fun _ hk => ⟨hk.2.1, hk.2.2.1⟩)⟩, ⟨by (with_reducible repeat (first | apply Kd.R_alloc | apply Kd.R_drewN | apply Kd.R_drew)); exact Kd.R_mono HO236.out (fun _ hk => ⟨hk.1.1.2, hk.1.2⟩)⟩, ⟨by (with_reducible repeat (first | apply Kd.R_alloc | apply Kd.R_drewN | apply Kd.R_drew)); exact Kd.R_mono HO240.out (fun _ hk => ⟨hk.2.1, hk.2.2.1⟩)⟩, ⟨by (with_reducible repeat (first | refine bkN ?_ _ | refine bkD ?_ | refine bkA ?_ _)); exact BK224.out⟩, ⟨by (with_reducible repeat (first | refine bkN ?_ _ | refine bkD ?_ | refine bkA ?_ _)); exact BK233.out⟩, ⟨by (with_reducible repeat (first | refine bkN ?_ _ | refine bkD ?_ | refine bkA ?_ _)); exact BK237.out⟩, ⟨by (with_reducible repeat (first | refine bkN ?_ _ | refine bkD ?_ | refine bkA ?_ _)); exact BK242.out⟩, ⟨by repeat (first | (with_reducible first | exact HB.out | apply bal | apply pdN | apply bdr | refine bst ?_ GE224.out | refine bst ?_ GE233.out | refine bst ?_ GE237.out | refine bst ?_ GE242.out) | exact HB.out)⟩⟩
      ·rw [if_neg c55] at H
       have c55b0 : decide (t248 < 0) = false := decide_eq_false c55
       clear c55
       (first | rw [c55b0] | (simp only [i64_w, i32_w]; rw [c55b0]) | skip)
       replace H := Option.bind_eq_some_iff.mp H
       obtain ⟨t250, A560, H⟩ := H
       replace H : (laws_FnExactGrow.j0 k a1 a2 (!t250) l0_0 t229 t232 t238 t241) = some r := H
       have A56 := A0_.mk A560
       clear A560
       have H' := A0_.mk H
       clear H
       have hnb57 := NB242_224.out
       have hnc57 := NB224_242.out
       have hnb58 := NB242_233.out
       have hnc58 := NB233_242.out
       have hnb59 := NB242_237.out
       have hnc59 := NB237_242.out
       have hcz60_0 : w54.cell? ⟨gb242, 0, none⟩ = some (.slice Ao42 t238.length co42) := (bkC BK242.out 0).trans rfl
       have hcz60_1 : w54.cell? ⟨gb242, 1, none⟩ = some (.int .i64 t241) := (bkC BK242.out 1).trans rfl
       have hfz60_0 := bkF BK242.out 0
       have hfz60_1 := bkF BK242.out 1
       have hnb61 := NB233_224.out
       have hnc61 := NB224_233.out
       have hnb62 := NB233_237.out
       have hnc62 := NB237_233.out
       have hcz63_0 : w54.cell? ⟨gb233, 0, none⟩ = some (.slice Ao30 t229.length co30) := (bkC BK233.out 0).trans rfl
       have hcz63_1 : w54.cell? ⟨gb233, 1, none⟩ = some (.int .i64 t232) := (bkC BK233.out 1).trans rfl
       have hfz63_0 := bkF BK233.out 0
       have hfz63_1 := bkF BK233.out 1
       go_wp2_with (first | (go_at_call 38; (with_reducible refine (laws_eqGrown.calls k _ _ t238 t241 _ _ t229 t232 t250 _ ?side1 ?side2 ?side3 ?side4 A56.out).mono ?_); (case side1 => repeat (first | exact (Kd.R_reads' HO240.out).2.2 | (with_reducible refine Kd.C_alloc ?_ _) | (with_reducible refine Kd.C_drewN ?_ _) | (with_reducible refine Kd.C_drew ?_))); (case side2 => exact (Kd.R_reads' HO240.out).2.1); (case side3 => repeat (first | exact (Kd.R_reads' HO231.out).2.2 | (with_reducible refine Kd.C_alloc ?_ _) | (with_reducible refine Kd.C_drewN ?_ _) | (with_reducible refine Kd.C_drew ?_))); (case side4 => exact (Kd.R_reads' HO231.out).2.1); rintro e w64 ⟨rfl, hb⟩; have n0_ := A0_.mk (Kd.R_below (by (with_reducible repeat (first | apply Kd.R_alloc | apply Kd.R_drewN | apply Kd.R_drew)); exact HO228.out) hb); have n1_ := A0_.mk (Kd.R_below (by (with_reducible repeat (first | apply Kd.R_alloc | apply Kd.R_drewN | apply Kd.R_drew)); exact HO231.out) hb); have n2_ := A0_.mk (Kd.R_below (by (with_reducible repeat (first | apply Kd.R_alloc | apply Kd.R_drewN | apply Kd.R_drew)); exact HO236.out) hb); have n3_ := A0_.mk (Kd.R_below (by (with_reducible repeat (first | apply Kd.R_alloc | apply Kd.R_drewN | apply Kd.R_drew)); exact HO240.out) hb); have n4_ := A0_.mk (Kd.R_below (by (with_reducible repeat (first | apply Kd.R_alloc | apply Kd.R_drewN | apply Kd.R_drew)); exact HO246.out) hb); have n5_ := A0_.mk (blk_below (g := gb224) (o := .cells #[.slice A0_0 l0_0.length c0_0] 46 (0, 0)) (by (with_reducible repeat (first | refine bkN ?_ _ | refine bkD ?_ | refine bkA ?_ _)); exact BK224.out) hb); have n6_ := A0_.mk (blk_below (g := gb233) (o := .cells #[.slice Ao30 t229.length co30, .int .i64 t232] 64 (0, 0)) (by (with_reducible repeat (first | refine bkN ?_ _ | refine bkD ?_ | refine bkA ?_ _)); exact BK233.out) hb); have n7_ := A0_.mk (blk_below (g := gb237) (o := .cells #[.slice Ao36 t234.length co36] 36 (0, 0)) (by (with_reducible repeat (first | refine bkN ?_ _ | refine bkD ?_ | refine bkA ?_ _)); exact BK237.out) hb); have n8_ := A0_.mk (blk_below (g := gb242) (o := .cells #[.slice Ao42 t238.length co42, .int .i64 t241] 64 (0, 0)) (by (with_reducible repeat (first | refine bkN ?_ _ | refine bkD ?_ | refine bkA ?_ _)); exact BK242.out) hb); have n9_ := A0_.mk (below_step (by repeat (first | (with_reducible first | exact HB.out | apply bal | apply pdN | apply bdr | refine bst ?_ GE224.out | refine bst ?_ GE233.out | refine bst ?_ GE237.out | refine bst ?_ GE242.out) | exact HB.out)) hb); clear HO228; clear HO231; clear HO236; clear HO240; clear HO246; clear BK224; clear BK233; clear BK237; clear BK242; clear HB; have HO228 := n0_; have HO231 := n1_; have HO236 := n2_; have HO240 := n3_; have HO246 := n4_; have BK224 := n5_; have BK233 := n6_; have BK237 := n7_; have BK242 := n8_; have HB := n9_; clear n0_ n1_ n2_ n3_ n4_ n5_ n6_ n7_ n8_ n9_; (try clear hb); (try clear hb2); (try clear hk); (try clear hi)))
       go_meet
       case rel => exact ⟨_, (!t250), (by first | rfl | (simp; done) | (simp [*]; done)), H', ⟨by first | omega | exact Nat.le_refl _⟩, ⟨by (with_reducible repeat (first | apply Kd.R_alloc | apply Kd.R_drewN | apply Kd.R_drew)); exact Kd.R_mono HO231.out (fun _ hk => ⟨hk.2.1, hk.2.2.1⟩)⟩, ⟨by (with_reducible repeat (first | apply Kd.R_alloc | apply Kd.R_drewN | apply Kd.R_drew)); exact Kd.R_mono HO236.out (fun _ hk => ⟨hk.1.1.2, hk.1.2⟩)⟩, ⟨by (with_reducible repeat (first | apply Kd.R_alloc | apply Kd.R_drewN | apply Kd.R_drew)); exact Kd.R_mono HO240.out (fun _ hk => ⟨hk.2.1, hk.2.2.1⟩)⟩, ⟨by (with_reducible repeat (first | refine bkN ?_ _ | refine bkD ?_ | refine bkA ?_ _)); exact BK224.out⟩, ⟨by (with_reducible repeat (first | refine bkN ?_ _ | refine bkD ?_ | refine bkA ?_ _)); exact BK233.out⟩, ⟨by (with_reducible repeat (first | refine bkN ?_ _ | refine bkD ?_ | refine bkA ?_ _)); exact BK237.out⟩, ⟨by (with_reducible repeat (first | refine bkN ?_ _ | refine bkD ?_ | refine bkA ?_ _)); exact BK242.out⟩, ⟨by repeat (first | (with_reducible first | exact HB.out | apply bal | apply pdN | apply bdr | refine bst ?_ GE224.out | refine bst ?_ GE233.out | refine bst ?_ GE237.out | refine bst ?_ GE242.out) | exact HB.out)⟩⟩
     case rest =>
      clear HC21
      try clear c1
      try clear c2
      try clear p2
      try clear c3
      try clear c4
      try clear c4b0
      try clear c4b1
      try clear c5
      try clear c6
      try clear c7
      try clear c7b0
      try clear c10
      try clear c16
      try clear c19
      try clear c21
      try clear c23
      try clear c25
      try clear c31
      try clear c35
      try clear c36
      try clear c37
      try clear c38
      try clear c43
      try clear c44
      try clear c45
      try clear c55
      try clear c55b0
      try clear c57
      try clear c58
      try clear c59
      try clear c61
      try clear c62
      try clear hcz23_0
      try clear hcz25_0
      try clear hcz32_0
      try clear hcz32_1
      try clear hcz33_0
      try clear hcz39_0
      try clear hcz46_0
      try clear hcz46_1
      try clear hcz47_0
      try clear hcz47_1
      try clear hcz53_0
      try clear hcz60_0
      try clear hcz60_1
      try clear hcz63_0
      try clear hcz63_1
      try clear hcz9_0
      try clear hfz23_0
      try clear hfz25_0
      try clear hfz32_0
      try clear hfz32_1
      try clear hfz33_0
      try clear hfz39_0
      try clear hfz46_0
      try clear hfz46_1
      try clear hfz47_0
      try clear hfz47_1
      try clear hfz53_0
      try clear hfz60_0
      try clear hfz60_1
      try clear hfz63_0
      try clear hfz63_1
      try clear hfz9_0
      obtain ⟨kq, x53_20, rfl, HA, HJ20, HO_234000, HO_238000, HO_243000, BK224, BK233, BK237, BK242, HB⟩ := hcut
      have hl238000_20 := (Kd.R_reads' HO_238000.out).1
      rw [hl238000_20] at HO_238000
      (try simp only [hl238000_20])
      (try simp only [hl238000_20] at BK224)
      (try simp only [hl238000_20] at BK233)
      (try simp only [hl238000_20] at BK237)
      (try simp only [hl238000_20] at BK242)
      (try simp only [hl238000_20] at HO_234000)
      (try simp only [hl238000_20] at HO_243000)
      cases kq with
      | zero => exact absurd HA.out (by simp [laws_FnExactGrow.j0])
      | succ kj20 =>
       have H := HA.out
       clear HA
       simp only [laws_FnExactGrow.j0] at H
       by_cases c65 : x53_20 = true
       ·subst c65
        have H1 : (none) = some r := by rw [if_pos rfl] at H; exact H
        clear H
        have H := H1
        clear H1
        exact absurd H (by simp)
       ·replace c65 := Bool.eq_false_iff.mpr c65
        subst c65
        have H1 : ((laws_markGrown.f kj20 t238 t241 1).bind fun bt251 => ((laws_heldGrown.f kj20 bt251.2 t241 1).bind fun t253 => (if t253 < 0 then (none) else (if t253 = bt251.1 then ((laws_toForest.f kj20 l0_0).bind fun t254 => ((impl_Grow.f kj20 t254 a1 a2).bind fun bt257 => ((laws_eqGrown.f kj20 bt257.1 bt257.2 t229 t232).bind fun t262 => (if t262 = true then ((laws_heldGrown.f kj20 bt251.2 t241 1).bind fun t263 => (if t263 < 0 then (none) else (if t263 = bt251.1 then (some true) else (none)))) else (none))))) else (none))))) = some r := by rw [if_neg (show ¬ (false = true) by decide)] at H; exact H
        clear H
        have H := H1
        clear H1
        replace H := Option.bind_eq_some_iff.mp H
        obtain ⟨⟨t251, t252⟩, A660, H⟩ := H
        replace H : ((laws_heldGrown.f kj20 t252 t241 1).bind fun t253 => (if t253 < 0 then (none) else (if t253 = t251 then ((laws_toForest.f kj20 l0_0).bind fun t254 => ((impl_Grow.f kj20 t254 a1 a2).bind fun bt257 => ((laws_eqGrown.f kj20 bt257.1 bt257.2 t229 t232).bind fun t262 => (if t262 = true then ((laws_heldGrown.f kj20 t252 t241 1).bind fun t263 => (if t263 < 0 then (none) else (if t263 = t251 then (some true) else (none)))) else (none))))) else (none)))) = some r := H
        have A66 := A0_.mk A660
        clear A660
        replace H := Option.bind_eq_some_iff.mp H
        obtain ⟨t253, A670, H⟩ := H
        replace H : (if t253 < 0 then (none) else (if t253 = t251 then ((laws_toForest.f kj20 l0_0).bind fun t254 => ((impl_Grow.f kj20 t254 a1 a2).bind fun bt257 => ((laws_eqGrown.f kj20 bt257.1 bt257.2 t229 t232).bind fun t262 => (if t262 = true then ((laws_heldGrown.f kj20 t252 t241 1).bind fun t263 => (if t263 < 0 then (none) else (if t263 = t251 then (some true) else (none)))) else (none))))) else (none))) = some r := H
        have A67 := A0_.mk A670
        clear A670
        by_cases c68 : t253 < 0
        ·rw [if_pos c68] at H
         exact absurd H (by simp)
        ·rw [if_neg c68] at H
         have c68b0 : decide (t253 < 0) = false := decide_eq_false c68
         clear c68
         by_cases c69 : t253 = t251
         ·rw [if_pos c69] at H
          have c69b0 : (t253 == t251) = true := beq_iff_eq.mpr c69
          have c69b1 : (t253 != t251) = false := bne_eq_false_iff_eq.mpr c69
          clear c69
          replace H := Option.bind_eq_some_iff.mp H
          obtain ⟨t254, A700, H⟩ := H
          replace H : ((impl_Grow.f kj20 t254 a1 a2).bind fun bt257 => ((laws_eqGrown.f kj20 bt257.1 bt257.2 t229 t232).bind fun t262 => (if t262 = true then ((laws_heldGrown.f kj20 t252 t241 1).bind fun t263 => (if t263 < 0 then (none) else (if t263 = t251 then (some true) else (none)))) else (none)))) = some r := H
          have A70 := A0_.mk A700
          clear A700
          replace H := Option.bind_eq_some_iff.mp H
          obtain ⟨⟨t257, t260⟩, A710, H⟩ := H
          replace H : ((laws_eqGrown.f kj20 t257 t260 t229 t232).bind fun t262 => (if t262 = true then ((laws_heldGrown.f kj20 t252 t241 1).bind fun t263 => (if t263 < 0 then (none) else (if t263 = t251 then (some true) else (none)))) else (none))) = some r := H
          have A71 := A0_.mk A710
          clear A710
          replace H := Option.bind_eq_some_iff.mp H
          obtain ⟨t262, A720, H⟩ := H
          replace H : (if t262 = true then ((laws_heldGrown.f kj20 t252 t241 1).bind fun t263 => (if t263 < 0 then (none) else (if t263 = t251 then (some true) else (none)))) else (none)) = some r := H
          have A72 := A0_.mk A720
          clear A720
          by_cases c73 : t262 = true
          ·subst c73
           have H1 : ((laws_heldGrown.f kj20 t252 t241 1).bind fun t263 => (if t263 < 0 then (none) else (if t263 = t251 then (some true) else (none)))) = some r := by rw [if_pos rfl] at H; exact H
           clear H
           have H := H1
           clear H1
           replace H := Option.bind_eq_some_iff.mp H
           obtain ⟨t263, A740, H⟩ := H
           replace H : (if t263 < 0 then (none) else (if t263 = t251 then (some true) else (none))) = some r := H
           have A74 := A0_.mk A740
           clear A740
           by_cases c75 : t263 < 0
           ·rw [if_pos c75] at H
            exact absurd H (by simp)
           ·rw [if_neg c75] at H
            have c75b0 : decide (t263 < 0) = false := decide_eq_false c75
            clear c75
            by_cases c76 : t263 = t251
            ·rw [if_pos c76] at H
             have c76b0 : (t263 == t251) = true := beq_iff_eq.mpr c76
             have c76b1 : (t263 != t251) = false := bne_eq_false_iff_eq.mpr c76
             clear c76
             obtain rfl := Option.some.inj H
             have hnb77 := NB242_224.out
             have hnc77 := NB224_242.out
             have hnb78 := NB242_233.out
             have hnc78 := NB233_242.out
             have hnb79 := NB242_237.out
             have hnc79 := NB237_242.out
             have hcz80_0 : wc.cell? ⟨gb242, 0, none⟩ = some (.slice Ao42 t238.length co42) := (bkC BK242.out 0).trans rfl
             have hcz80_1 : wc.cell? ⟨gb242, 1, none⟩ = some (.int .i64 t241) := (bkC BK242.out 1).trans rfl
             have hfz80_0 := bkF BK242.out 0
             have hfz80_1 := bkF BK242.out 1
             go_wp2_with (first | ((with_reducible refine gate_callee (f := 39) rfl ?_); refine goesL_ (some 56) rfl rfl Try.func39 (by kernel_rfl) rfl #[.agg #[.slice Ao42 t238.length co42, .int .i64 t241], .int .i64 1] rfl (by (try simp only [List.map_toArray, List.map_cons, List.map_nil]); first | done | rfl | (simp only [List.length_drop, List.length_take]; rfl)) ?_; (with_reducible refine (laws_markGrown.calls kj20 (fun k_ => some k_ = (.slice Ao42 t238.length co42 : Value).ownBlock) (.slice Ao42 t238.length co42) t238 t241 1 t251 t252 w _ ?side1 ?side2 A66.out).mono ?_); (case side1 => repeat (first | (with_reducible first | exact HB.out | apply bal | apply pdN | apply bdr | refine bst ?_ GE224.out | refine bst ?_ GE233.out | refine bst ?_ GE237.out | refine bst ?_ GE242.out) | exact HB.out)); (case side2 => exact Kd.R_tight rfl HO_243000.out); rintro e w81 ⟨rfl, hy0, hb, hkp⟩; refine ⟨_, rfl, ?_⟩; have n0_ := A0_.mk (Kd.R_mono (ok' := fun k_ => some k_ ≠ (.slice Ao36 t249.length co36 : Value).ownBlock ∧ some k_ ≠ (.slice Ao42 t238.length co42 : Value).ownBlock) (Kd.R_keptB (HO_234000.out) hkp (fun k_ hk_ hs_ => (hk_.2) hs_)) (fun k_ hk_ => ⟨hk_.1.1, hk_.1.2⟩)); have n1_ := A0_.mk (Kd.R_mono (ok' := fun k_ => some k_ ≠ (.slice Ao30 t229.length co30 : Value).ownBlock ∧ some k_ ≠ (.slice Ao42 t238.length co42 : Value).ownBlock) (Kd.R_keptB (HO_238000.out) hkp (fun k_ hk_ hs_ => (hk_.2) hs_)) (fun k_ hk_ => ⟨hk_.1.1, hk_.1.2⟩)); have n2_ := A0_.mk (Kd.R_reok rfl hy0 (fun k_ e_ => HO_243000.out.1 k_ e_)); have n3_ := A0_.mk (blk_kept (by (with_reducible repeat (first | refine bkN ?_ _ | refine bkD ?_ | refine bkA ?_ _)); exact BK224.out) hkp (fun hs_ => (fun e_ => (Kd.R_ne HO_243000.out BK224.out (by decide)) e_) hs_)); have n4_ := A0_.mk (blk_kept (by (with_reducible repeat (first | refine bkN ?_ _ | refine bkD ?_ | refine bkA ?_ _)); exact BK233.out) hkp (fun hs_ => (fun e_ => (Kd.R_ne HO_243000.out BK233.out (by decide)) e_) hs_)); have n5_ := A0_.mk (blk_kept (by (with_reducible repeat (first | refine bkN ?_ _ | refine bkD ?_ | refine bkA ?_ _)); exact BK237.out) hkp (fun hs_ => (fun e_ => (Kd.R_ne HO_243000.out BK237.out (by decide)) e_) hs_)); have n6_ := A0_.mk (blk_kept (by (with_reducible repeat (first | refine bkN ?_ _ | refine bkD ?_ | refine bkA ?_ _)); exact BK242.out) hkp (fun hs_ => (fun e_ => (Kd.R_ne HO_243000.out BK242.out (by decide)) e_) hs_)); have n7_ := A0_.mk (hb); clear HO_234000; clear HO_238000; clear HO_243000; clear BK224; clear BK233; clear BK237; clear BK242; clear HB; have HO_234000 := n0_; have HO_238000 := n1_; have HO_243000 := n2_; have BK224 := n3_; have BK233 := n4_; have BK237 := n5_; have BK242 := n6_; have HB := n7_; clear n0_ n1_ n2_ n3_ n4_ n5_ n6_ n7_; (try clear hb); (try clear hkp); (try clear hy0); have hcz82_0 : w81.cell? ⟨gb242, 0, none⟩ = some (.slice Ao42 t238.length co42) := (bkC BK242.out 0).trans rfl; have hcz82_1 : w81.cell? ⟨gb242, 1, none⟩ = some (.int .i64 t241) := (bkC BK242.out 1).trans rfl; have hfz82_0 := bkF BK242.out 0; have hfz82_1 := bkF BK242.out 1) | ((with_reducible refine gate_callee (f := 40) rfl ?_); refine goesL_ (some 59) rfl rfl Try.func40 (by kernel_rfl) rfl #[.agg #[.slice Ao42 t252.length co42, .int .i64 t241], .int .i64 1] rfl (by (try simp only [List.map_toArray, List.map_cons, List.map_nil]); first | done | (rw [show t252.length = t238.length from (Kd.R_reads' HO_243000.out).1.symm] <;> rfl) | rfl | (simp only [List.length_drop, List.length_take]; rfl)) ?_; (with_reducible refine (laws_heldGrown.calls kj20 _ _ t252 t241 1 t253 _ ?side1 ?side2 A67.out).mono ?_); (case side1 => repeat (first | exact (Kd.R_reads' HO_243000.out).2.2 | (with_reducible refine Kd.C_alloc ?_ _) | (with_reducible refine Kd.C_drewN ?_ _) | (with_reducible refine Kd.C_drew ?_))); (case side2 => rw [show t252.length = t238.length from (Kd.R_reads' HO_243000.out).1.symm]; exact (Kd.R_reads' HO_243000.out).2.1); rintro e w83 ⟨rfl, hb⟩; refine ⟨_, rfl, ?_⟩; have n0_ := A0_.mk (Kd.R_below (by (with_reducible repeat (first | apply Kd.R_alloc | apply Kd.R_drewN | apply Kd.R_drew)); exact HO_234000.out) hb); have n1_ := A0_.mk (Kd.R_below (by (with_reducible repeat (first | apply Kd.R_alloc | apply Kd.R_drewN | apply Kd.R_drew)); exact HO_238000.out) hb); have n2_ := A0_.mk (Kd.R_below (by (with_reducible repeat (first | apply Kd.R_alloc | apply Kd.R_drewN | apply Kd.R_drew)); exact HO_243000.out) hb); have n3_ := A0_.mk (blk_below (g := gb224) (o := .cells #[.slice A0_0 l0_0.length c0_0] 46 (0, 0)) (by (with_reducible repeat (first | refine bkN ?_ _ | refine bkD ?_ | refine bkA ?_ _)); exact BK224.out) hb); have n4_ := A0_.mk (blk_below (g := gb233) (o := .cells #[.slice Ao30 t229.length co30, .int .i64 t232] 64 (0, 0)) (by (with_reducible repeat (first | refine bkN ?_ _ | refine bkD ?_ | refine bkA ?_ _)); exact BK233.out) hb); have n5_ := A0_.mk (blk_below (g := gb237) (o := .cells #[.slice Ao36 t249.length co36] 36 (0, 0)) (by (with_reducible repeat (first | refine bkN ?_ _ | refine bkD ?_ | refine bkA ?_ _)); exact BK237.out) hb); have n6_ := A0_.mk (blk_below (g := gb242) (o := .cells #[.slice Ao42 t238.length co42, .int .i64 t241] 64 (0, 0)) (by (with_reducible repeat (first | refine bkN ?_ _ | refine bkD ?_ | refine bkA ?_ _)); exact BK242.out) hb); have n7_ := A0_.mk (below_step (by repeat (first | (with_reducible first | exact HB.out | apply bal | apply pdN | apply bdr | refine bst ?_ GE224.out | refine bst ?_ GE233.out | refine bst ?_ GE237.out | refine bst ?_ GE242.out) | exact HB.out)) hb); clear HO_234000; clear HO_238000; clear HO_243000; clear BK224; clear BK233; clear BK237; clear BK242; clear HB; have HO_234000 := n0_; have HO_238000 := n1_; have HO_243000 := n2_; have BK224 := n3_; have BK233 := n4_; have BK237 := n5_; have BK242 := n6_; have HB := n7_; clear n0_ n1_ n2_ n3_ n4_ n5_ n6_ n7_; (try clear hb); (try clear hb2); (try clear hk); (try clear hi); have hnb84 := NB224_233.out; have hnc84 := NB233_224.out; have hnb85 := NB224_237.out; have hnc85 := NB237_224.out; have hcz86_0 : w83.cell? ⟨gb224, 0, none⟩ = some (.slice A0_0 l0_0.length c0_0) := (bkC BK224.out 0).trans rfl; have hfz86_0 := bkF BK224.out 0) | ((with_reducible refine gate_callee (f := 23) rfl ?_); refine goesL_ (some 66) rfl rfl Try.func23 (by kernel_rfl) rfl #[.agg #[.slice A0_0 l0_0.length c0_0]] rfl (by (try simp only [List.map_toArray, List.map_cons, List.map_nil]); first | done | rfl | (simp only [List.length_drop, List.length_take]; rfl)) ?_; (with_reducible refine (laws_toForest.calls kj20 _ _ l0_0 t254 _ ?side1 ?side2 A70.out).mono ?_); (case side1 => repeat (first | exact (Kd.C_below HR0_0.out HB.out) | (with_reducible refine Kd.C_alloc ?_ _) | (with_reducible refine Kd.C_drewN ?_ _) | (with_reducible refine Kd.C_drew ?_))); (case side2 => exact HC0_0.out); rintro e w87 ⟨v255, rfl, ho0, hb⟩; refine ⟨_, rfl, ?_⟩; have n0_ := A0_.mk (Kd.R_elder' (by (with_reducible repeat (first | apply Kd.R_alloc | apply Kd.R_drewN | apply Kd.R_drew)); exact HO_234000.out) (Kd.R_base ho0) hb); have n1_ := A0_.mk (Kd.R_elder' (by (with_reducible repeat (first | apply Kd.R_alloc | apply Kd.R_drewN | apply Kd.R_drew)); exact HO_238000.out) (Kd.R_base ho0) hb); have n2_ := A0_.mk (Kd.R_elder' (by (with_reducible repeat (first | apply Kd.R_alloc | apply Kd.R_drewN | apply Kd.R_drew)); exact HO_243000.out) (Kd.R_base ho0) hb); have n3_ := A0_.mk (Kd.R_lower (Kd.R_new' (Kd.R_new' (Kd.R_new' ho0 (Kd.R_lt (by (with_reducible repeat (first | apply Kd.R_alloc | apply Kd.R_drewN | apply Kd.R_drew)); exact HO_234000.out))) (Kd.R_lt (by (with_reducible repeat (first | apply Kd.R_alloc | apply Kd.R_drewN | apply Kd.R_drew)); exact HO_238000.out))) (Kd.R_lt (by (with_reducible repeat (first | apply Kd.R_alloc | apply Kd.R_drewN | apply Kd.R_drew)); exact HO_243000.out))) (below_size (by repeat (first | (with_reducible first | exact HB.out | apply bal | apply pdN | apply bdr | refine bst ?_ GE224.out | refine bst ?_ GE233.out | refine bst ?_ GE237.out | refine bst ?_ GE242.out) | exact HB.out)))); have n4_ := A0_.mk (blk_below (g := gb224) (o := .cells #[.slice A0_0 l0_0.length c0_0] 46 (0, 0)) (by (with_reducible repeat (first | refine bkN ?_ _ | refine bkD ?_ | refine bkA ?_ _)); exact BK224.out) hb); have n5_ := A0_.mk (blk_below (g := gb233) (o := .cells #[.slice Ao30 t229.length co30, .int .i64 t232] 64 (0, 0)) (by (with_reducible repeat (first | refine bkN ?_ _ | refine bkD ?_ | refine bkA ?_ _)); exact BK233.out) hb); have n6_ := A0_.mk (blk_below (g := gb237) (o := .cells #[.slice Ao36 t249.length co36] 36 (0, 0)) (by (with_reducible repeat (first | refine bkN ?_ _ | refine bkD ?_ | refine bkA ?_ _)); exact BK237.out) hb); have n7_ := A0_.mk (blk_below (g := gb242) (o := .cells #[.slice Ao42 t238.length co42, .int .i64 t241] 64 (0, 0)) (by (with_reducible repeat (first | refine bkN ?_ _ | refine bkD ?_ | refine bkA ?_ _)); exact BK242.out) hb); have n8_ := A0_.mk (below_step (by repeat (first | (with_reducible first | exact HB.out | apply bal | apply pdN | apply bdr | refine bst ?_ GE224.out | refine bst ?_ GE233.out | refine bst ?_ GE237.out | refine bst ?_ GE242.out) | exact HB.out)) hb); clear HO_234000; clear HO_238000; clear HO_243000; clear BK224; clear BK233; clear BK237; clear BK242; clear HB; have HO_234000 := n0_; have HO_238000 := n1_; have HO_243000 := n2_; have HO256 := n3_; have BK224 := n4_; have BK233 := n5_; have BK237 := n6_; have BK242 := n7_; have HB := n8_; clear n0_ n1_ n2_ n3_ n4_ n5_ n6_ n7_ n8_; (try clear hb); (try clear hb2); (try clear hk); (try clear hi); (try clear ho0); obtain ⟨Ao88, co88, eo88⟩ := Kd.R_slice HO256.out; subst eo88) | ((with_reducible refine gate_callee (f := 35) rfl ?_); refine goesL_ (some 69) rfl rfl Try.func35 (by kernel_rfl) rfl #[.agg #[.slice Ao88 t254.length co88], .int .i64 a1, .string a2] rfl (by (try simp only [List.map_toArray, List.map_cons, List.map_nil]); first | done | rfl | (simp only [List.length_drop, List.length_take]; rfl)) ?_; (with_reducible refine (impl_Grow.calls kj20 _ _ t254 a1 a2 t257 t260 _ ?side1 ?side2 A71.out).mono ?_); (case side1 => repeat (first | exact (Kd.R_reads' HO256.out).2.2 | (with_reducible refine Kd.C_alloc ?_ _) | (with_reducible refine Kd.C_drewN ?_ _) | (with_reducible refine Kd.C_drew ?_))); (case side2 => exact (Kd.R_reads' HO256.out).2.1); rintro e w89 ⟨v258, rfl, ho0, hb⟩; refine ⟨_, rfl, ?_⟩; have n0_ := A0_.mk (Kd.R_elder' (by (with_reducible repeat (first | apply Kd.R_alloc | apply Kd.R_drewN | apply Kd.R_drew)); exact HO_234000.out) (Kd.R_base ho0) hb); have n1_ := A0_.mk (Kd.R_elder' (by (with_reducible repeat (first | apply Kd.R_alloc | apply Kd.R_drewN | apply Kd.R_drew)); exact HO_238000.out) (Kd.R_base ho0) hb); have n2_ := A0_.mk (Kd.R_elder' (by (with_reducible repeat (first | apply Kd.R_alloc | apply Kd.R_drewN | apply Kd.R_drew)); exact HO_243000.out) (Kd.R_base ho0) hb); have n3_ := A0_.mk (Kd.R_elder' (by (with_reducible repeat (first | apply Kd.R_alloc | apply Kd.R_drewN | apply Kd.R_drew)); exact HO256.out) (Kd.R_base ho0) hb); have n4_ := A0_.mk (Kd.R_lower (Kd.R_new' (Kd.R_new' (Kd.R_new' (Kd.R_new' ho0 (Kd.R_lt (by (with_reducible repeat (first | apply Kd.R_alloc | apply Kd.R_drewN | apply Kd.R_drew)); exact HO_234000.out))) (Kd.R_lt (by (with_reducible repeat (first | apply Kd.R_alloc | apply Kd.R_drewN | apply Kd.R_drew)); exact HO_238000.out))) (Kd.R_lt (by (with_reducible repeat (first | apply Kd.R_alloc | apply Kd.R_drewN | apply Kd.R_drew)); exact HO_243000.out))) (Kd.R_lt (by (with_reducible repeat (first | apply Kd.R_alloc | apply Kd.R_drewN | apply Kd.R_drew)); exact HO256.out))) (below_size (by repeat (first | (with_reducible first | exact HB.out | apply bal | apply pdN | apply bdr | refine bst ?_ GE224.out | refine bst ?_ GE233.out | refine bst ?_ GE237.out | refine bst ?_ GE242.out) | exact HB.out)))); have n5_ := A0_.mk (blk_below (g := gb224) (o := .cells #[.slice A0_0 l0_0.length c0_0] 46 (0, 0)) (by (with_reducible repeat (first | refine bkN ?_ _ | refine bkD ?_ | refine bkA ?_ _)); exact BK224.out) hb); have n6_ := A0_.mk (blk_below (g := gb233) (o := .cells #[.slice Ao30 t229.length co30, .int .i64 t232] 64 (0, 0)) (by (with_reducible repeat (first | refine bkN ?_ _ | refine bkD ?_ | refine bkA ?_ _)); exact BK233.out) hb); have n7_ := A0_.mk (blk_below (g := gb237) (o := .cells #[.slice Ao36 t249.length co36] 36 (0, 0)) (by (with_reducible repeat (first | refine bkN ?_ _ | refine bkD ?_ | refine bkA ?_ _)); exact BK237.out) hb); have n8_ := A0_.mk (blk_below (g := gb242) (o := .cells #[.slice Ao42 t238.length co42, .int .i64 t241] 64 (0, 0)) (by (with_reducible repeat (first | refine bkN ?_ _ | refine bkD ?_ | refine bkA ?_ _)); exact BK242.out) hb); have n9_ := A0_.mk (below_step (by repeat (first | (with_reducible first | exact HB.out | apply bal | apply pdN | apply bdr | refine bst ?_ GE224.out | refine bst ?_ GE233.out | refine bst ?_ GE237.out | refine bst ?_ GE242.out) | exact HB.out)) hb); clear HO_234000; clear HO_238000; clear HO_243000; clear HO256; clear BK224; clear BK233; clear BK237; clear BK242; clear HB; have HO_234000 := n0_; have HO_238000 := n1_; have HO_243000 := n2_; have HO256 := n3_; have HO259 := n4_; have BK224 := n5_; have BK233 := n6_; have BK237 := n7_; have BK242 := n8_; have HB := n9_; clear n0_ n1_ n2_ n3_ n4_ n5_ n6_ n7_ n8_ n9_; (try clear hb); (try clear hb2); (try clear hk); (try clear hi); (try clear ho0)) | ((with_reducible refine gate_dst (N := 14) rfl ?_); refine box_event ?hg (N := 14) ?hd (cs := #[.slice none 0 0, .int .i64 0]) (t := 64) ?hr ?_; (case hd => rfl); (case hg => rfl); (case hr => first | (go_simp; done) | (go_simp; rfl)); intro gb261 hg w90 hbox hb; have n0_ := A0_.mk (Kd.R_below (by (with_reducible repeat (first | apply Kd.R_alloc | apply Kd.R_drewN | apply Kd.R_drew)); exact HO_234000.out) hb); have n1_ := A0_.mk (Kd.R_below (by (with_reducible repeat (first | apply Kd.R_alloc | apply Kd.R_drewN | apply Kd.R_drew)); exact HO_238000.out) hb); have n2_ := A0_.mk (Kd.R_below (by (with_reducible repeat (first | apply Kd.R_alloc | apply Kd.R_drewN | apply Kd.R_drew)); exact HO_243000.out) hb); have n3_ := A0_.mk (Kd.R_below (by (with_reducible repeat (first | apply Kd.R_alloc | apply Kd.R_drewN | apply Kd.R_drew)); exact HO256.out) hb); have n4_ := A0_.mk (Kd.R_below (by (with_reducible repeat (first | apply Kd.R_alloc | apply Kd.R_drewN | apply Kd.R_drew)); exact HO259.out) hb); have n5_ := A0_.mk (blk_below (g := gb224) (o := .cells #[.slice A0_0 l0_0.length c0_0] 46 (0, 0)) (by (with_reducible repeat (first | refine bkN ?_ _ | refine bkD ?_ | refine bkA ?_ _)); exact BK224.out) hb); have n6_ := A0_.mk (blk_below (g := gb233) (o := .cells #[.slice Ao30 t229.length co30, .int .i64 t232] 64 (0, 0)) (by (with_reducible repeat (first | refine bkN ?_ _ | refine bkD ?_ | refine bkA ?_ _)); exact BK233.out) hb); have n7_ := A0_.mk (blk_below (g := gb237) (o := .cells #[.slice Ao36 t249.length co36] 36 (0, 0)) (by (with_reducible repeat (first | refine bkN ?_ _ | refine bkD ?_ | refine bkA ?_ _)); exact BK237.out) hb); have n8_ := A0_.mk (blk_below (g := gb242) (o := .cells #[.slice Ao42 t238.length co42, .int .i64 t241] 64 (0, 0)) (by (with_reducible repeat (first | refine bkN ?_ _ | refine bkD ?_ | refine bkA ?_ _)); exact BK242.out) hb); have n9_ := A0_.mk (below_step (by repeat (first | (with_reducible first | exact HB.out | apply bal | apply pdN | apply bdr | refine bst ?_ GE224.out | refine bst ?_ GE233.out | refine bst ?_ GE237.out | refine bst ?_ GE242.out) | exact HB.out)) hb); have n10_ := A0_.mk (hbox); have n11_ := A0_.mk ((by rw [hg]; exact (below_size (by repeat (first | (with_reducible first | exact HB.out | apply bal | apply pdN | apply bdr | refine bst ?_ GE224.out | refine bst ?_ GE233.out | refine bst ?_ GE237.out | refine bst ?_ GE242.out) | exact HB.out))) : w.heap.size ≤ gb261)); have n12_ := A0_.mk ((by rw [hg]; exact (below_size (by repeat (first | (with_reducible first | exact HB.out | apply bal | apply pdN | apply bdr | refine bst ?_ GE224.out | refine bst ?_ GE233.out | refine bst ?_ GE237.out | refine bst ?_ GE242.out) | exact HB.out))) : w.heap.size ≤ gb261)); have n13_ := A0_.mk ((by rw [hg]; exact Nat.ne_of_lt (blk_lt (g := gb224) (o := .cells #[.slice A0_0 l0_0.length c0_0] 46 (0, 0)) (by (with_reducible repeat (first | refine bkN ?_ _ | refine bkD ?_ | refine bkA ?_ _)); exact BK224.out)) : gb224 ≠ gb261)); have n14_ := A0_.mk ((by rw [hg]; exact Nat.ne_of_gt (blk_lt (g := gb224) (o := .cells #[.slice A0_0 l0_0.length c0_0] 46 (0, 0)) (by (with_reducible repeat (first | refine bkN ?_ _ | refine bkD ?_ | refine bkA ?_ _)); exact BK224.out)) : gb261 ≠ gb224)); have n15_ := A0_.mk ((by rw [hg]; exact Nat.ne_of_lt (blk_lt (g := gb233) (o := .cells #[.slice Ao30 t229.length co30, .int .i64 t232] 64 (0, 0)) (by (with_reducible repeat (first | refine bkN ?_ _ | refine bkD ?_ | refine bkA ?_ _)); exact BK233.out)) : gb233 ≠ gb261)); have n16_ := A0_.mk ((by rw [hg]; exact Nat.ne_of_gt (blk_lt (g := gb233) (o := .cells #[.slice Ao30 t229.length co30, .int .i64 t232] 64 (0, 0)) (by (with_reducible repeat (first | refine bkN ?_ _ | refine bkD ?_ | refine bkA ?_ _)); exact BK233.out)) : gb261 ≠ gb233)); have n17_ := A0_.mk ((by rw [hg]; exact Nat.ne_of_lt (blk_lt (g := gb237) (o := .cells #[.slice Ao36 t249.length co36] 36 (0, 0)) (by (with_reducible repeat (first | refine bkN ?_ _ | refine bkD ?_ | refine bkA ?_ _)); exact BK237.out)) : gb237 ≠ gb261)); have n18_ := A0_.mk ((by rw [hg]; exact Nat.ne_of_gt (blk_lt (g := gb237) (o := .cells #[.slice Ao36 t249.length co36] 36 (0, 0)) (by (with_reducible repeat (first | refine bkN ?_ _ | refine bkD ?_ | refine bkA ?_ _)); exact BK237.out)) : gb261 ≠ gb237)); have n19_ := A0_.mk ((by rw [hg]; exact Nat.ne_of_lt (blk_lt (g := gb242) (o := .cells #[.slice Ao42 t238.length co42, .int .i64 t241] 64 (0, 0)) (by (with_reducible repeat (first | refine bkN ?_ _ | refine bkD ?_ | refine bkA ?_ _)); exact BK242.out)) : gb242 ≠ gb261)); have n20_ := A0_.mk ((by rw [hg]; exact Nat.ne_of_gt (blk_lt (g := gb242) (o := .cells #[.slice Ao42 t238.length co42, .int .i64 t241] 64 (0, 0)) (by (with_reducible repeat (first | refine bkN ?_ _ | refine bkD ?_ | refine bkA ?_ _)); exact BK242.out)) : gb261 ≠ gb242)); clear HO_234000; clear HO_238000; clear HO_243000; clear HO256; clear HO259; clear BK224; clear BK233; clear BK237; clear BK242; clear HB; have HO_234000 := n0_; have HO_238000 := n1_; have HO_243000 := n2_; have HO256 := n3_; have HO259 := n4_; have BK224 := n5_; have BK233 := n6_; have BK237 := n7_; have BK242 := n8_; have HB := n9_; have BK261 := n10_; have GW261 := n11_; have GE261 := n12_; have NB224_261 := n13_; have NB261_224 := n14_; have NB233_261 := n15_; have NB261_233 := n16_; have NB237_261 := n17_; have NB261_237 := n18_; have NB242_261 := n19_; have NB261_242 := n20_; clear n0_ n1_ n2_ n3_ n4_ n5_ n6_ n7_ n8_ n9_ n10_ n11_ n12_ n13_ n14_ n15_ n16_ n17_ n18_ n19_ n20_; clear hb hbox hg; obtain ⟨Ao91, co91, eo91⟩ := Kd.R_slice HO259.out; subst eo91; have hnb92 := NB261_224.out; have hnc92 := NB224_261.out; have hnb93 := NB261_233.out; have hnc93 := NB233_261.out; have hnb94 := NB261_237.out; have hnc94 := NB237_261.out; have hnb95 := NB261_242.out; have hnc95 := NB242_261.out; have hcz96_0 : w90.cell? ⟨gb261, 0, none⟩ = some (.slice none 0 0) := (bkC BK261.out 0).trans rfl; have hcz96_1 : w90.cell? ⟨gb261, 1, none⟩ = some (.int .i64 0) := (bkC BK261.out 1).trans rfl; have hfz96_0 := bkF BK261.out 0; have hfz96_1 := bkF BK261.out 1; have hnb97 := NB233_237.out; have hnc97 := NB237_233.out; have hcz98_0 : w90.cell? ⟨gb233, 0, none⟩ = some (.slice Ao30 t229.length co30) := (bkC BK233.out 0).trans rfl; have hcz98_1 : w90.cell? ⟨gb233, 1, none⟩ = some (.int .i64 t232) := (bkC BK233.out 1).trans rfl; have hfz98_0 := bkF BK233.out 0; have hfz98_1 := bkF BK233.out 1) | ((with_reducible refine gate_callee (f := 38) rfl ?_); refine goesL_ (some 72) rfl rfl Try.func38 (by kernel_rfl) rfl #[.agg #[.slice Ao91 t257.length co91, .int .i64 t260], .agg #[.slice Ao30 t229.length co30, .int .i64 t232]] rfl (by (try simp only [List.map_toArray, List.map_cons, List.map_nil]); first | done | rfl | (simp only [List.length_drop, List.length_take]; rfl)) ?_; (with_reducible refine (laws_eqGrown.calls kj20 _ _ t257 t260 _ _ t229 t232 true _ ?side1 ?side2 ?side3 ?side4 A72.out).mono ?_); (case side1 => refine (Kd.R_reads' (e := 75) (base := w.heap.size) (ok := fun k_ => ((((True ∧ some k_ ≠ (.slice Ao30 t229.length co30 : Value).ownBlock) ∧ some k_ ≠ (.slice Ao36 t249.length co36 : Value).ownBlock) ∧ some k_ ≠ (.slice Ao42 t238.length co42 : Value).ownBlock) ∧ some k_ ≠ (.slice Ao88 t254.length co88 : Value).ownBlock)) (n := t257.length) (c := co91) ?_).2.2; exact (by (with_reducible repeat (first | apply Kd.R_alloc | apply Kd.R_drewN | apply Kd.R_drew)); exact (Kd.R_mono (Kd.R_far (p := ⟨gb261, 1, none⟩) (Kd.R_far (p := ⟨gb261, 0, none⟩) (Kd.R_types HO259.out BK261.out (by decide)) (fun _ hk => hk.2) (.slice Ao91 t257.length co91)) (fun _ hk => hk.2) (.int .i64 t260)) (fun _ h_ => h_.1)))); (case side2 => exact (Kd.R_reads' HO259.out).2.1); (case side3 => refine (Kd.R_reads' (e := 75) (base := w.heap.size) (ok := fun k_ => (((some k_ ≠ (.slice Ao36 t249.length co36 : Value).ownBlock ∧ some k_ ≠ (.slice Ao42 t238.length co42 : Value).ownBlock) ∧ some k_ ≠ (.slice Ao88 t254.length co88 : Value).ownBlock) ∧ some k_ ≠ (.slice Ao91 t257.length co91 : Value).ownBlock)) (n := t229.length) (c := co30) ?_).2.2; exact (by (with_reducible repeat (first | apply Kd.R_alloc | apply Kd.R_drewN | apply Kd.R_drew)); exact (Kd.R_mono (Kd.R_far (p := ⟨gb261, 1, none⟩) (Kd.R_far (p := ⟨gb261, 0, none⟩) (Kd.R_types HO_234000.out BK261.out (by decide)) (fun _ hk => hk.2) (.slice Ao91 t257.length co91)) (fun _ hk => hk.2) (.int .i64 t260)) (fun _ h_ => h_.1)))); (case side4 => exact (Kd.R_reads' HO_234000.out).2.1); rintro e w99 ⟨rfl, hb⟩; refine ⟨_, rfl, ?_⟩; have n0_ := A0_.mk (Kd.R_below (by (with_reducible repeat (first | apply Kd.R_alloc | apply Kd.R_drewN | apply Kd.R_drew)); exact (Kd.R_mono (Kd.R_far (p := ⟨gb261, 1, none⟩) (Kd.R_far (p := ⟨gb261, 0, none⟩) (Kd.R_types HO_234000.out BK261.out (by decide)) (fun _ hk => hk.2) (.slice Ao91 t257.length co91)) (fun _ hk => hk.2) (.int .i64 t260)) (fun _ h_ => h_.1))) hb); have n1_ := A0_.mk (Kd.R_below (by (with_reducible repeat (first | apply Kd.R_alloc | apply Kd.R_drewN | apply Kd.R_drew)); exact (Kd.R_mono (Kd.R_far (p := ⟨gb261, 1, none⟩) (Kd.R_far (p := ⟨gb261, 0, none⟩) (Kd.R_types HO_238000.out BK261.out (by decide)) (fun _ hk => hk.2) (.slice Ao91 t257.length co91)) (fun _ hk => hk.2) (.int .i64 t260)) (fun _ h_ => h_.1))) hb); have n2_ := A0_.mk (Kd.R_below (by (with_reducible repeat (first | apply Kd.R_alloc | apply Kd.R_drewN | apply Kd.R_drew)); exact (Kd.R_mono (Kd.R_far (p := ⟨gb261, 1, none⟩) (Kd.R_far (p := ⟨gb261, 0, none⟩) (Kd.R_types HO_243000.out BK261.out (by decide)) (fun _ hk => hk.2) (.slice Ao91 t257.length co91)) (fun _ hk => hk.2) (.int .i64 t260)) (fun _ h_ => h_.1))) hb); have n3_ := A0_.mk (Kd.R_below (by (with_reducible repeat (first | apply Kd.R_alloc | apply Kd.R_drewN | apply Kd.R_drew)); exact (Kd.R_mono (Kd.R_far (p := ⟨gb261, 1, none⟩) (Kd.R_far (p := ⟨gb261, 0, none⟩) (Kd.R_types HO256.out BK261.out (by decide)) (fun _ hk => hk.2) (.slice Ao91 t257.length co91)) (fun _ hk => hk.2) (.int .i64 t260)) (fun _ h_ => h_.1))) hb); have n4_ := A0_.mk (Kd.R_below (by (with_reducible repeat (first | apply Kd.R_alloc | apply Kd.R_drewN | apply Kd.R_drew)); exact (Kd.R_mono (Kd.R_far (p := ⟨gb261, 1, none⟩) (Kd.R_far (p := ⟨gb261, 0, none⟩) (Kd.R_types HO259.out BK261.out (by decide)) (fun _ hk => hk.2) (.slice Ao91 t257.length co91)) (fun _ hk => hk.2) (.int .i64 t260)) (fun _ h_ => h_.1))) hb); have n5_ := A0_.mk (blk_below (g := gb224) (o := .cells #[.slice A0_0 l0_0.length c0_0] 46 (0, 0)) (by (with_reducible repeat (first | refine bkN ?_ _ | refine bkD ?_ | refine bkA ?_ _)); refine blk_far ?_ NB224_261.out _; (with_reducible repeat (first | refine bkN ?_ _ | refine bkD ?_ | refine bkA ?_ _)); refine blk_far ?_ NB224_261.out _; (with_reducible repeat (first | refine bkN ?_ _ | refine bkD ?_ | refine bkA ?_ _)); exact BK224.out) hb); have n6_ := A0_.mk (blk_below (g := gb233) (o := .cells #[.slice Ao30 t229.length co30, .int .i64 t232] 64 (0, 0)) (by (with_reducible repeat (first | refine bkN ?_ _ | refine bkD ?_ | refine bkA ?_ _)); refine blk_far ?_ NB233_261.out _; (with_reducible repeat (first | refine bkN ?_ _ | refine bkD ?_ | refine bkA ?_ _)); refine blk_far ?_ NB233_261.out _; (with_reducible repeat (first | refine bkN ?_ _ | refine bkD ?_ | refine bkA ?_ _)); exact BK233.out) hb); have n7_ := A0_.mk (blk_below (g := gb237) (o := .cells #[.slice Ao36 t249.length co36] 36 (0, 0)) (by (with_reducible repeat (first | refine bkN ?_ _ | refine bkD ?_ | refine bkA ?_ _)); refine blk_far ?_ NB237_261.out _; (with_reducible repeat (first | refine bkN ?_ _ | refine bkD ?_ | refine bkA ?_ _)); refine blk_far ?_ NB237_261.out _; (with_reducible repeat (first | refine bkN ?_ _ | refine bkD ?_ | refine bkA ?_ _)); exact BK237.out) hb); have n8_ := A0_.mk (blk_below (g := gb242) (o := .cells #[.slice Ao42 t238.length co42, .int .i64 t241] 64 (0, 0)) (by (with_reducible repeat (first | refine bkN ?_ _ | refine bkD ?_ | refine bkA ?_ _)); refine blk_far ?_ NB242_261.out _; (with_reducible repeat (first | refine bkN ?_ _ | refine bkD ?_ | refine bkA ?_ _)); refine blk_far ?_ NB242_261.out _; (with_reducible repeat (first | refine bkN ?_ _ | refine bkD ?_ | refine bkA ?_ _)); exact BK242.out) hb); have n9_ := A0_.mk (blk_below (g := gb261) (o := .cells #[.slice Ao91 t257.length co91, .int .i64 t260] 64 (0, 0)) (by (with_reducible repeat (first | refine bkN ?_ _ | refine bkD ?_ | refine bkA ?_ _)); refine blk_put (cs := #[.slice Ao91 t257.length co91, .int .i64 0]) ?_ 1 _ rfl; (with_reducible repeat (first | refine bkN ?_ _ | refine bkD ?_ | refine bkA ?_ _)); refine blk_put (cs := #[.slice none 0 0, .int .i64 0]) ?_ 0 _ rfl; (with_reducible repeat (first | refine bkN ?_ _ | refine bkD ?_ | refine bkA ?_ _)); exact BK261.out) hb); have n10_ := A0_.mk (below_step (by repeat (first | (with_reducible first | exact HB.out | apply bal | apply pdN | apply bdr | refine bst ?_ GE224.out | refine bst ?_ GE233.out | refine bst ?_ GE237.out | refine bst ?_ GE242.out | refine bst ?_ GE261.out) | exact HB.out)) hb); clear HO_234000; clear HO_238000; clear HO_243000; clear HO256; clear HO259; clear BK224; clear BK233; clear BK237; clear BK242; clear BK261; clear HB; have HO_234000 := n0_; have HO_238000 := n1_; have HO_243000 := n2_; have HO256 := n3_; have HO259 := n4_; have BK224 := n5_; have BK233 := n6_; have BK237 := n7_; have BK242 := n8_; have BK261 := n9_; have HB := n10_; clear n0_ n1_ n2_ n3_ n4_ n5_ n6_ n7_ n8_ n9_ n10_; (try clear hb); (try clear hb2); (try clear hk); (try clear hi); have hcz100_0 : w99.cell? ⟨gb242, 0, none⟩ = some (.slice Ao42 t238.length co42) := (bkC BK242.out 0).trans rfl; have hcz100_1 : w99.cell? ⟨gb242, 1, none⟩ = some (.int .i64 t241) := (bkC BK242.out 1).trans rfl; have hfz100_0 := bkF BK242.out 0; have hfz100_1 := bkF BK242.out 1) | ((with_reducible refine gate_callee (f := 40) rfl ?_); refine goesL_ (some 76) rfl rfl Try.func40 (by kernel_rfl) rfl #[.agg #[.slice Ao42 t252.length co42, .int .i64 t241], .int .i64 1] rfl (by (try simp only [List.map_toArray, List.map_cons, List.map_nil]); first | done | (rw [show t252.length = t238.length from (Kd.R_reads' HO_243000.out).1.symm] <;> rfl) | rfl | (simp only [List.length_drop, List.length_take]; rfl)) ?_; (with_reducible refine (laws_heldGrown.calls kj20 _ _ t252 t241 1 t263 _ ?side1 ?side2 A74.out).mono ?_); (case side1 => repeat (first | exact (Kd.R_reads' HO_243000.out).2.2 | (with_reducible refine Kd.C_alloc ?_ _) | (with_reducible refine Kd.C_drewN ?_ _) | (with_reducible refine Kd.C_drew ?_))); (case side2 => rw [show t252.length = t238.length from (Kd.R_reads' HO_243000.out).1.symm]; exact (Kd.R_reads' HO_243000.out).2.1); rintro e w101 ⟨rfl, hb⟩; refine ⟨_, rfl, ?_⟩; have n0_ := A0_.mk (Kd.R_below (by (with_reducible repeat (first | apply Kd.R_alloc | apply Kd.R_drewN | apply Kd.R_drew)); exact HO_234000.out) hb); have n1_ := A0_.mk (Kd.R_below (by (with_reducible repeat (first | apply Kd.R_alloc | apply Kd.R_drewN | apply Kd.R_drew)); exact HO_238000.out) hb); have n2_ := A0_.mk (Kd.R_below (by (with_reducible repeat (first | apply Kd.R_alloc | apply Kd.R_drewN | apply Kd.R_drew)); exact HO_243000.out) hb); have n3_ := A0_.mk (Kd.R_below (by (with_reducible repeat (first | apply Kd.R_alloc | apply Kd.R_drewN | apply Kd.R_drew)); exact HO256.out) hb); have n4_ := A0_.mk (Kd.R_below (by (with_reducible repeat (first | apply Kd.R_alloc | apply Kd.R_drewN | apply Kd.R_drew)); exact HO259.out) hb); have n5_ := A0_.mk (blk_below (g := gb224) (o := .cells #[.slice A0_0 l0_0.length c0_0] 46 (0, 0)) (by (with_reducible repeat (first | refine bkN ?_ _ | refine bkD ?_ | refine bkA ?_ _)); exact BK224.out) hb); have n6_ := A0_.mk (blk_below (g := gb233) (o := .cells #[.slice Ao30 t229.length co30, .int .i64 t232] 64 (0, 0)) (by (with_reducible repeat (first | refine bkN ?_ _ | refine bkD ?_ | refine bkA ?_ _)); exact BK233.out) hb); have n7_ := A0_.mk (blk_below (g := gb237) (o := .cells #[.slice Ao36 t249.length co36] 36 (0, 0)) (by (with_reducible repeat (first | refine bkN ?_ _ | refine bkD ?_ | refine bkA ?_ _)); exact BK237.out) hb); have n8_ := A0_.mk (blk_below (g := gb242) (o := .cells #[.slice Ao42 t238.length co42, .int .i64 t241] 64 (0, 0)) (by (with_reducible repeat (first | refine bkN ?_ _ | refine bkD ?_ | refine bkA ?_ _)); exact BK242.out) hb); have n9_ := A0_.mk (blk_below (g := gb261) (o := .cells #[.slice Ao91 t257.length co91, .int .i64 t260] 64 (0, 0)) (by (with_reducible repeat (first | refine bkN ?_ _ | refine bkD ?_ | refine bkA ?_ _)); exact BK261.out) hb); have n10_ := A0_.mk (below_step (by repeat (first | (with_reducible first | exact HB.out | apply bal | apply pdN | apply bdr | refine bst ?_ GE224.out | refine bst ?_ GE233.out | refine bst ?_ GE237.out | refine bst ?_ GE242.out | refine bst ?_ GE261.out) | exact HB.out)) hb); clear HO_234000; clear HO_238000; clear HO_243000; clear HO256; clear HO259; clear BK224; clear BK233; clear BK237; clear BK242; clear BK261; clear HB; have HO_234000 := n0_; have HO_238000 := n1_; have HO_243000 := n2_; have HO256 := n3_; have HO259 := n4_; have BK224 := n5_; have BK233 := n6_; have BK237 := n7_; have BK242 := n8_; have BK261 := n9_; have HB := n10_; clear n0_ n1_ n2_ n3_ n4_ n5_ n6_ n7_ n8_ n9_ n10_; (try clear hb); (try clear hb2); (try clear hk); (try clear hi)))
             go_ret
             exact ⟨by first | rfl | (simp [errW_none, errW_some] <;> rfl) | (simp [*, errW_none, errW_some] <;> rfl), by repeat (first | (with_reducible first | exact HB.out | apply bal | apply pdN | apply bdr | refine bst ?_ GE224.out | refine bst ?_ GE233.out | refine bst ?_ GE237.out | refine bst ?_ GE242.out | refine bst ?_ GE261.out) | exact HB.out)⟩
            ·rw [if_neg c76] at H
             exact absurd H (by simp)
          ·replace c73 := Bool.eq_false_iff.mpr c73
           subst c73
           have H1 : (none) = some r := by rw [if_neg (show ¬ (false = true) by decide)] at H; exact H
           clear H
           have H := H1
           clear H1
           exact absurd H (by simp)
         ·rw [if_neg c69] at H
          exact absurd H (by simp)
    ·replace c19 := Bool.eq_false_iff.mpr c19
     subst c19
     have H1 : (none) = some r := by rw [if_neg (show ¬ (false = true) by decide)] at H; exact H
     clear H
     have H := H1
     clear H1
     exact absurd H (by simp)
   ·replace c16 := Bool.eq_false_iff.mpr c16
    subst c16
    have H1 : (none) = some r := by rw [if_neg (show ¬ (false = true) by decide)] at H; exact H
    clear H
    have H := H1
    clear H1
    exact absurd H (by simp)

end Go.Proofs.Ytclploookcjcbaa.PGro
