/- Proved: what the two makings of a key come to; what the reference's making of a key comes to: the same as the program's; what the reference's small functions come to: which tables and sites an act wants, a string as a key, whether two keys are one, the place of a key in a table; what the reference's search for the first pair behind a turn comes to; what the reference's check of an act comes to; what the reference's answers to the acts that only read come to; what the reference's reading of a table comes to. Conditions: those each theorem states. -/
import Derived.Test.YtclploookcjcbaaDoorIdGA
import Derived.Test.YtclploookcjcbaaDoorFltL
import Derived.Deep.RegionLaw
namespace Go.Proofs.YtclploookcjcbaaDoor.PIde
open Go.RowKit Go.Proofs.YtclploookcjcbaaDoorW.PrintWords Go.Proofs.YtclploookcjcbaaDoorW.PrintLast Go.Proofs.YtclploookcjcbaaDoorW.PrintMore Go.Proofs.YtclploookcjcbaaDoorW.FltL
attribute [local go_sem] max2_int min2_int max_two min_two max_three min_three max_four min_four   -- for this text's walks alone
set_option linter.unusedVariables false
set_option linter.unusedSimpArgs false
theorem archTrunc_run (a0 : Nat) (w : World) (h : fok_trunc_ a0 = true) : (callFunc 63 #[.float .f64 a0]).run Tryd.prog w = .ok (.value (.float .f64 (fv_trunc_ a0))) w := by
  rw [run_callFunc_extern (e := Extern.MathFloor.toIntegral "math.archTrunc" .zero) Tryd.func63 (by kernel_rfl) (by kernel_rfl) (by kernel_rfl) (by kernel_rfl)]
  obtain ⟨K, red⟩ : ∃ K : Bool → Nat → Sem Value, Extern.MathFloor.toIntegral "math.archTrunc" .zero #[.float .f64 a0] = (match FloatKind.f64.decode a0 with | .nan s t => K s t | d => pure (.float .f64 (FloatKind.f64.encode (d.integral .zero)))) := ⟨_, rfl⟩
  have key : ∀ d, FloatKind.f64.decode a0 = d → d.isNaN = false → Extern.MathFloor.toIntegral "math.archTrunc" .zero #[.float .f64 a0] = pure (.float .f64 (FloatKind.f64.encode (d.integral .zero))) := by
    intro d e hN
    rw [red, e]
    cases d with
    | nan s t => cases hN
    | number s m x => rfl
    | infinity s => rfl
  rw [key _ rfl (by simpa [fok_trunc_] using h)]
  rfl
theorem Trunc_calls (a0 : Nat) (w : World) (h : fok_trunc_ a0 = true) : Calls Tryd.prog 56 #[.float .f64 a0] w fun e w' => e = .returned (.float .f64 (fv_trunc_ a0)) ∧ Drawn0 w w' := by
  have hd := fun w => archTrunc_run a0 w h
  clear h
  go_enter Tryd.func56, Tryd.ntmps56
  go_wp2
  go_ret
  exact ⟨rfl, Drawn0.refl _⟩
def keyC (v : S29) : Int := if vB v = false then 2 else if (v.f0 == 0) = true then 1 else if (v.f0 == 3) = true then if feq v.f2 v.f2 = false then 1 else 0 else 0
def wholeB (v : S29) : Bool := v.f0 == 3 && (fge v.f2 14114281232179134464 && (flt v.f2 4890909195324358656 && feq v.f2 (fv_trunc_ v.f2)))
def keyV (v : S29) : S29 := if keyC v = 0 then if wholeB v = true then ⟨2, fv_int v.f2, 0, ⟨#[]⟩, 0⟩ else v else z29
def kc (v : S29) : List Value := .int .i64 (keyC v) :: vc (keyV v)
theorem kk (a : Int) : (a == 0) = true ∨ ((a == 0) = false ∧ (a == 3) = true) ∨ ((a == 0) = false ∧ (a == 3) = false) := by
  by_cases h0 : a = 0
  · subst h0; simp
  · by_cases h3 : a = 3
    · subst h3; simp
    · simp [h0, h3]
set_option maxHeartbeats 4000000 in
set_option maxRecDepth 100000 in
theorem implKey_calls (v : S29) (w : World) : Calls Tryd.prog 43 #[.agg (vc v).toArray] w fun e w' => e = .returned (.agg (kc v).toArray) ∧ Below w.heap.size w w' := by
  obtain ⟨a0, a1, a2, a3, a4⟩ := v
  unfold kc keyV keyC wholeB vc
  simp only []
  have hu := Tryd.underlying29
  have hu2 := Tryd.underlying74
  have BKV := blk_below (heap_alloc_new w (.cells #[.int .i64 a0, .int .i64 a1, .float .f64 a2, .string a3, .int .i64 a4] 29)) (below_alloc (Below.refl _ _) (.cells #[.int .i64 0, .int .i64 0, .int .i64 0, .float .f64 0, .string ⟨#[]⟩, .int .i64 0] 74))
  have BKR := heap_alloc_new (w.alloc (.cells #[.int .i64 a0, .int .i64 a1, .float .f64 a2, .string a3, .int .i64 a4] 29)) (.cells #[.int .i64 0, .int .i64 0, .int .i64 0, .float .f64 0, .string ⟨#[]⟩, .int .i64 0] 74)
  have HB := below_alloc (below_alloc (Below.refl w.heap.size w) (.cells #[.int .i64 a0, .int .i64 a1, .float .f64 a2, .string a3, .int .i64 a4] 29)) (.cells #[.int .i64 0, .int .i64 0, .int .i64 0, .float .f64 0, .string ⟨#[]⟩, .int .i64 0] 74)
  cases hv : vB ⟨a0, a1, a2, a3, a4⟩
  rotate_left
  rcases kk a0 with h0 | ⟨h0, h3⟩ | ⟨h0, h3⟩
  rotate_left
  cases hn : feq a2 a2
  rotate_left
  cases hg : fge a2 14114281232179134464
  rotate_left
  cases hl : flt a2 4890909195324358656
  rotate_left
  obtain ⟨hi, htr, -⟩ := in_range hg hl
  cases ht : feq a2 (fv_trunc_ a2)
  all_goals
    go_enter Tryd.func43, Tryd.ntmps43
    go_wp2_with (go_at_call 24; refine (valid_calls ⟨_, _, _, _, _⟩ _).mono ?_; rintro e w1 ⟨rfl, hb⟩; rw [hv]; replace BKV := blk_below BKV hb; replace BKR := blk_below BKR hb; replace HB := below_step HB hb; rw [show (w.alloc (.cells #[.int .i64 a0, .int .i64 a1, .float .f64 a2, .string a3, .int .i64 a4] 29)).heap.size = w.heap.size + 1 by simp] at BKR; have z0 : w1.cell? ⟨w.heap.size, 0, none⟩ = some (.int .i64 a0) := (blk_cell BKV 0).trans rfl; have z1 : w1.cell? ⟨w.heap.size, 1, none⟩ = some (.int .i64 a1) := (blk_cell BKV 1).trans rfl; have z2 : w1.cell? ⟨w.heap.size, 2, none⟩ = some (.float .f64 a2) := (blk_cell BKV 2).trans rfl; have z3 : w1.cell? ⟨w.heap.size, 3, none⟩ = some (.string a3) := (blk_cell BKV 3).trans rfl; have z4 : w1.cell? ⟨w.heap.size, 4, none⟩ = some (.int .i64 a4) := (blk_cell BKV 4).trans rfl; have r0 : w1.cell? ⟨w.heap.size + 1, 0, none⟩ = some (.int .i64 0) := (blk_cell BKR 0).trans rfl; have r1 : w1.cell? ⟨w.heap.size + 1, 1, none⟩ = some (.int .i64 0) := (blk_cell BKR 1).trans rfl; have r2 : w1.cell? ⟨w.heap.size + 1, 2, none⟩ = some (.int .i64 0) := (blk_cell BKR 2).trans rfl; have r3 : w1.cell? ⟨w.heap.size + 1, 3, none⟩ = some (.float .f64 0) := (blk_cell BKR 3).trans rfl; have r4 : w1.cell? ⟨w.heap.size + 1, 4, none⟩ = some (.string ⟨#[]⟩) := (blk_cell BKR 4).trans rfl; have r5 : w1.cell? ⟨w.heap.size + 1, 5, none⟩ = some (.int .i64 0) := (blk_cell BKR 5).trans rfl; have f0 := blk_frozen BKR 0; have f1 := blk_frozen BKR 1; have f2 := blk_frozen BKR 2; have f3 := blk_frozen BKR 3; have f4 := blk_frozen BKR 4; have f5 := blk_frozen BKR 5)
    repeat (go_quiet (first | (go_at_call 56; refine (Trunc_calls _ _ htr).mono ?_; rintro e w2 ⟨rfl, ⟨nd, rfl⟩⟩; (try first | exact ⟨rfl, _, World.drewN_drewN _ _ _⟩ | exact ⟨rfl, _, Eq.trans (World.drewN_drewN _ _ _) (congrArg (World.drewN _) (Nat.add_assoc _ _ _))⟩))); try go_wp2)
    first
      | (refine bodyPost_ret (results_cell_row rfl _ _ (w.heap.size + 1) 74 #[.int .i64 2, .int .i64 0, .int .i64 0, .float .f64 0, .string (⟨#[]⟩ : ByteArray), .int .i64 0] (0, 0) _ rfl (by first | exact blk_set (blk_set (blk_set (blk_set (blk_set (blk_set BKR 0 _) 1 _) 2 _) 3 _) 4 _) 5 _ | exact blk_set (blk_set (blk_set (blk_set (blk_set (blk_set (blk_drewN BKR _) 0 _) 1 _) 2 _) 3 _) 4 _) 5 _) hu2 rfl (by kernel_rfl)) rfl ?_)
      | (refine bodyPost_ret (results_cell_row rfl _ _ (w.heap.size + 1) 74 #[.int .i64 1, .int .i64 0, .int .i64 0, .float .f64 0, .string (⟨#[]⟩ : ByteArray), .int .i64 0] (0, 0) _ rfl (by first | exact blk_set (blk_set (blk_set (blk_set (blk_set (blk_set BKR 0 _) 1 _) 2 _) 3 _) 4 _) 5 _ | exact blk_set (blk_set (blk_set (blk_set (blk_set (blk_set (blk_drewN BKR _) 0 _) 1 _) 2 _) 3 _) 4 _) 5 _) hu2 rfl (by kernel_rfl)) rfl ?_)
      | (refine bodyPost_ret (results_cell_row rfl _ _ (w.heap.size + 1) 74 #[.int .i64 0, .int .i64 2, .int .i64 (fv_int a2), .float .f64 0, .string (⟨#[]⟩ : ByteArray), .int .i64 0] (0, 0) _ rfl (by first | exact blk_set (blk_set (blk_set (blk_set (blk_set (blk_set BKR 0 _) 1 _) 2 _) 3 _) 4 _) 5 _ | exact blk_set (blk_set (blk_set (blk_set (blk_set (blk_set (blk_drewN BKR _) 0 _) 1 _) 2 _) 3 _) 4 _) 5 _) hu2 rfl (by kernel_rfl)) rfl ?_)
      | (refine bodyPost_ret (results_cell_row rfl _ _ (w.heap.size + 1) 74 #[.int .i64 0, .int .i64 a0, .int .i64 a1, .float .f64 a2, .string a3, .int .i64 a4] (0, 0) _ rfl (by first | exact blk_set (blk_set (blk_set (blk_set (blk_set (blk_set BKR 0 _) 1 _) 2 _) 3 _) 4 _) 5 _ | exact blk_set (blk_set (blk_set (blk_set (blk_set (blk_set (blk_drewN BKR _) 0 _) 1 _) 2 _) 3 _) 4 _) 5 _) hu2 rfl (by kernel_rfl)) rfl ?_)
    refine ⟨?_, ?_⟩
    · clear BKV BKR HB hu hu2
      simp [*, z29]
    · repeat (first | with_reducible exact HB | with_reducible refine below_set ?_ (Nat.le_add_right _ 1) | with_reducible apply pw_below_drewN)
end Go.Proofs.YtclploookcjcbaaDoor.PIde
namespace Go.Proofs.YtclploookcjcbaaDoor.PIde
open Go.RowKit Go.Proofs.YtclploookcjcbaaDoorW.PrintWords Go.Proofs.YtclploookcjcbaaDoorW.PrintLast Go.Proofs.YtclploookcjcbaaDoorW.PrintMore Go.Proofs.YtclploookcjcbaaDoorW.FltL
attribute [local go_sem] max2_int min2_int max_two min_two max_three min_three max_four min_four   -- for this text's walks alone
set_option linter.unusedVariables false
set_option linter.unusedSimpArgs false
theorem nan_calls (f : Nat) (w : World) : Calls Tryd.prog 51 #[.float .f64 f] w fun e w' => e = .returned (.bool (!feq f f)) ∧ Drawn0 w w' := by
  go_enter Tryd.func51, Tryd.ntmps51
  go_wp2
  go_ret
  exact ⟨rfl, Drawn0.refl _⟩
def floorV (f : Nat) : Nat := if feq f 0 = true then f else if fge f 4890909195324358656 = true then f else if fle f 14114281232179134464 = true then f else if fgt (floatOfInt .f64 (fv_int f)) f = true then fv_sub (floatOfInt .f64 (fv_int f)) 4607182418800017408 else floatOfInt .f64 (fv_int f)
set_option maxHeartbeats 4000000 in
set_option maxRecDepth 100000 in
theorem floor_calls (f : Nat) (hn : feq f f = true) (w : World) : Calls Tryd.prog 52 #[.float .f64 f] w fun e w' => e = .returned (.float .f64 (floorV f)) ∧ Drawn0 w w' := by
  have H : feq f 0 = false → fge f 4890909195324358656 = false → fle f 14114281232179134464 = false → fok_int f = true ∧ (fgt (floatOfInt .f64 (fv_int f)) f = true → fok_sub (floatOfInt .f64 (fv_int f)) 4607182418800017408 = true) := fun _ h1 h2 => by
    obtain ⟨h3, h4⟩ := some_side hn h1 h2
    obtain ⟨g1, g2, g3, -⟩ := in_range h3 h4
    exact ⟨g1, fun h => (g3 h).1⟩
  unfold floorV
  cases h0 : feq f 0
  cases h1 : fge f 4890909195324358656
  cases h2 : fle f 14114281232179134464
  obtain ⟨hi, hs⟩ := H h0 h1 h2
  cases h3 : fgt (floatOfInt .f64 (fv_int f)) f
  rotate_left
  have hk := hs h3
  rotate_left
  all_goals
    go_enter Tryd.func52, Tryd.ntmps52
    go_wp2_with (go_at_call 51; refine (nan_calls _ _).mono ?_; rintro e w1 ⟨rfl, ⟨nd, rfl⟩⟩; rw [hn])
    go_ret
    exact ⟨by simp [*], by first | exact Drawn0.refl _ | exact ⟨_, rfl⟩⟩
theorem floor_trunc (f : Nat) (hn : feq f f = true) (hg : fge f 14114281232179134464 = true) (hl : flt f 4890909195324358656 = true) : feq f (floorV f) = feq f (fv_trunc_ f) := by
  obtain ⟨-, -, g3, g4, g5, g6⟩ := in_range hg hl
  unfold floorV
  split
  · rename_i h; rw [hn, g5 h]
  split
  · rename_i h1
    exfalso
    obtain ⟨s, m, e, hr⟩ := range_number hg hl
    obtain ⟨_, he⟩ := read_number f hr
    rw [fge_V 1100 (by omega) hr word_top he (by omega)] at h1
    rw [flt_V 1100 (by omega) hr word_top he (by omega)] at hl
    have := of_decide_eq_true h1
    have := of_decide_eq_true hl
    omega
  split
  · rename_i h; rw [hn, g6 h]
  split
  · rename_i h; obtain ⟨_, q2, q3⟩ := g3 h; rw [q2, q3]
  · rename_i h; exact g4 (by simpa using h)
theorem whole_eq (f : Nat) (hn : feq f f = true) : (fge f 14114281232179134464 && (flt f 4890909195324358656 && feq f (fv_trunc_ f))) = (feq f (floorV f) && (fge f 14114281232179134464 && flt f 4890909195324358656)) := by
  cases hg : fge f 14114281232179134464
  · simp
  · cases hl : flt f 4890909195324358656
    · simp
    · rw [floor_trunc f hn hg hl]; simp
set_option maxHeartbeats 1000000 in
set_option maxRecDepth 100000 in
theorem int_calls (n : Int) (w : World) : Calls Tryd.prog 53 #[.int .i64 n] w fun e w' => e = .returned (.agg #[.int .i64 2, .int .i64 n, .float .f64 0, .string (⟨#[]⟩ : ByteArray), .int .i64 0]) ∧ Below w.heap.size w w' := by
  have hu := Tryd.underlying29
  have BKR := heap_alloc_new w (.cells #[.int .i64 0, .int .i64 0, .float .f64 0, .string ⟨#[]⟩, .int .i64 0] 29)
  go_enter Tryd.func53, Tryd.ntmps53
  go_wp2
  exact bodyPost_ret (results_cell_row rfl _ _ w.heap.size 29 _ (0, 0) _ rfl (heap_alloc_new w _) hu rfl (by kernel_rfl)) rfl ⟨rfl, below_alloc (Below.refl _ _) _⟩
theorem c5 {w : World} {g : Nat} {t : TypeId} {x0 x1 x2 x3 x4 : Value} (h : w.heap[g]? = some (.cells #[x0, x1, x2, x3, x4] t (0, 0))) : w.cell? ⟨g, 0, none⟩ = some x0 ∧ w.cell? ⟨g, 1, none⟩ = some x1 ∧ w.cell? ⟨g, 2, none⟩ = some x2 ∧ w.cell? ⟨g, 3, none⟩ = some x3 ∧ w.cell? ⟨g, 4, none⟩ = some x4 := by
  have e := fun j => blk_cell h j
  refine ⟨?_, ?_, ?_, ?_, ?_⟩ <;> rw [e] <;> rfl
theorem c6 {w : World} {g : Nat} {t : TypeId} {x0 x1 x2 x3 x4 x5 : Value} (h : w.heap[g]? = some (.cells #[x0, x1, x2, x3, x4, x5] t (0, 0))) : w.cell? ⟨g, 0, none⟩ = some x0 ∧ w.cell? ⟨g, 1, none⟩ = some x1 ∧ w.cell? ⟨g, 2, none⟩ = some x2 ∧ w.cell? ⟨g, 3, none⟩ = some x3 ∧ w.cell? ⟨g, 4, none⟩ = some x4 ∧ w.cell? ⟨g, 5, none⟩ = some x5 := by
  have e := fun j => blk_cell h j
  refine ⟨?_, ?_, ?_, ?_, ?_, ?_⟩ <;> rw [e] <;> rfl
theorem f6 {w : World} {g : Nat} {t : TypeId} {cs : Array Value} (h : w.heap[g]? = some (.cells cs t (0, 0))) : w.frozen? ⟨g, 0, none⟩ = false ∧ w.frozen? ⟨g, 1, none⟩ = false ∧ w.frozen? ⟨g, 2, none⟩ = false ∧ w.frozen? ⟨g, 3, none⟩ = false ∧ w.frozen? ⟨g, 4, none⟩ = false ∧ w.frozen? ⟨g, 5, none⟩ = false :=
  ⟨blk_frozen h 0, blk_frozen h 1, blk_frozen h 2, blk_frozen h 3, blk_frozen h 4, blk_frozen h 5⟩
set_option maxHeartbeats 4000000 in
set_option maxRecDepth 100000 in
theorem specKey_calls (v : S29) (w : World) : Calls Tryd.prog 38 #[.agg (vc v).toArray] w fun e w' => e = .returned (.agg (kc v).toArray) ∧ Below w.heap.size w w' := by
  obtain ⟨a0, a1, a2, a3, a4⟩ := v
  unfold kc keyV keyC wholeB vc
  simp only []
  have hu := Tryd.underlying29
  have hu2 := Tryd.underlying74
  have BKV := blk_below (heap_alloc_new w (.cells #[.int .i64 a0, .int .i64 a1, .float .f64 a2, .string a3, .int .i64 a4] 29)) (below_alloc (Below.refl _ _) (.cells #[.int .i64 0, .int .i64 0, .int .i64 0, .float .f64 0, .string ⟨#[]⟩, .int .i64 0] 74))
  have BKR := heap_alloc_new (w.alloc (.cells #[.int .i64 a0, .int .i64 a1, .float .f64 a2, .string a3, .int .i64 a4] 29)) (.cells #[.int .i64 0, .int .i64 0, .int .i64 0, .float .f64 0, .string ⟨#[]⟩, .int .i64 0] 74)
  rw [show (w.alloc (.cells #[.int .i64 a0, .int .i64 a1, .float .f64 a2, .string a3, .int .i64 a4] 29)).heap.size = w.heap.size + 1 by simp] at BKR
  have HB := below_alloc (below_alloc (Below.refl w.heap.size w) (.cells #[.int .i64 a0, .int .i64 a1, .float .f64 a2, .string a3, .int .i64 a4] 29)) (.cells #[.int .i64 0, .int .i64 0, .int .i64 0, .float .f64 0, .string ⟨#[]⟩, .int .i64 0] 74)
  cases hv : vB ⟨a0, a1, a2, a3, a4⟩
  rotate_left
  rcases kk a0 with h0 | ⟨h0, h3⟩ | ⟨h0, h3⟩
  rotate_left
  cases hn : feq a2 a2
  rotate_left
  rw [whole_eq a2 hn]
  cases ht : feq a2 (floorV a2)
  rotate_left
  cases hg : fge a2 14114281232179134464
  rotate_left
  cases hl : flt a2 4890909195324358656
  rotate_left
  obtain ⟨hi, -, -⟩ := in_range hg hl
  all_goals
    go_enter Tryd.func38, Tryd.ntmps38
    go_wp2_with (first | (go_at_call 51; refine (nan_calls _ _).mono ?_; rintro e w1 ⟨rfl, ⟨nd, rfl⟩⟩; rw [hn]) | (go_at_call 19; refine (ValueOk_calls ⟨_, _, _, _, _⟩ _).mono ?_; rintro e w1 ⟨rfl, hb⟩; rw [hv]; replace BKV := blk_below BKV hb; replace BKR := blk_below BKR hb; replace HB := below_step HB hb; obtain ⟨z0, z1, z2, z3, z4⟩ := c5 BKV; obtain ⟨r0, r1, r2, r3, r4, r5⟩ := c6 BKR; obtain ⟨f0, f1, f2, f3, f4, f5⟩ := f6 BKR))
    try
      go_quiet (first | (go_at_call 52; refine (floor_calls _ hn _).mono ?_; rintro e w2 ⟨rfl, ⟨nd, rfl⟩⟩; (try first | exact ⟨rfl, _, World.drewN_drewN _ _ _⟩ | exact ⟨rfl, _, Eq.trans (World.drewN_drewN _ _ _) (congrArg (World.drewN _) (Nat.add_assoc _ _ _))⟩)))
      go_wp2_with (go_at_call 53; refine (int_calls _ _).mono ?_; rintro e w2 ⟨rfl, hb⟩; replace BKV := blk_below (blk_drewN BKV _) hb; replace BKR := blk_below (blk_drewN BKR _) hb; replace HB := below_step (pw_below_drewN HB _) hb; obtain ⟨z0, z1, z2, z3, z4⟩ := c5 BKV; obtain ⟨r0, r1, r2, r3, r4, r5⟩ := c6 BKR; obtain ⟨f0, f1, f2, f3, f4, f5⟩ := f6 BKR)
    first
      | (refine bodyPost_ret (results_cell_row rfl _ _ (w.heap.size + 1) 74 #[.int .i64 2, .int .i64 0, .int .i64 0, .float .f64 0, .string (⟨#[]⟩ : ByteArray), .int .i64 0] (0, 0) _ rfl (by first | exact blk_set (blk_set (blk_set (blk_set (blk_set (blk_set BKR 0 _) 1 _) 2 _) 3 _) 4 _) 5 _ | exact blk_set (blk_set (blk_set (blk_set (blk_set (blk_set (blk_drewN BKR _) 0 _) 1 _) 2 _) 3 _) 4 _) 5 _) hu2 rfl (by kernel_rfl)) rfl ?_)
      | (refine bodyPost_ret (results_cell_row rfl _ _ (w.heap.size + 1) 74 #[.int .i64 1, .int .i64 0, .int .i64 0, .float .f64 0, .string (⟨#[]⟩ : ByteArray), .int .i64 0] (0, 0) _ rfl (by first | exact blk_set (blk_set (blk_set (blk_set (blk_set (blk_set BKR 0 _) 1 _) 2 _) 3 _) 4 _) 5 _ | exact blk_set (blk_set (blk_set (blk_set (blk_set (blk_set (blk_drewN BKR _) 0 _) 1 _) 2 _) 3 _) 4 _) 5 _) hu2 rfl (by kernel_rfl)) rfl ?_)
      | (refine bodyPost_ret (results_cell_row rfl _ _ (w.heap.size + 1) 74 #[.int .i64 0, .int .i64 2, .int .i64 (fv_int a2), .float .f64 0, .string (⟨#[]⟩ : ByteArray), .int .i64 0] (0, 0) _ rfl (by first | exact blk_set (blk_set (blk_set (blk_set (blk_set (blk_set BKR 0 _) 1 _) 2 _) 3 _) 4 _) 5 _ | exact blk_set (blk_set (blk_set (blk_set (blk_set (blk_set (blk_drewN BKR _) 0 _) 1 _) 2 _) 3 _) 4 _) 5 _) hu2 rfl (by kernel_rfl)) rfl ?_)
      | (refine bodyPost_ret (results_cell_row rfl _ _ (w.heap.size + 1) 74 #[.int .i64 0, .int .i64 a0, .int .i64 a1, .float .f64 a2, .string a3, .int .i64 a4] (0, 0) _ rfl (by first | exact blk_set (blk_set (blk_set (blk_set (blk_set (blk_set BKR 0 _) 1 _) 2 _) 3 _) 4 _) 5 _ | exact blk_set (blk_set (blk_set (blk_set (blk_set (blk_set (blk_drewN BKR _) 0 _) 1 _) 2 _) 3 _) 4 _) 5 _) hu2 rfl (by kernel_rfl)) rfl ?_)
    refine ⟨?_, ?_⟩
    · clear BKV BKR HB hu hu2
      simp [*, z29]
    · repeat (first | with_reducible exact HB | with_reducible refine below_set ?_ (Nat.le_add_right _ 1) | with_reducible apply pw_below_drewN)
end Go.Proofs.YtclploookcjcbaaDoor.PIde
namespace Go.Proofs.YtclploookcjcbaaDoor.PIde
open Go.RowKit Go.Proofs.YtclploookcjcbaaDoorW.PrintWords Go.Proofs.YtclploookcjcbaaDoorW.PrintLast Go.Proofs.YtclploookcjcbaaDoorW.PrintMore
attribute [local go_sem] max2_int min2_int max_two min_two max_three min_three max_four min_four   -- for this text's walks alone
set_option linter.unusedVariables false
set_option linter.unusedSimpArgs false
theorem wants_calls (n : Int) (w : World) : Calls Tryd.prog 37 #[.int .i64 n] w fun e w' => e = .returned (.tuple #[.bool (!(n == 1) && !(n == 7)), .bool (n == 8 || n == 9)]) ∧ w' = w := by
  go_enter Tryd.func37, Tryd.ntmps37
  go_wp2
  all_goals
    go_ret2
    exact ⟨by simp_all [bne], rfl⟩
def strK (s : ByteArray) : S29 := ⟨4, 0, 0, s, 0⟩
set_option maxHeartbeats 1000000 in
set_option maxRecDepth 100000 in
theorem str_calls (s : ByteArray) (w : World) : Calls Tryd.prog 41 #[.string s] w fun e w' => e = .returned (.agg (vc (strK s)).toArray) ∧ Below w.heap.size w w' := by
  have hu := Tryd.underlying29
  go_enter Tryd.func41, Tryd.ntmps41
  go_wp2
  exact bodyPost_ret (results_cell_row rfl _ _ w.heap.size 29 _ (0, 0) _ rfl (heap_alloc_new w _) hu rfl (by kernel_rfl)) rfl ⟨rfl, below_alloc (Below.refl _ _) _⟩
def likeB (a b : S29) : Bool := a.f0 == b.f0 && (a.f1 == b.f1 && (feq a.f2 b.f2 && (a.f3.toList == b.f3.toList && a.f4 == b.f4)))
set_option maxHeartbeats 1000000 in
set_option maxRecDepth 100000 in
theorem like_calls (a b : S29) (w : World) : Calls Tryd.prog 62 #[.agg (vc a).toArray, .agg (vc b).toArray] w fun e w' => e = .returned (.bool (likeB a b)) ∧ Below w.heap.size w w' := by
  obtain ⟨a0, a1, a2, a3, a4⟩ := a
  obtain ⟨b0, b1, b2, b3, b4⟩ := b
  unfold likeB vc
  simp only []
  have hu := Tryd.underlying29
  go_enter Tryd.func62, Tryd.ntmps62
  go_wp2
  all_goals
    go_ret
    refine ⟨?_, ?_⟩
    rotate_left
    · repeat (first | with_reducible exact Below.refl _ _ | apply below_alloc | apply pw_below_drewN)
    · simp_all
/-- The place of a key, as the reference finds it: -1 for none. -/
def idxL (k : S29) : List S88 → Int
  | [] => -1
  | p :: ps => if likeB p.f0 k = true then 0 else if idxL k ps = -1 then -1 else idxL k ps + 1
theorem idxL_none (k : S29) : ∀ ps : List S88, (∀ i : Nat, i < ps.length → likeB (ps.getD i z88).f0 k = false) → idxL k ps = -1
  | [], _ => rfl
  | p :: ps, h => by
    have h0 := h 0 (by simp)
    have ih := idxL_none k ps (fun i hi => by have := h (i + 1) (by simp; omega); simpa using this)
    simp only [List.getD_cons_zero] at h0
    unfold idxL
    rw [if_neg (by rw [h0]; simp), if_pos ih]
theorem idxL_at (k : S29) : ∀ (ps : List S88) (n : Nat), n < ps.length → (∀ i : Nat, i < n → likeB (ps.getD i z88).f0 k = false) → likeB (ps.getD n z88).f0 k = true → idxL k ps = (n : Int)
  | [], n, hn, _, _ => by simp at hn
  | p :: ps, 0, hn, _, h => by
    simp only [List.getD_cons_zero] at h
    unfold idxL
    rw [if_pos h]
    rfl
  | p :: ps, n + 1, hn, h, h1 => by
    have h0 := h 0 (by omega)
    simp only [List.getD_cons_zero] at h0
    have ih := idxL_at k ps n (by simpa using hn) (fun i hi => by have := h (i + 1) (by omega); simpa using this) (by simpa using h1)
    unfold idxL
    rw [if_neg (by rw [h0]; simp), if_neg (by omega), ih]
    omega
set_option maxHeartbeats 4000000 in
set_option maxRecDepth 100000 in
theorem l5at_calls (ps : List S88) (tn : Int) (k : S29) (A : Option Addr) (c : Nat) (w : World) (hr : Kd.C k88 w A ps.length ps) :
    Calls Tryd.prog 54 #[.agg #[.slice A ps.length c, .int .i64 tn], .agg (vc k).toArray] w fun e w' => e = .returned (.int .i64 (idxL k ps)) ∧ Below w.heap.size w w' := by
  have HM := Aside0.mk hr.2.1
  have HR := Aside0.mk hr
  obtain ⟨k0, k1, k2, k3, k4⟩ := k
  have e0 : (vc ⟨k0, k1, k2, k3, k4⟩).toArray = #[.int .i64 k0, .int .i64 k1, .float .f64 k2, .string k3, .int .i64 k4] := rfl
  rw [e0]
  have HB := Aside0.mk (below_alloc (below_alloc (Below.refl w.heap.size w) (.cells #[.slice A ps.length c, .int .i64 tn] 78)) (.cells #[.int .i64 k0, .int .i64 k1, .float .f64 k2, .string k3, .int .i64 k4] 29))
  have BK := Aside0.mk (show ((w.alloc (.cells #[.slice A ps.length c, .int .i64 tn] 78)).alloc (.cells #[.int .i64 k0, .int .i64 k1, .float .f64 k2, .string k3, .int .i64 k4] 29)).heap[w.heap.size + 1]? = some (.cells #[.int .i64 k0, .int .i64 k1, .float .f64 k2, .string k3, .int .i64 k4] 29 (0, 0)) by simpa using heap_alloc_new (w.alloc (.cells #[.slice A ps.length c, .int .i64 tn] 78)) (.cells #[.int .i64 k0, .int .i64 k1, .float .f64 k2, .string k3, .int .i64 k4] 29))
  clear hr e0
  have hu := Tryd.underlying88
  have hu2 := Tryd.underlying78
  have hu3 := Tryd.underlying29
  go_enter Tryd.func54, Tryd.ntmps54
  go_wp2
  go_loopg [5, 10] ps.length (fun d v5 v10 wr => ∃ i : Nat, v10 = .int .i64 (i : Int) ∧ Aside0 (i + d = ps.length) ∧ Aside0 (∀ j : Nat, j < i → likeB (ps.getD j z88).f0 ⟨k0, k1, k2, k3, k4⟩ = false) ∧ Aside0 (Below w.heap.size w wr) ∧ Aside0 (wr.heap[w.heap.size + 1]? = some (.cells #[.int .i64 k0, .int .i64 k1, .float .f64 k2, .string k3, .int .i64 k4] 29 (0, 0))))
  case atStart => exact ⟨0, rfl, ⟨Nat.zero_add _⟩, ⟨fun j hj => absurd hj (Nat.not_lt_zero j)⟩, HB, BK⟩
  case round =>
    clear HB BK
    obtain ⟨i, rfl, HD, HN, HB, BK⟩ := hrel
    have hm := HM.out
    cases gk with
    | zero =>
      have c1 : decide ((i : Int) < (ps.length : Int)) = false := decide_eq_false (by have := HD.out; omega)
      have c1n : decide (i < ps.length) = false := decide_eq_false (by have := HD.out; omega)
      have HI := Aside0.mk (idxL_none ⟨k0, k1, k2, k3, k4⟩ ps (fun j hj => HN.out j (by have := HD.out; omega)))
      clear hm
      go_wp2
      go_ret
      exact ⟨by rw [HI.out]; first | rfl | simp, HB.out⟩
    | succ d =>
      have hi : i < ps.length := by have := HD.out; omega
      have c1 : decide ((i : Int) < (ps.length : Int)) = true := decide_eq_true (by omega)
      have c1n : decide (i < ps.length) = true := decide_eq_true hi
      have c2 : decide (0 ≤ (i : Int)) = true := decide_eq_true (by omega)
      obtain ⟨ad, e1, hx0, hx1, hx2, hx3, hx4, hx5, hx6, hx7, hx8, hx9, hx10⟩ := at_T88 (Kd.C_below HR.out HB.out) (i : Int) (by omega) (by omega)
      cases e1
      simp only [Int.toNat_natCast] at hx0 hx1 hx2 hx3 hx4 hx5 hx6 hx7 hx8 hx9 hx10
      have q1 : 0 ≤ (i : Int) := by omega
      have q2 : (i : Int) < (ps.length : Int) := by omega
      have q3 : IntKind.i64.wrap ((i : Int) + 1) = ((i + 1 : Nat) : Int) := by rw [IntWalk.i64_in _ ⟨by omega, by omega⟩]; omega
      have HS : Aside0 (rd_T88 ps (i : Int) = ps.getD i z88) := Aside0.mk (by simp [rd_T88])
      obtain ⟨z0, z1, z2, z3, z4⟩ := c5 BK.out
      have HI := Aside0.mk hi
      have hlt := blk_lt BK.out
      clear hm hi
      cases hs : likeB (rd_T88 ps (i : Int)).f0 ⟨k0, k1, k2, k3, k4⟩
      all_goals go_wp2_with (go_at_call 62; refine (like_calls (rd_T88 ps (i : Int)).f0 ⟨k0, k1, k2, k3, k4⟩ _).mono ?_; rintro e w1 ⟨rfl, hb⟩; have HB1 := Aside0.mk (below_step (below_alloc HB.out _) hb); have BK1 := Aside0.mk (blk_below (blk_below BK.out (below_alloc (Below.refl _ _) _)) hb); clear hb; rw [hs])
      · go_roundg d
        case measure => omega
        case rel => exact ⟨i + 1, by first | rfl | (rw [q3]; done) | simp, ⟨by have := HD.out; omega⟩, ⟨fun j hj => by
          by_cases h : j = i
          · subst h; rw [← HS.out]; exact hs
          · exact HN.out j (by omega)⟩, HB1, BK1⟩
      · go_ret
        exact ⟨by rw [idxL_at _ ps i HI.out HN.out (by rw [← HS.out]; exact hs)]; first | rfl | simp, HB1.out⟩
end Go.Proofs.YtclploookcjcbaaDoor.PIde
namespace Go.Proofs.YtclploookcjcbaaDoor.PIde
open Go.RowKit Go.Proofs.YtclploookcjcbaaDoorW.PrintWords Go.Proofs.YtclploookcjcbaaDoorW.PrintLast Go.Proofs.YtclploookcjcbaaDoorW.PrintMore
attribute [local go_sem] max2_int min2_int max_two min_two max_three min_three max_four min_four   -- for this text's walks alone
set_option linter.unusedVariables false
set_option linter.unusedSimpArgs false
/-- The first pair whose turn is above n; a zero pair where there is none. -/
def aftP (n : Int) : List S88 → S88
  | [] => z88
  | p :: ps => if n < p.f2 then p else aftP n ps
theorem aftP_none (n : Int) : ∀ ps : List S88, (∀ i : Nat, i < ps.length → ¬ n < (ps.getD i z88).f2) → aftP n ps = z88
  | [], _ => rfl
  | p :: ps, h => by
    have h0 := h 0 (by simp)
    simp only [List.getD_cons_zero] at h0
    unfold aftP
    rw [if_neg h0]
    exact aftP_none n ps (fun i hi => by have := h (i + 1) (by simp; omega); simpa using this)
theorem aftP_at (n : Int) : ∀ (ps : List S88) (m : Nat), m < ps.length → (∀ i : Nat, i < m → ¬ n < (ps.getD i z88).f2) → n < (ps.getD m z88).f2 → aftP n ps = ps.getD m z88
  | [], m, hm, _, _ => by simp at hm
  | p :: ps, 0, _, _, h => by
    simp only [List.getD_cons_zero] at h
    unfold aftP
    rw [if_pos h]
    rfl
  | p :: ps, m + 1, hm, h, h1 => by
    have h0 := h 0 (by omega)
    simp only [List.getD_cons_zero] at h0
    unfold aftP
    rw [if_neg h0, aftP_at n ps m (by simpa using hm) (fun i hi => by have := h (i + 1) (by omega); simpa using this) (by simpa using h1)]
    simp
theorem blk_alloc {w : World} {g : Nat} {o : Obj} (h : w.heap[g]? = some o) (o' : Obj) : (w.alloc o').heap[g]? = some o := blk_below h (below_alloc (Below.refl _ _) o')
/-- Twelve cells of a block, written one by one. -/
theorem set12 {w : World} {g : Nat} {t : TypeId} {x0 x1 x2 x3 x4 x5 x6 x7 x8 x9 x10 x11 u0 u1 u2 u3 u4 u5 u6 u7 u8 u9 u10 u11 : Value} (h : w.heap[g]? = some (.cells #[x0, x1, x2, x3, x4, x5, x6, x7, x8, x9, x10, x11] t (0, 0))) :
    ((((((((((((w.setCell ⟨g, 0, none⟩ u0).setCell ⟨g, 1, none⟩ u1).setCell ⟨g, 2, none⟩ u2).setCell ⟨g, 3, none⟩ u3).setCell ⟨g, 4, none⟩ u4).setCell ⟨g, 5, none⟩ u5).setCell ⟨g, 6, none⟩ u6).setCell ⟨g, 7, none⟩ u7).setCell ⟨g, 8, none⟩ u8).setCell ⟨g, 9, none⟩ u9).setCell ⟨g, 10, none⟩ u10).setCell ⟨g, 11, none⟩ u11).heap[g]? = some (.cells #[u0, u1, u2, u3, u4, u5, u6, u7, u8, u9, u10, u11] t (0, 0)) := by
  simpa using (blk_set (blk_set (blk_set (blk_set (blk_set (blk_set (blk_set (blk_set (blk_set (blk_set (blk_set (blk_set h 0 _) 1 _) 2 _) 3 _) 4 _) 5 _) 6 _) 7 _) 8 _) 9 _) 10 _) 11 _)
def FoundIs (p : S88) (e : Ending) : Prop := ∃ b, e = .returned (.agg #[.bool b, .int .i64 p.f0.f0, .int .i64 p.f0.f1, .float .f64 p.f0.f2, .string p.f0.f3, .int .i64 p.f0.f4, .int .i64 p.f1.f0, .int .i64 p.f1.f1, .float .f64 p.f1.f2, .string p.f1.f3, .int .i64 p.f1.f4, .int .i64 p.f2])
set_option maxHeartbeats 4000000 in
set_option maxRecDepth 100000 in
theorem after_calls (ps : List S88) (n : Int) (hn : 0 ≤ n) (A : Option Addr) (c : Nat) (w : World) (hr : Kd.C k88 w A ps.length ps) :
    Calls Tryd.prog 55 #[.slice A ps.length c, .int .i64 n] w fun e w' => FoundIs (aftP n ps) e ∧ Below w.heap.size w w' := by
  have HM := Aside0.mk hr.2.1
  have HR := Aside0.mk hr
  have HZ := Aside0.mk hn
  have HB := Aside0.mk (below_alloc (Below.refl w.heap.size w) (.cells #[.bool false, .int .i64 0, .int .i64 0, .float .f64 0, .string ⟨#[]⟩, .int .i64 0, .int .i64 0, .int .i64 0, .float .f64 0, .string ⟨#[]⟩, .int .i64 0, .int .i64 0] 99))
  have BK := Aside0.mk (heap_alloc_new w (.cells #[.bool false, .int .i64 0, .int .i64 0, .float .f64 0, .string ⟨#[]⟩, .int .i64 0, .int .i64 0, .int .i64 0, .float .f64 0, .string ⟨#[]⟩, .int .i64 0, .int .i64 0] 99))
  clear hr hn
  have hu := Tryd.underlying88
  have hu2 := Tryd.underlying99
  go_enter Tryd.func55, Tryd.ntmps55
  go_wp2
  go_loopg [9] ps.length (fun d v9 wr => ∃ i : Nat, v9 = .int .i64 (i : Int) ∧ Aside0 (i + d = ps.length) ∧ Aside0 (∀ j : Nat, j < i → (ps.getD j z88).f2 ≤ n) ∧ Aside0 (Below w.heap.size w wr) ∧ Aside0 (wr.heap[w.heap.size]? = some (.cells #[.bool false, .int .i64 0, .int .i64 0, .float .f64 0, .string ⟨#[]⟩, .int .i64 0, .int .i64 0, .int .i64 0, .float .f64 0, .string ⟨#[]⟩, .int .i64 0, .int .i64 0] 99 (0, 0))))
  case atStart => exact ⟨0, rfl, ⟨Nat.zero_add _⟩, ⟨fun j hj => absurd hj (Nat.not_lt_zero j)⟩, HB, BK⟩
  case round =>
    clear HB BK
    obtain ⟨i, rfl, HD, HN, HB, BK⟩ := hrel
    have hm := HM.out
    have hlt := blk_lt BK.out
    obtain ⟨f0, f1, f2, f3, f4, f5⟩ := f6 BK.out
    have f6 := blk_frozen BK.out 6
    have f7 := blk_frozen BK.out 7
    have f8 := blk_frozen BK.out 8
    have f9 := blk_frozen BK.out 9
    have f10 := blk_frozen BK.out 10
    have f11 := blk_frozen BK.out 11
    have x0 : wr.cell? ⟨w.heap.size, 0, none⟩ = some (.bool false) := (blk_cell BK.out 0).trans rfl
    have x1 : wr.cell? ⟨w.heap.size, 1, none⟩ = some (.int .i64 0) := (blk_cell BK.out 1).trans rfl
    have x2 : wr.cell? ⟨w.heap.size, 2, none⟩ = some (.int .i64 0) := (blk_cell BK.out 2).trans rfl
    have x3 : wr.cell? ⟨w.heap.size, 3, none⟩ = some (.float .f64 0) := (blk_cell BK.out 3).trans rfl
    have x4 : wr.cell? ⟨w.heap.size, 4, none⟩ = some (.string ⟨#[]⟩) := (blk_cell BK.out 4).trans rfl
    have x5 : wr.cell? ⟨w.heap.size, 5, none⟩ = some (.int .i64 0) := (blk_cell BK.out 5).trans rfl
    have x6 : wr.cell? ⟨w.heap.size, 6, none⟩ = some (.int .i64 0) := (blk_cell BK.out 6).trans rfl
    have x7 : wr.cell? ⟨w.heap.size, 7, none⟩ = some (.int .i64 0) := (blk_cell BK.out 7).trans rfl
    have x8 : wr.cell? ⟨w.heap.size, 8, none⟩ = some (.float .f64 0) := (blk_cell BK.out 8).trans rfl
    have x9 : wr.cell? ⟨w.heap.size, 9, none⟩ = some (.string ⟨#[]⟩) := (blk_cell BK.out 9).trans rfl
    have x10 : wr.cell? ⟨w.heap.size, 10, none⟩ = some (.int .i64 0) := (blk_cell BK.out 10).trans rfl
    have x11 : wr.cell? ⟨w.heap.size, 11, none⟩ = some (.int .i64 0) := (blk_cell BK.out 11).trans rfl
    cases gk with
    | zero =>
      have c1 : decide ((i : Int) < (ps.length : Int)) = false := decide_eq_false (by have := HD.out; omega)
      have c1n : decide (i < ps.length) = false := decide_eq_false (by have := HD.out; omega)
      have HI := Aside0.mk (aftP_none n ps (fun j hj => by have := HN.out j (by have := HD.out; omega); omega))
      clear hm
      go_wp2
      refine bodyPost_ret (results_cell_row rfl _ _ w.heap.size 99 #[.bool false, .int .i64 0, .int .i64 0, .float .f64 0, .string ⟨#[]⟩, .int .i64 0, .int .i64 0, .int .i64 0, .float .f64 0, .string ⟨#[]⟩, .int .i64 0, .int .i64 0] (0, 0) _ rfl (set12 BK.out) hu2 rfl (by kernel_rfl)) rfl ⟨⟨false, by rw [HI.out]; rfl⟩, ?_⟩
      repeat (first | with_reducible exact HB.out | with_reducible refine below_set ?_ (Nat.le_refl _))
    | succ d =>
      have hi : i < ps.length := by have := HD.out; omega
      have c1 : decide ((i : Int) < (ps.length : Int)) = true := decide_eq_true (by omega)
      have c1n : decide (i < ps.length) = true := decide_eq_true hi
      have c2 : decide (0 ≤ (i : Int)) = true := decide_eq_true (by omega)
      obtain ⟨ad, e1, hx0, hx1, hx2, hx3, hx4, hx5, hx6, hx7, hx8, hx9, hx10⟩ := at_T88 (Kd.C_below HR.out HB.out) (i : Int) (by omega) (by omega)
      cases e1
      simp only [Int.toNat_natCast] at hx0 hx1 hx2 hx3 hx4 hx5 hx6 hx7 hx8 hx9 hx10
      have q1 : 0 ≤ (i : Int) := by omega
      have q2 : (i : Int) < (ps.length : Int) := by omega
      have q3 : IntKind.i64.wrap ((i : Int) + 1) = ((i + 1 : Nat) : Int) := by rw [IntWalk.i64_in _ ⟨by omega, by omega⟩]; omega
      have HS : Aside0 (rd_T88 ps (i : Int) = ps.getD i z88) := Aside0.mk (by simp [rd_T88])
      have HI := Aside0.mk hi
      have HB1 := Aside0.mk (below_alloc HB.out (.cells #[.int .i64 (rd_T88 ps (i : Int)).f0.f0, .int .i64 (rd_T88 ps (i : Int)).f0.f1, .float .f64 (rd_T88 ps (i : Int)).f0.f2, .string (rd_T88 ps (i : Int)).f0.f3, .int .i64 (rd_T88 ps (i : Int)).f0.f4, .int .i64 (rd_T88 ps (i : Int)).f1.f0, .int .i64 (rd_T88 ps (i : Int)).f1.f1, .float .f64 (rd_T88 ps (i : Int)).f1.f2, .string (rd_T88 ps (i : Int)).f1.f3, .int .i64 (rd_T88 ps (i : Int)).f1.f4, .int .i64 (rd_T88 ps (i : Int)).f2] 88))
      have BK1 := Aside0.mk (blk_below BK.out (below_alloc (Below.refl _ _) (.cells #[.int .i64 (rd_T88 ps (i : Int)).f0.f0, .int .i64 (rd_T88 ps (i : Int)).f0.f1, .float .f64 (rd_T88 ps (i : Int)).f0.f2, .string (rd_T88 ps (i : Int)).f0.f3, .int .i64 (rd_T88 ps (i : Int)).f0.f4, .int .i64 (rd_T88 ps (i : Int)).f1.f0, .int .i64 (rd_T88 ps (i : Int)).f1.f1, .float .f64 (rd_T88 ps (i : Int)).f1.f2, .string (rd_T88 ps (i : Int)).f1.f3, .int .i64 (rd_T88 ps (i : Int)).f1.f4, .int .i64 (rd_T88 ps (i : Int)).f2] 88)))
      clear hm hi
      by_cases hs : n < (rd_T88 ps (i : Int)).f2
      · have hz : 0 < (rd_T88 ps (i : Int)).f2 := by have := HZ.out; omega
        go_wp2
        refine bodyPost_ret (results_cell_row rfl _ _ w.heap.size 99 #[.bool true, .int .i64 (rd_T88 ps (i : Int)).f0.f0, .int .i64 (rd_T88 ps (i : Int)).f0.f1, .float .f64 (rd_T88 ps (i : Int)).f0.f2, .string (rd_T88 ps (i : Int)).f0.f3, .int .i64 (rd_T88 ps (i : Int)).f0.f4, .int .i64 (rd_T88 ps (i : Int)).f1.f0, .int .i64 (rd_T88 ps (i : Int)).f1.f1, .float .f64 (rd_T88 ps (i : Int)).f1.f2, .string (rd_T88 ps (i : Int)).f1.f3, .int .i64 (rd_T88 ps (i : Int)).f1.f4, .int .i64 (rd_T88 ps (i : Int)).f2] (0, 0) _ rfl (blk_alloc (set12 BK.out) _) hu2 rfl (by kernel_rfl)) rfl ⟨⟨true, by rw [aftP_at n ps i HI.out (fun j hj => by have := HN.out j hj; omega) (by rw [← HS.out]; exact hs), ← HS.out]⟩, ?_⟩
        repeat (first | with_reducible exact HB.out | with_reducible refine below_alloc ?_ _ | with_reducible refine below_set ?_ (Nat.le_refl _))
      · go_wp2
        all_goals
          go_roundg d
          case measure => omega
          case rel => exact ⟨i + 1, by first | rfl | (rw [q3]; done) | simp, ⟨by have := HD.out; omega⟩, ⟨fun j hj => by
            by_cases h : j = i
            · subst h; rw [← HS.out]; omega
            · exact HN.out j (by omega)⟩, HB1, BK1⟩
end Go.Proofs.YtclploookcjcbaaDoor.PIde
namespace Go.Proofs.YtclploookcjcbaaDoor.PIde
open Go.RowKit Go.Proofs.YtclploookcjcbaaDoorW.PrintWords Go.Proofs.YtclploookcjcbaaDoorW.PrintLast Go.Proofs.YtclploookcjcbaaDoorW.PrintMore
attribute [local go_sem] max2_int min2_int max_two min_two max_three min_three max_four min_four   -- for this text's walks alone
set_option linter.unusedVariables false
set_option linter.unusedSimpArgs false
/-- An act's cells. -/
def ac (x : S31) : List Value := [.int .i64 x.f0, .int .i64 x.f1, .int .i64 x.f2, .int .i64 x.f3] ++ vc x.f4 ++ vc x.f5
def noneB (v : S29) : Bool := v.f0 == 0 && vB v
set_option maxHeartbeats 2000000 in
set_option maxRecDepth 100000 in
theorem none_calls (v : S29) (w : World) : Calls Tryd.prog 36 #[.agg (vc v).toArray] w fun e w' => e = .returned (.bool (noneB v)) ∧ Below w.heap.size w w' := by
  obtain ⟨a0, a1, a2, a3, a4⟩ := v
  unfold vc noneB
  simp only []
  have hu := Tryd.underlying29
  go_enter Tryd.func36, Tryd.ntmps36
  go_wp2_with (go_at_call 19; refine (ValueOk_calls ⟨_, _, _, _, _⟩ _).mono ?_; rintro e w1 ⟨rfl, hb⟩)
  all_goals
    go_ret
    refine ⟨?_, ?_⟩
    rotate_left
    · first | exact bxB (by assumption) | (repeat (first | with_reducible exact Below.refl _ _ | apply below_alloc | apply pw_below_drewN))
    · simp_all
/-- All but what the act needs is bare. -/
def bB (x : S31) (t s n k v : Bool) : Bool := (t || x.f1 == 0) && ((s || x.f2 == 0) && ((n || x.f3 == 0) && ((k || noneB x.f4) && (v || noneB x.f5))))
set_option maxHeartbeats 8000000 in
set_option maxRecDepth 100000 in
theorem bare_calls (x : S31) (t s n k v : Bool) (w : World) : Calls Tryd.prog 20 #[.agg (ac x).toArray, .bool t, .bool s, .bool n, .bool k, .bool v] w fun e w' => e = .returned (.bool (bB x t s n k v)) ∧ Below w.heap.size w w' := by
  obtain ⟨x0, x1, x2, x3, ⟨k0, k1, k2, k3, k4⟩, ⟨v0, v1, v2, v3, v4⟩⟩ := x
  unfold ac vc
  simp only [List.cons_append, List.nil_append]
  have hu := Tryd.underlying29
  have hu2 := Tryd.underlying31
  cases t <;> cases s <;> cases n <;> cases k <;> cases v
  all_goals
    go_enter Tryd.func20, Tryd.ntmps20
    go_wp2_with (go_at_call 36; refine (none_calls ⟨_, _, _, _, _⟩ _).mono ?_; rintro e w1 ⟨rfl, hb⟩; try (have z9 : w1.cell? ⟨w.heap.size, 9, none⟩ = some (.int .i64 v0) := (bx hb 9).trans rfl; have z10 : w1.cell? ⟨w.heap.size, 10, none⟩ = some (.int .i64 v1) := (bx hb 10).trans rfl; have z11 : w1.cell? ⟨w.heap.size, 11, none⟩ = some (.float .f64 v2) := (bx hb 11).trans rfl; have z12 : w1.cell? ⟨w.heap.size, 12, none⟩ = some (.string v3) := (bx hb 12).trans rfl; have z13 : w1.cell? ⟨w.heap.size, 13, none⟩ = some (.int .i64 v4) := (bx hb 13).trans rfl))
  all_goals
    go_ret
    refine ⟨?_, ?_⟩
    rotate_left
    · first | exact bxB (by assumption) | (refine (bxB (by assumption)).trans (Below.mono (by assumption) (Below.size (bxB (by assumption))))) | (repeat (first | with_reducible exact Below.refl _ _ | apply below_alloc | apply pw_below_drewN))
    · simp_all [bB]
theorem c14 {w : World} {g : Nat} {t : TypeId} {x0 x1 x2 x3 x4 x5 x6 x7 x8 x9 x10 x11 x12 x13 : Value} (h : w.heap[g]? = some (.cells #[x0, x1, x2, x3, x4, x5, x6, x7, x8, x9, x10, x11, x12, x13] t (0, 0))) : w.cell? ⟨g, 0, none⟩ = some x0 ∧ w.cell? ⟨g, 1, none⟩ = some x1 ∧ w.cell? ⟨g, 2, none⟩ = some x2 ∧ w.cell? ⟨g, 3, none⟩ = some x3 ∧ w.cell? ⟨g, 4, none⟩ = some x4 ∧ w.cell? ⟨g, 5, none⟩ = some x5 ∧ w.cell? ⟨g, 6, none⟩ = some x6 ∧ w.cell? ⟨g, 7, none⟩ = some x7 ∧ w.cell? ⟨g, 8, none⟩ = some x8 ∧ w.cell? ⟨g, 9, none⟩ = some x9 ∧ w.cell? ⟨g, 10, none⟩ = some x10 ∧ w.cell? ⟨g, 11, none⟩ = some x11 ∧ w.cell? ⟨g, 12, none⟩ = some x12 ∧ w.cell? ⟨g, 13, none⟩ = some x13 := by
  have e := fun j => blk_cell h j
  refine ⟨?_, ?_, ?_, ?_, ?_, ?_, ?_, ?_, ?_, ?_, ?_, ?_, ?_, ?_⟩ <;> rw [e] <;> rfl
def inR (n most : Int) : Bool := decide (0 ≤ n) && decide (n < most)
def tB (x : S31) : Bool :=
  if x.f0 = 1 then bB x false false false false false else if x.f0 = 2 then bB x true false false true true else if x.f0 = 3 then bB x true false false true false else if x.f0 = 4 then bB x true false true false false
  else if x.f0 = 5 then bB x true false false false false else if x.f0 = 6 then bB x true false false false false else if x.f0 = 7 then bB x false false false true false && x.f4.f0 == 4 else if x.f0 = 8 then bB x true true false false false else if x.f0 = 9 then bB x true true false false true else false
/-- An act is one. -/
def aB (x : S31) : Bool := inR x.f1 100 && (inR x.f2 50 && (inR x.f3 1000000000001 && (vB x.f4 && (vB x.f5 && tB x))))
set_option maxHeartbeats 8000000 in
set_option maxRecDepth 100000 in
theorem specAct_calls (x : S31) (w : World) : Calls Tryd.prog 6 #[.agg (ac x).toArray] w fun e w' => e = .returned (.bool (aB x)) ∧ Below w.heap.size w w' := by
  obtain ⟨x0, x1, x2, x3, ⟨k0, k1, k2, k3, k4⟩, ⟨v0, v1, v2, v3, v4⟩⟩ := x
  have HB := Aside0.mk (below_alloc (Below.refl w.heap.size w) (.cells (ac ⟨x0, x1, x2, x3, ⟨k0, k1, k2, k3, k4⟩, ⟨v0, v1, v2, v3, v4⟩⟩).toArray 31))
  have BK := Aside0.mk (heap_alloc_new w (.cells (ac ⟨x0, x1, x2, x3, ⟨k0, k1, k2, k3, k4⟩, ⟨v0, v1, v2, v3, v4⟩⟩).toArray 31))
  unfold ac vc at *
  simp only [List.cons_append, List.nil_append] at *
  have hu := Tryd.underlying29
  have hu2 := Tryd.underlying31
  go_enter Tryd.func6, Tryd.ntmps6
  go_wp2_with (first | (go_at_call 19; refine (ValueOk_calls ⟨_, _, _, _, _⟩ _).mono ?_; rintro e w1 ⟨rfl, hb⟩; have n0 := Aside0.mk (blk_below BK.out hb); have n1 := Aside0.mk (below_step HB.out hb); clear BK HB hb; have BK := n0; have HB := n1; clear n0 n1; obtain ⟨z0, z1, z2, z3, z4, z5, z6, z7, z8, z9, z10, z11, z12, z13⟩ := c14 BK.out) | (go_at_call 20; refine (bare_calls ⟨_, _, _, _, ⟨_, _, _, _, _⟩, ⟨_, _, _, _, _⟩⟩ _ _ _ _ _ _).mono ?_; rintro e w1 ⟨rfl, hb⟩; have n0 := Aside0.mk (blk_below BK.out hb); have n1 := Aside0.mk (below_step HB.out hb); clear BK HB hb; have BK := n0; have HB := n1; clear n0 n1; obtain ⟨z0, z1, z2, z3, z4, z5, z6, z7, z8, z9, z10, z11, z12, z13⟩ := c14 BK.out))
  all_goals
    go_ret
    refine ⟨?_, HB.out⟩
  all_goals clear HB BK hu hu2
  all_goals refine congrArg (fun b => Ending.returned (Value.bool b)) (?_ : _ = aB _)
  all_goals (try simp only [beq_iff_eq, beq_eq_false_iff_ne, ne_eq] at *)
  all_goals subst_vars
  all_goals unfold aB inR tB
  all_goals (try have e3 : x3 < 1000000000001 := (by omega))
  all_goals (cases hV : vB ⟨v0, v1, v2, v3, v4⟩)
  all_goals first | (simp [*]; done) | (simp [*]; omega) | (simp [*]; intros; omega) | (exfalso; simp_all; done) | (exfalso; simp_all; omega)
end Go.Proofs.YtclploookcjcbaaDoor.PIde
namespace Go.Proofs.YtclploookcjcbaaDoor.PIde
open Go.RowKit Go.Proofs.YtclploookcjcbaaDoorW.PrintWords Go.Proofs.YtclploookcjcbaaDoorW.PrintLast Go.Proofs.YtclploookcjcbaaDoorW.PrintMore
attribute [local go_sem] max2_int min2_int max_two min_two max_three min_three max_four min_four   -- for this text's walks alone
set_option linter.unusedVariables false
set_option linter.unusedSimpArgs false
/-- An answer's cells. -/
def anc (x : S60) : List Value := [.int .i64 x.f0, .int .i64 x.f1] ++ vc x.f2 ++ vc x.f3
/-- A whole number is a key. -/
def hasI (ps : List S88) (n : Int) : Bool := ps.any (fun p => p.f0.f0 == 2 && p.f0.f1 == n)
theorem pig : ∀ (n : Nat) (l : List Int), (∀ j : Nat, j < n → ((j : Int) + 1) ∈ l) → n ≤ l.length
  | 0, _, _ => Nat.zero_le _
  | n + 1, l, h => by
    have hm := h n (by omega)
    have := pig n (l.erase ((n : Int) + 1)) (fun j hj => (List.mem_erase_of_ne (by omega)).2 (h j (by omega)))
    rw [List.length_erase_of_mem hm] at this
    have : 0 < l.length := List.length_pos_of_mem hm
    omega
theorem hasI_le (ps : List S88) (n : Nat) (h : ∀ j : Nat, j < n → hasI ps ((j : Int) + 1) = true) : n ≤ ps.length := by
  have := pig n (ps.map (fun p => p.f0.f1)) (fun j hj => by
    obtain ⟨p, hp, hq⟩ := List.any_eq_true.1 (h j hj)
    simp only [Bool.and_eq_true, beq_iff_eq] at hq
    exact List.mem_map.2 ⟨p, hp, hq.2⟩)
  simpa using this
/-- How many of the whole numbers 1, 2, .. are keys, up to the first that is none. -/
def lenF (ps : List S88) : Nat → Nat → Nat
  | 0, n => n
  | k + 1, n => if hasI ps ((n : Int) + 1) = true then lenF ps k (n + 1) else n
def lenP (ps : List S88) : Nat := lenF ps (ps.length + 1) 0
theorem lenF_at (ps : List S88) (n : Nat) (h : ∀ j : Nat, j < n → hasI ps ((j : Int) + 1) = true) (h1 : hasI ps ((n : Int) + 1) = false) : ∀ (k m : Nat), m ≤ n → n ≤ m + k → lenF ps k m = n
  | 0, m, h2, h3 => by unfold lenF; omega
  | k + 1, m, h2, h3 => by
    unfold lenF
    by_cases e : m = n
    · subst e; rw [if_neg (by rw [h1]; simp)]
    · rw [if_pos (h m (by omega))]
      exact lenF_at ps n h h1 k (m + 1) (by omega) (by omega)
theorem lenP_at (ps : List S88) (n : Nat) (h : ∀ j : Nat, j < n → hasI ps ((j : Int) + 1) = true) (h1 : hasI ps ((n : Int) + 1) = false) : lenP ps = n :=
  lenF_at ps n h h1 _ 0 (by omega) (by have := hasI_le ps n h; omega)
theorem hasI_snoc (ps : List S88) (i : Nat) (m : Int) (hi : i < ps.length) : hasI (ps.take (i + 1)) m = (hasI (ps.take i) m || ((ps.getD i z88).f0.f0 == 2 && (ps.getD i z88).f0.f1 == m)) := by
  unfold hasI
  rw [List.take_succ_eq_append_getElem hi, List.any_append]
  simp [List.getD_eq_getElem?_getD, List.getElem?_eq_getElem hi]
def askA (x : S31) (ps : List S88) : S60 := if x.f0 = 4 then ⟨0, (aftP x.f3 ps).f2, (aftP x.f3 ps).f0, (aftP x.f3 ps).f1⟩ else if x.f0 = 6 then ⟨0, (ps.length : Int), z29, z29⟩ else ⟨0, (lenP ps : Int), z29, z29⟩
theorem info60 : (Tryd.prog.info? 60).map (·.size) = some 12 := by kernel_rfl
/-- An answer's twelve cells are handed back. -/
theorem ret60 {fn : Func} {p : Tmp} (h : fn.results = #[.cell p 60]) {tmps : Array Value} {W : World} {g : Nat} {u0 u1 u2 u3 u4 u5 u6 u7 u8 u9 u10 u11 : Value} (hp : tmps.getD p undef = .pointer (some ⟨g, 0, none⟩)) (HF : W.heap[g]? = some (.cells #[u0, u1, u2, u3, u4, u5, u6, u7, u8, u9, u10, u11] 60 (0, 0))) :
    (results fn tmps).run Tryd.prog W = .ok (.agg #[u0, u1, u2, u3, u4, u5, u6, u7, u8, u9, u10, u11]) W := results_cell_row h tmps W g 60 _ (0, 0) _ hp HF Tryd.underlying60 rfl info60
/-- What a walk needs of a block of twelve cells. -/
theorem c12 {w : World} {g : Nat} {t : TypeId} {x0 x1 x2 x3 x4 x5 x6 x7 x8 x9 x10 x11 : Value} (h : w.heap[g]? = some (.cells #[x0, x1, x2, x3, x4, x5, x6, x7, x8, x9, x10, x11] t (0, 0))) : (w.cell? ⟨g, 0, none⟩ = some x0 ∧ w.cell? ⟨g, 1, none⟩ = some x1 ∧ w.cell? ⟨g, 2, none⟩ = some x2 ∧ w.cell? ⟨g, 3, none⟩ = some x3 ∧ w.cell? ⟨g, 4, none⟩ = some x4 ∧ w.cell? ⟨g, 5, none⟩ = some x5 ∧ w.cell? ⟨g, 6, none⟩ = some x6 ∧ w.cell? ⟨g, 7, none⟩ = some x7 ∧ w.cell? ⟨g, 8, none⟩ = some x8 ∧ w.cell? ⟨g, 9, none⟩ = some x9 ∧ w.cell? ⟨g, 10, none⟩ = some x10 ∧ w.cell? ⟨g, 11, none⟩ = some x11) ∧
    w.frozen? ⟨g, 0, none⟩ = false ∧ w.frozen? ⟨g, 1, none⟩ = false ∧ w.frozen? ⟨g, 2, none⟩ = false ∧ w.frozen? ⟨g, 3, none⟩ = false ∧ w.frozen? ⟨g, 4, none⟩ = false ∧ w.frozen? ⟨g, 5, none⟩ = false ∧ w.frozen? ⟨g, 6, none⟩ = false ∧ w.frozen? ⟨g, 7, none⟩ = false ∧ w.frozen? ⟨g, 8, none⟩ = false ∧ w.frozen? ⟨g, 9, none⟩ = false ∧ w.frozen? ⟨g, 10, none⟩ = false ∧ w.frozen? ⟨g, 11, none⟩ = false := by
  have e := fun j => blk_cell h j
  have f := fun j => blk_frozen h j
  refine ⟨⟨?_, ?_, ?_, ?_, ?_, ?_, ?_, ?_, ?_, ?_, ?_, ?_⟩, f 0, f 1, f 2, f 3, f 4, f 5, f 6, f 7, f 8, f 9, f 10, f 11⟩ <;> rw [e] <;> rfl
set_option maxHeartbeats 4000000 in
set_option maxRecDepth 100000 in
theorem ask_after (x : S31) (h4 : x.f0 = 4) (hn : 0 ≤ x.f3) (ps : List S88) (A : Option Addr) (c : Nat) (w : World) (hr : Kd.C k88 w A ps.length ps) :
    Calls Tryd.prog 42 #[.slice A ps.length c, .agg (ac x).toArray] w fun e w' => e = .returned (.agg (anc (askA x ps)).toArray) ∧ Below w.heap.size w w' := by
  obtain ⟨x0, x1, x2, x3, ⟨k0, k1, k2, k3, k4⟩, ⟨v0, v1, v2, v3, v4⟩⟩ := x
  obtain rfl : x0 = 4 := h4
  have HR := Aside0.mk hr
  have HB := Aside0.mk (below_alloc (below_alloc (Below.refl w.heap.size w) (.cells #[.int .i64 4, .int .i64 x1, .int .i64 x2, .int .i64 x3, .int .i64 k0, .int .i64 k1, .float .f64 k2, .string k3, .int .i64 k4, .int .i64 v0, .int .i64 v1, .float .f64 v2, .string v3, .int .i64 v4] 31)) (.cells #[.int .i64 0, .int .i64 0, .int .i64 0, .int .i64 0, .float .f64 0, .string ⟨#[]⟩, .int .i64 0, .int .i64 0, .int .i64 0, .float .f64 0, .string ⟨#[]⟩, .int .i64 0] 60))
  have BK := Aside0.mk (show ((w.alloc (.cells #[.int .i64 4, .int .i64 x1, .int .i64 x2, .int .i64 x3, .int .i64 k0, .int .i64 k1, .float .f64 k2, .string k3, .int .i64 k4, .int .i64 v0, .int .i64 v1, .float .f64 v2, .string v3, .int .i64 v4] 31)).alloc (.cells #[.int .i64 0, .int .i64 0, .int .i64 0, .int .i64 0, .float .f64 0, .string ⟨#[]⟩, .int .i64 0, .int .i64 0, .int .i64 0, .float .f64 0, .string ⟨#[]⟩, .int .i64 0] 60)).heap[w.heap.size + 1]? = some (.cells #[.int .i64 0, .int .i64 0, .int .i64 0, .int .i64 0, .float .f64 0, .string ⟨#[]⟩, .int .i64 0, .int .i64 0, .int .i64 0, .float .f64 0, .string ⟨#[]⟩, .int .i64 0] 60 (0, 0)) by simpa using heap_alloc_new (w.alloc (.cells #[.int .i64 4, .int .i64 x1, .int .i64 x2, .int .i64 x3, .int .i64 k0, .int .i64 k1, .float .f64 k2, .string k3, .int .i64 k4, .int .i64 v0, .int .i64 v1, .float .f64 v2, .string v3, .int .i64 v4] 31)) (.cells #[.int .i64 0, .int .i64 0, .int .i64 0, .int .i64 0, .float .f64 0, .string ⟨#[]⟩, .int .i64 0, .int .i64 0, .int .i64 0, .float .f64 0, .string ⟨#[]⟩, .int .i64 0] 60))
  show Calls Tryd.prog 42 #[.slice A ps.length c, .agg #[.int .i64 4, .int .i64 x1, .int .i64 x2, .int .i64 x3, .int .i64 k0, .int .i64 k1, .float .f64 k2, .string k3, .int .i64 k4, .int .i64 v0, .int .i64 v1, .float .f64 v2, .string v3, .int .i64 v4]] w _
  rw [show askA ⟨4, x1, x2, x3, ⟨k0, k1, k2, k3, k4⟩, ⟨v0, v1, v2, v3, v4⟩⟩ ps = ⟨0, (aftP x3 ps).f2, (aftP x3 ps).f0, (aftP x3 ps).f1⟩ from if_pos rfl]
  have HC : Aside0 (∀ w1, Kd.C k88 w1 A ps.length ps → Calls Tryd.prog 55 #[.slice A ps.length c, .int .i64 x3] w1 fun e w' => FoundIs (aftP x3 ps) e ∧ Below w1.heap.size w1 w') := ⟨fun w1 hb => after_calls ps x3 hn A c w1 hb⟩
  clear hr hn
  generalize aftP x3 ps = P at HC ⊢
  obtain ⟨⟨p0, p1, p2, p3, p4⟩, ⟨p5, p6, p7, p8, p9⟩, p10⟩ := P
  have hu := Tryd.underlying88
  have hu2 := Tryd.underlying99
  have hu3 := Tryd.underlying31
  have hu4 := Tryd.underlying60
  go_enter Tryd.func42, Tryd.ntmps42
  go_wp2_with (go_at_call 55; (refine (HC.out _ (Kd.C_alloc (Kd.C_alloc HR.out _) _)).mono ?_; rintro e w1 ⟨⟨b, rfl⟩, hb⟩; have HB1 := Aside0.mk (below_step HB.out hb); have BK1 := Aside0.mk (blk_below BK.out hb); have hlt := blk_lt BK1.out; obtain ⟨⟨z0, z1, z2, z3, z4, z5, z6, z7, z8, z9, z10, z11⟩, f0, f1, f2, f3, f4, f5, f6, f7, f8, f9, f10, f11⟩ := c12 BK1.out))
  refine bodyPost_ret (ret60 rfl rfl (blk_alloc (set12 BK1.out) _)) rfl ⟨rfl, ?_⟩
  repeat (first | with_reducible exact HB1.out | with_reducible refine below_alloc ?_ _ | with_reducible refine below_set ?_ (Nat.le_add_right _ 1))
set_option maxHeartbeats 4000000 in
set_option maxRecDepth 100000 in
theorem ask_count (x : S31) (h4 : x.f0 = 6) (ps : List S88) (A : Option Addr) (c : Nat) (w : World) (hr : Kd.C k88 w A ps.length ps) :
    Calls Tryd.prog 42 #[.slice A ps.length c, .agg (ac x).toArray] w fun e w' => e = .returned (.agg (anc (askA x ps)).toArray) ∧ Below w.heap.size w w' := by
  obtain ⟨x0, x1, x2, x3, ⟨k0, k1, k2, k3, k4⟩, ⟨v0, v1, v2, v3, v4⟩⟩ := x
  obtain rfl : x0 = 6 := h4
  have HR := Aside0.mk hr
  have HB := Aside0.mk (below_alloc (below_alloc (Below.refl w.heap.size w) (.cells #[.int .i64 6, .int .i64 x1, .int .i64 x2, .int .i64 x3, .int .i64 k0, .int .i64 k1, .float .f64 k2, .string k3, .int .i64 k4, .int .i64 v0, .int .i64 v1, .float .f64 v2, .string v3, .int .i64 v4] 31)) (.cells #[.int .i64 0, .int .i64 0, .int .i64 0, .int .i64 0, .float .f64 0, .string ⟨#[]⟩, .int .i64 0, .int .i64 0, .int .i64 0, .float .f64 0, .string ⟨#[]⟩, .int .i64 0] 60))
  have BK := Aside0.mk (show ((w.alloc (.cells #[.int .i64 6, .int .i64 x1, .int .i64 x2, .int .i64 x3, .int .i64 k0, .int .i64 k1, .float .f64 k2, .string k3, .int .i64 k4, .int .i64 v0, .int .i64 v1, .float .f64 v2, .string v3, .int .i64 v4] 31)).alloc (.cells #[.int .i64 0, .int .i64 0, .int .i64 0, .int .i64 0, .float .f64 0, .string ⟨#[]⟩, .int .i64 0, .int .i64 0, .int .i64 0, .float .f64 0, .string ⟨#[]⟩, .int .i64 0] 60)).heap[w.heap.size + 1]? = some (.cells #[.int .i64 0, .int .i64 0, .int .i64 0, .int .i64 0, .float .f64 0, .string ⟨#[]⟩, .int .i64 0, .int .i64 0, .int .i64 0, .float .f64 0, .string ⟨#[]⟩, .int .i64 0] 60 (0, 0)) by simpa using heap_alloc_new (w.alloc (.cells #[.int .i64 6, .int .i64 x1, .int .i64 x2, .int .i64 x3, .int .i64 k0, .int .i64 k1, .float .f64 k2, .string k3, .int .i64 k4, .int .i64 v0, .int .i64 v1, .float .f64 v2, .string v3, .int .i64 v4] 31)) (.cells #[.int .i64 0, .int .i64 0, .int .i64 0, .int .i64 0, .float .f64 0, .string ⟨#[]⟩, .int .i64 0, .int .i64 0, .int .i64 0, .float .f64 0, .string ⟨#[]⟩, .int .i64 0] 60))
  show Calls Tryd.prog 42 #[.slice A ps.length c, .agg #[.int .i64 6, .int .i64 x1, .int .i64 x2, .int .i64 x3, .int .i64 k0, .int .i64 k1, .float .f64 k2, .string k3, .int .i64 k4, .int .i64 v0, .int .i64 v1, .float .f64 v2, .string v3, .int .i64 v4]] w _
  rw [show askA ⟨6, x1, x2, x3, ⟨k0, k1, k2, k3, k4⟩, ⟨v0, v1, v2, v3, v4⟩⟩ ps = ⟨0, (ps.length : Int), z29, z29⟩ from (if_neg (show ¬ (6 : Int) = 4 by decide)).trans (if_pos rfl)]
  clear hr
  have hu := Tryd.underlying88
  have hu2 := Tryd.underlying99
  have hu3 := Tryd.underlying31
  have hu4 := Tryd.underlying60
  go_enter Tryd.func42, Tryd.ntmps42
  go_wp2
  refine bodyPost_ret (ret60 rfl rfl (heap_alloc2_new w _ _)) rfl ⟨rfl, ?_⟩
  exact below_alloc (below_alloc (Below.refl _ _) _) _
set_option maxHeartbeats 8000000 in
set_option maxRecDepth 100000 in
theorem ask_len (x : S31) (h4 : x.f0 = 5) (ps : List S88) (h5 : ps.length ≤ 1000) (A : Option Addr) (c : Nat) (w : World) (hr : Kd.C k88 w A ps.length ps) :
    Calls Tryd.prog 42 #[.slice A ps.length c, .agg (ac x).toArray] w fun e w' => e = .returned (.agg (anc (askA x ps)).toArray) ∧ Below w.heap.size w w' := by
  obtain ⟨x0, x1, x2, x3, ⟨k0, k1, k2, k3, k4⟩, ⟨v0, v1, v2, v3, v4⟩⟩ := x
  obtain rfl : x0 = 5 := h4
  have HR := Aside0.mk hr
  have HB := Aside0.mk (below_alloc (below_alloc (Below.refl w.heap.size w) (.cells #[.int .i64 5, .int .i64 x1, .int .i64 x2, .int .i64 x3, .int .i64 k0, .int .i64 k1, .float .f64 k2, .string k3, .int .i64 k4, .int .i64 v0, .int .i64 v1, .float .f64 v2, .string v3, .int .i64 v4] 31)) (.cells #[.int .i64 0, .int .i64 0, .int .i64 0, .int .i64 0, .float .f64 0, .string ⟨#[]⟩, .int .i64 0, .int .i64 0, .int .i64 0, .float .f64 0, .string ⟨#[]⟩, .int .i64 0] 60))
  have BK := Aside0.mk (show ((w.alloc (.cells #[.int .i64 5, .int .i64 x1, .int .i64 x2, .int .i64 x3, .int .i64 k0, .int .i64 k1, .float .f64 k2, .string k3, .int .i64 k4, .int .i64 v0, .int .i64 v1, .float .f64 v2, .string v3, .int .i64 v4] 31)).alloc (.cells #[.int .i64 0, .int .i64 0, .int .i64 0, .int .i64 0, .float .f64 0, .string ⟨#[]⟩, .int .i64 0, .int .i64 0, .int .i64 0, .float .f64 0, .string ⟨#[]⟩, .int .i64 0] 60)).heap[w.heap.size + 1]? = some (.cells #[.int .i64 0, .int .i64 0, .int .i64 0, .int .i64 0, .float .f64 0, .string ⟨#[]⟩, .int .i64 0, .int .i64 0, .int .i64 0, .float .f64 0, .string ⟨#[]⟩, .int .i64 0] 60 (0, 0)) by simpa using heap_alloc_new (w.alloc (.cells #[.int .i64 5, .int .i64 x1, .int .i64 x2, .int .i64 x3, .int .i64 k0, .int .i64 k1, .float .f64 k2, .string k3, .int .i64 k4, .int .i64 v0, .int .i64 v1, .float .f64 v2, .string v3, .int .i64 v4] 31)) (.cells #[.int .i64 0, .int .i64 0, .int .i64 0, .int .i64 0, .float .f64 0, .string ⟨#[]⟩, .int .i64 0, .int .i64 0, .int .i64 0, .float .f64 0, .string ⟨#[]⟩, .int .i64 0] 60))
  show Calls Tryd.prog 42 #[.slice A ps.length c, .agg #[.int .i64 5, .int .i64 x1, .int .i64 x2, .int .i64 x3, .int .i64 k0, .int .i64 k1, .float .f64 k2, .string k3, .int .i64 k4, .int .i64 v0, .int .i64 v1, .float .f64 v2, .string v3, .int .i64 v4]] w _
  rw [show askA ⟨5, x1, x2, x3, ⟨k0, k1, k2, k3, k4⟩, ⟨v0, v1, v2, v3, v4⟩⟩ ps = ⟨0, (lenP ps : Int), z29, z29⟩ from (if_neg (show ¬ (5 : Int) = 4 by decide)).trans (if_neg (show ¬ (5 : Int) = 6 by decide))]
  have H5 := Aside0.mk h5
  clear hr h5
  have hu := Tryd.underlying88
  have hu3 := Tryd.underlying31
  have hu4 := Tryd.underlying60
  go_enter Tryd.func42, Tryd.ntmps42
  go_wp2
  go_loopg [6, 7] (ps.length + 1) (fun d v6 v7 wr => ∃ n : Nat, v6 = .int .i64 (n : Int) ∧ Aside0 (n + d = ps.length + 1) ∧ Aside0 (∀ j : Nat, j < n → hasI ps ((j : Int) + 1) = true) ∧ Aside0 (Below w.heap.size w wr) ∧ Aside0 (wr.heap[w.heap.size + 1]? = some (.cells #[.int .i64 0, .int .i64 0, .int .i64 0, .int .i64 0, .float .f64 0, .string ⟨#[]⟩, .int .i64 0, .int .i64 0, .int .i64 0, .float .f64 0, .string ⟨#[]⟩, .int .i64 0] 60 (0, 0))))
  case atStart => exact ⟨0, rfl, ⟨Nat.zero_add _⟩, ⟨fun j hj => absurd hj (Nat.not_lt_zero j)⟩, HB, BK⟩
  case round =>
    rename Nat => dk
    rename World => wo
    clear HB BK
    obtain ⟨n, rfl, HD, HN, HB, BK⟩ := hrel
    have hn1 : (n : Int) ≤ 1001 := by have := HD.out; have := H5.out; omega
    have hn0 : 0 ≤ (n : Int) := by omega
    have LE := Aside0.mk (hasI_le ps n HN.out)
    go_wp2
    go_loopg [7, 35] ps.length (fun d v7 v35 wr => ∃ i : Nat, v35 = .int .i64 (i : Int) ∧ v7 = .bool (hasI (ps.take i) ((n : Int) + 1)) ∧ Aside0 (i + d = ps.length) ∧ Aside0 (Below w.heap.size w wr) ∧ Aside0 (wr.heap[w.heap.size + 1]? = some (.cells #[.int .i64 0, .int .i64 0, .int .i64 0, .int .i64 0, .float .f64 0, .string ⟨#[]⟩, .int .i64 0, .int .i64 0, .int .i64 0, .float .f64 0, .string ⟨#[]⟩, .int .i64 0] 60 (0, 0))))
    case atStart => exact ⟨0, rfl, rfl, ⟨Nat.zero_add _⟩, HB, BK⟩
    case round =>
      clear HB BK
      obtain ⟨i, rfl, rfl, HE, HB, BK⟩ := hrel
      have hm := H5.out
      cases gk with
      | zero =>
        have c1 : decide ((i : Int) < (ps.length : Int)) = false := decide_eq_false (by have := HE.out; omega)
        have c1n : decide (i < ps.length) = false := decide_eq_false (by have := HE.out; omega)
        have HT : Aside0 (ps.take i = ps) := ⟨List.take_of_length_le (by have := HE.out; omega)⟩
        have hlt := blk_lt BK.out
        obtain ⟨⟨z0, z1, z2, z3, z4, z5, z6, z7, z8, z9, z10, z11⟩, f0, f1, f2, f3, f4, f5, f6, f7, f8, f9, f10, f11⟩ := c12 BK.out
        clear hm
        cases hb : hasI (ps.take i) ((n : Int) + 1)
        · have HL := Aside0.mk (lenP_at ps n HN.out (by rw [← HT.out]; exact hb))
          go_wp2
          rw [HL.out]
          refine bodyPost_ret (ret60 rfl rfl (set12 BK.out)) rfl ⟨rfl, ?_⟩
          repeat (first | with_reducible exact HB.out | with_reducible refine below_set ?_ (Nat.le_add_right _ 1))
        · have HJ : Aside0 (hasI ps ((n : Int) + 1) = true) := ⟨by rw [← HT.out]; exact hb⟩
          have LE2 : Aside0 (n < ps.length) := ⟨hasI_le ps (n + 1) (fun j hj => by
            by_cases e : j = n
            · subst e; exact HJ.out
            · exact HN.out j (by omega))⟩
          go_wp2
          go_roundg (ps.length - n)
          case measure => have := HD.out; have := LE2.out; omega
          case rel => exact ⟨n + 1, by first | rfl | simp, ⟨by have := LE2.out; omega⟩, ⟨fun j hj => by
            by_cases e : j = n
            · subst e; exact HJ.out
            · exact HN.out j (by omega)⟩, HB, BK⟩
      | succ d =>
        have hi : i < ps.length := by have := HE.out; omega
        have c1 : decide ((i : Int) < (ps.length : Int)) = true := decide_eq_true (by omega)
        have c1n : decide (i < ps.length) = true := decide_eq_true hi
        have c2 : decide (0 ≤ (i : Int)) = true := decide_eq_true (by omega)
        obtain ⟨ad, e1, hx0, hx1, hx2, hx3, hx4, hx5, hx6, hx7, hx8, hx9, hx10⟩ := at_T88 (Kd.C_below HR.out HB.out) (i : Int) (by omega) (by omega)
        cases e1
        simp only [Int.toNat_natCast] at hx0 hx1 hx2 hx3 hx4 hx5 hx6 hx7 hx8 hx9 hx10
        have q1 : 0 ≤ (i : Int) := by omega
        have q2 : (i : Int) < (ps.length : Int) := by omega
        have q3 : IntKind.i64.wrap ((i : Int) + 1) = ((i + 1 : Nat) : Int) := by rw [IntWalk.i64_in _ ⟨by omega, by omega⟩]; omega
        have HS := Aside0.mk (hasI_snoc ps i ((n : Int) + 1) hi)
        rw [show ps.getD i z88 = (rd_T88 ps (i : Int)) by simp [rd_T88]] at HS
        have HB1 := Aside0.mk (below_alloc HB.out (.cells #[.int .i64 (rd_T88 ps (i : Int)).f0.f0, .int .i64 (rd_T88 ps (i : Int)).f0.f1, .float .f64 (rd_T88 ps (i : Int)).f0.f2, .string (rd_T88 ps (i : Int)).f0.f3, .int .i64 (rd_T88 ps (i : Int)).f0.f4, .int .i64 (rd_T88 ps (i : Int)).f1.f0, .int .i64 (rd_T88 ps (i : Int)).f1.f1, .float .f64 (rd_T88 ps (i : Int)).f1.f2, .string (rd_T88 ps (i : Int)).f1.f3, .int .i64 (rd_T88 ps (i : Int)).f1.f4, .int .i64 (rd_T88 ps (i : Int)).f2] 88))
        have BK1 := Aside0.mk (blk_below BK.out (below_alloc (Below.refl _ _) (.cells #[.int .i64 (rd_T88 ps (i : Int)).f0.f0, .int .i64 (rd_T88 ps (i : Int)).f0.f1, .float .f64 (rd_T88 ps (i : Int)).f0.f2, .string (rd_T88 ps (i : Int)).f0.f3, .int .i64 (rd_T88 ps (i : Int)).f0.f4, .int .i64 (rd_T88 ps (i : Int)).f1.f0, .int .i64 (rd_T88 ps (i : Int)).f1.f1, .float .f64 (rd_T88 ps (i : Int)).f1.f2, .string (rd_T88 ps (i : Int)).f1.f3, .int .i64 (rd_T88 ps (i : Int)).f1.f4, .int .i64 (rd_T88 ps (i : Int)).f2] 88)))
        clear hm hi
        cases hb : hasI (ps.take i) ((n : Int) + 1)
        rotate_left
        rotate_left
        cases hk : ((rd_T88 ps (i : Int)).f0.f0 == 2)
        rotate_left
        cases hq : ((rd_T88 ps (i : Int)).f0.f1 == (n : Int) + 1)
        rotate_left
        rotate_left
        rotate_left
        all_goals
          rw [hb] at HS
          try rw [hk] at HS
          try rw [hq] at HS
          go_wp2
          go_roundg d
          case measure => omega
          case rel => exact ⟨i + 1, by first | rfl | (rw [q3]; done) | simp, by rw [HS.out]; rfl, ⟨by have := HE.out; omega⟩, HB1, BK1⟩
end Go.Proofs.YtclploookcjcbaaDoor.PIde
namespace Go.Proofs.YtclploookcjcbaaDoor.PIde
open Go.RowKit Go.Proofs.YtclploookcjcbaaDoorW.PrintWords Go.Proofs.YtclploookcjcbaaDoorW.PrintLast Go.Proofs.YtclploookcjcbaaDoorW.PrintMore
attribute [local go_sem] max2_int min2_int max_two min_two max_three min_three max_four min_four   -- for this text's walks alone
set_option linter.unusedVariables false
set_option linter.unusedSimpArgs false
theorem info29 : (Tryd.prog.info? 29).map (·.size) = some 5 := by kernel_rfl
/-- A value's five cells are handed back. -/
theorem ret29 {fn : Func} {p : Tmp} (h : fn.results = #[.cell p 29]) {tmps : Array Value} {W : World} {g : Nat} {u0 u1 u2 u3 u4 : Value} (hp : tmps.getD p undef = .pointer (some ⟨g, 0, none⟩)) (HF : W.heap[g]? = some (.cells #[u0, u1, u2, u3, u4] 29 (0, 0))) :
    (results fn tmps).run Tryd.prog W = .ok (.agg #[u0, u1, u2, u3, u4]) W := results_cell_row h tmps W g 29 _ (0, 0) _ hp HF Tryd.underlying29 rfl info29
theorem set5 {w : World} {g : Nat} {t : TypeId} {x0 x1 x2 x3 x4 u0 u1 u2 u3 u4 : Value} (h : w.heap[g]? = some (.cells #[x0, x1, x2, x3, x4] t (0, 0))) :
    (((((w.setCell ⟨g, 0, none⟩ u0).setCell ⟨g, 1, none⟩ u1).setCell ⟨g, 2, none⟩ u2).setCell ⟨g, 3, none⟩ u3).setCell ⟨g, 4, none⟩ u4).heap[g]? = some (.cells #[u0, u1, u2, u3, u4] t (0, 0)) := by
  simpa using blk_set (blk_set (blk_set (blk_set (blk_set h 0 u0) 1 u1) 2 u2) 3 u3) 4 u4
theorem undrew {W w1 : World} (hb : Below W.drew.heap.size W.drew w1) : Below W.heap.size W w1 := ⟨hb.os, hb.tape, hb.output, hb.size, hb.block⟩
theorem undrewN {W w1 : World} {n : Nat} (hb : Below (W.drewN n).heap.size (W.drewN n) w1) : Below W.heap.size W w1 := ⟨hb.os, hb.tape, hb.output, hb.size, hb.block⟩
/-- What lies at a place of a table: nil for none. -/
def getV (ps : List S88) (i : Int) : S29 := if i < 0 then z29 else (rd_T88 ps i).f1
theorem idxL_range (k : S29) : ∀ ps : List S88, idxL k ps = -1 ∨ (0 ≤ idxL k ps ∧ idxL k ps < ps.length)
  | [] => .inl rfl
  | p :: ps => by
    have ih := idxL_range k ps
    unfold idxL
    rw [List.length_cons]
    split
    · right; omega
    · split
      · left; rfl
      · right; omega
set_option maxHeartbeats 4000000 in
set_option maxRecDepth 100000 in
theorem get_calls (ts : List S78) (t : Int) (k : S29) (A : Option Addr) (c : Nat) (sv : Value) (g : Nat) (w : World) (hM : w.heap[g]? = some (.cells #[.slice A ts.length c, sv] 58 (0, 0))) (hT : Kd.C k78 w A ts.length ts) (h0 : 0 ≤ t) (h1 : t < ts.length) :
    Calls Tryd.prog 40 #[.pointer (some ⟨g, 0, none⟩), .int .i64 t, .agg (vc k).toArray] w fun e w' => e = .returned (.agg (vc (getV (rd_T78 ts t).f0 (idxL k (rd_T78 ts t).f0))).toArray) ∧ Below w.heap.size w w' := by
  have hlt := blk_lt hM
  have hm := hT.2.1
  obtain ⟨ad, A0, c0, e1, hx0, hx1, hl0, hc0⟩ := at_T78 hT t h0 h1
  cases e1
  have lt0 := World.block_lt_of_cell? w _ hx0
  have HC := Aside0.mk hc0
  have RG := Aside0.mk (idxL_range k (rd_T78 ts t).f0)
  have y0 : w.cell? ⟨g, 0, none⟩ = some (.slice (some ad) ts.length c) := (blk_cell hM 0).trans rfl
  have HL : Aside0 (∀ w1, Kd.C k88 w1 A0 (rd_T78 ts t).f0.length (rd_T78 ts t).f0 → Calls Tryd.prog 54 #[.agg #[.slice A0 (rd_T78 ts t).f0.length c0, .int .i64 (rd_T78 ts t).f1], .agg (vc k).toArray] w1 fun e w' => e = .returned (.int .i64 (idxL k (rd_T78 ts t).f0)) ∧ Below w1.heap.size w1 w') := ⟨fun w1 hc => l5at_calls _ _ k A0 c0 w1 hc⟩
  have HN := Aside0.mk hl0
  generalize rd_T78 ts t = T at *
  generalize idxL k T.f0 = i at *
  have RR := Aside0.mk (show getV T.f0 i = if i < 0 then z29 else (rd_T88 T.f0 i).f1 from rfl)
  generalize getV T.f0 i = V at *
  obtain ⟨k0, k1, k2, k3, k4⟩ := k
  have ek : (vc ⟨k0, k1, k2, k3, k4⟩).toArray = #[.int .i64 k0, .int .i64 k1, .float .f64 k2, .string k3, .int .i64 k4] := rfl
  rw [ek] at HL ⊢
  have hn0 := hc0.2.1
  have BK := Aside0.mk (heap_alloc2_new w (.cells #[.int .i64 k0, .int .i64 k1, .float .f64 k2, .string k3, .int .i64 k4] 29) (.cells #[.int .i64 0, .int .i64 0, .float .f64 0, .string ⟨#[]⟩, .int .i64 0] 29))
  have HB := Aside0.mk (below_alloc (below_alloc (Below.refl w.heap.size w) (.cells #[.int .i64 k0, .int .i64 k1, .float .f64 k2, .string k3, .int .i64 k4] 29)) (.cells #[.int .i64 0, .int .i64 0, .float .f64 0, .string ⟨#[]⟩, .int .i64 0] 29))
  have BM := Aside0.mk (blk_alloc (blk_alloc hM (.cells #[.int .i64 k0, .int .i64 k1, .float .f64 k2, .string k3, .int .i64 k4] 29)) (.cells #[.int .i64 0, .int .i64 0, .float .f64 0, .string ⟨#[]⟩, .int .i64 0] 29))
  have HT := Aside0.mk hT
  clear hc0 hM hT ek hl0
  have hu := Tryd.underlying29
  have hu2 := Tryd.underlying78
  have hu3 := Tryd.underlying58
  have hu4 := Tryd.underlying37
  have hu5 := Tryd.underlying88
  go_enter Tryd.func40, Tryd.ntmps40
  go_wp2
  go_region_law (go_simp; go_at_call 54; refine (HL.out _ (Kd.C_drewN (Kd.C_alloc (Kd.C_alloc HC.out _) _) _)).mono ?_; rintro e w1 ⟨rfl, hb⟩; replace hb := undrew hb; have HW := Aside0.mk (below_step HB.out hb); have BK1 := Aside0.mk (blk_below BK.out hb); have y1 := (HW.out.cell hlt).trans y0; have hx0' := (HW.out.cell lt0).trans hx0; have CW := Aside0.mk (Kd.C_below HC.out HW.out); clear hb; obtain ⟨z0, z1, z2, z3, z4⟩ := c5 BK1.out; obtain ⟨f0, f1, f2, f3, f4, -⟩ := f6 BK1.out)
  all_goals
    clear HL y0 hx0 hx1 HB BK BM HT HC
    rcases RG.out with hi | ⟨hi0, hi1⟩
    · subst hi
      go_wp2
      exact bodyPost_ret (ret29 rfl rfl (set5 BK1.out)) rfl ⟨by rw [RR.out]; first | rfl | (rw [if_neg (by omega)]; rfl), by repeat (first | with_reducible exact HW.out | with_reducible refine below_set ?_ (Nat.le_add_right _ 1))⟩
    · have hi2 : ¬ i < 0 := by omega
      obtain ⟨ap, e2, p0, p1, p2, p3, p4, p5, p6, p7, p8, p9, p10⟩ := at_T88 CW.out i hi0 hi1
      cases e2
      have hlt2 := blk_lt BK1.out
      go_wp2
      exact bodyPost_ret (ret29 rfl rfl (set5 BK1.out)) rfl ⟨by rw [RR.out]; first | rfl | (rw [if_neg (by omega)]; rfl), by repeat (first | with_reducible exact HW.out | with_reducible refine below_set ?_ (Nat.le_add_right _ 1))⟩
end Go.Proofs.YtclploookcjcbaaDoor.PIde
