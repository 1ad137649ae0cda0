/- Proved: what the program's ActOk comes to, with its two function literals, where its table of fields lies as the program's text lays it. -/
import Derived.Test.YtclploookcjcbaaDoorPActx0
import Derived.Test.YtclploookcjcbaaDoorPActV
namespace Go.Proofs.YtclploookcjcbaaDoor.PAct
open Go.RowKit Go.Proofs.YtclploookcjcbaaDoorW.PrintWords Go.Proofs.YtclploookcjcbaaDoorW.PrintLast Go.Proofs.YtclploookcjcbaaDoorW.PrintMore
attribute [local go_sem] max2_int min2_int max_two min_two max_three min_three max_four min_four   -- for this text's walks alone
set_option linter.unusedVariables false
set_option linter.unusedSimpArgs false
section
variable {P : Program} {ops : Array Oper} {Q : Exit → Act → World → Prop}
/-- A call of a function value, as an arm of go_wp2_with. -/
theorem goesC_ {rest : List Oper} {oi : Oper} {a : Act} {w : World} (N : Option Tmp) (hd : oi.dst = N) (hg : oi.guard = none) {f : FuncId} {fn : Func} {o : Operand} {cap : Array Value} {ags : Array Operand} {ts : Array TypeId} (ho : a.eval o = .func (.func f) #[] cap)
    (hf : P.funcs[f]? = some fn) (hname : (fn.name == "runtime.NumGoroutine") = false) (hb : fn.body.isSome = true) (args : Array Value)
    (hop : oi.op = .call { callee := .value o, args := ags, argTypes := ts }) (hargs : ags.map a.eval ++ cap = args)
    (h : Calls P f args w fun e w' => ∃ v, e = .returned v ∧ wpList P ops Q rest (a.put N v) w') : wpList P ops Q (oi :: rest) a w := by
  refine wpList_plain hg fun K hK => ?_
  have he := enters_ hf hname hb args w
  have hrun : (execOp a.eval oi).run P w = .ok (.enter f args) w := by
    unfold execOp
    simp [hop, resolve, Deferred.ofValue, ho, invoke, hargs, he]
  unfold Oper.wp
  rw [hrun, Oper.upon_enter]
  refine h.mono fun e w'' hh => ?_
  obtain ⟨v, rfl, hk⟩ := hh
  subst hd
  exact hK _ _ hk
/-- A function literal is made, as an arm of go_wp2_with. -/
theorem mkfL_ {rest : List Oper} {oi : Oper} {a : Act} {w : World} (N : Option Tmp) (hd : oi.dst = N) (hg : oi.guard = none) {fn : Fn} {cap : Array Operand} (hop : oi.op = .makeFunc fn #[] cap) (vs : Array Value) (hv : cap.map a.eval = vs)
    (h : wpList P ops Q rest (a.put N (.func fn #[] vs)) w) : wpList P ops Q (oi :: rest) a w := by
  refine wpList_plain hg fun K hK => ?_
  have hmf : ∀ (fn : Fn) (first cap : Array Value) (w : World), (Instr.makeFunc fn first cap).run P w = .ok (.func fn first cap) w := fun _ _ _ _ => rfl
  have hrun : (execOp a.eval oi).run P w = .ok (.value (.func fn #[] vs)) w := by
    unfold execOp
    simp [hop, hv, hmf]
  unfold Oper.wp
  rw [hrun]
  subst hd
  exact hK _ _ h
end
def numF (f n most bit : Int) : Bool := if (bits BinOp.and IntKind.i64 f bit == 0) = true then n == 0 else decide (0 ≤ n) && decide (n ≤ most)
def valF (f bit kind : Int) (b : Bool) : Bool := b && (!(bits BinOp.and IntKind.i64 f bit == 0) || kind == 0)
theorem num_calls (f n most bit : Int) (g : Nat) (w : World) (hc : w.cell? ⟨g, 0, none⟩ = some (.int .i64 f)) :
    Calls Tryd.prog 22 #[.int .i64 n, .int .i64 most, .int .i64 bit, .pointer (some ⟨g, 0, none⟩)] w fun e w' => e = .returned (.bool (numF f n most bit)) ∧ w' = w := by
  unfold numF
  go_enter Tryd.func22, Tryd.ntmps22
  by_cases h0 : (bits BinOp.and IntKind.i64 f bit == 0) = true
  · rw [if_pos h0]
    go_wp2
    go_ret
    exact ⟨rfl, rfl⟩
  · rw [if_neg h0]
    have h0' : (bits BinOp.and IntKind.i64 f bit == 0) = false := by simpa using h0
    clear h0
    by_cases h1 : 0 ≤ n
    · have h1' := decide_eq_true h1
      go_wp2
      go_ret
      exact ⟨by simp [h1], rfl⟩
    · have h1' := decide_eq_false h1
      go_wp2
      go_ret
      exact ⟨by simp [h1], rfl⟩
set_option maxHeartbeats 8000000 in
set_option maxRecDepth 100000 in
theorem val_calls (f bit : Int) (k : Nat) (x0 x1 : Int) (x2 : Nat) (x3 : ByteArray) (x4 : Int) (b : Bool) (hv : impl_valid.f k x0 x1 x2 x3 x4 = some b) (g : Nat) (w : World) (hc : w.cell? ⟨g, 0, none⟩ = some (.int .i64 f)) :
    Calls Tryd.prog 23 #[.agg #[.int .i64 x0, .int .i64 x1, .float .f64 x2, .string x3, .int .i64 x4], .int .i64 bit, .pointer (some ⟨g, 0, none⟩)] w fun e w' => e = .returned (.bool (valF f bit x0 b)) ∧ Below w.heap.size w w' := by
  have hu29 := Tryd.underlying29
  have HB := Aside0.mk (Below.refl w.heap.size w)
  have hlt := World.block_lt_of_cell? w _ hc
  unfold valF
  go_enter Tryd.func23, Tryd.ntmps23
  go_upto_region 1 with (first | ((with_reducible refine gate_dst (N := 3) rfl ?_); (try (refine gate_guard (by rfl) ?_; dsimp only)); refine box_event ?hg (N := 3) ?hd (cs := #[.int .i64 x0, .int .i64 x1, .float .f64 x2, .string x3, .int .i64 x4]) (t := 29) ?hr ?_; (case hd => rfl); (case hg => rfl); (case hr => first | (go_simp; done) | (go_simp; rfl)); intro g1 hg w3 hbox hb; have n0_ := Aside0.mk (below_step (by repeat (first | (with_reducible first | exact HB.out | apply below_alloc | apply pw_below_drewN | apply below_drew1) | exact HB.out)) hb); have n1_ := Aside0.mk hbox; have n2_ := Aside0.mk (by rw [hg]; exact below_size (by repeat (first | (with_reducible first | exact HB.out | apply below_alloc | apply pw_below_drewN | apply below_drew1) | exact HB.out)) : w.heap.size ≤ g1); clear HB; have HB := n0_; have BKg1 := n1_; have GEg1 := n2_; clear n0_ n1_ n2_; clear hb hbox hg))
  (try simp only [Act.put, List.setIfInBounds_toArray, List.set_cons_zero, List.set_cons_succ])
  have z3_0 : w3.cell? ⟨g1, 0, none⟩ = some (.int .i64 x0) := (blk_cell BKg1.out 0).trans rfl
  have z3_1 : w3.cell? ⟨g1, 1, none⟩ = some (.int .i64 x1) := (blk_cell BKg1.out 1).trans rfl
  have z3_2 : w3.cell? ⟨g1, 2, none⟩ = some (.float .f64 x2) := (blk_cell BKg1.out 2).trans rfl
  have z3_3 : w3.cell? ⟨g1, 3, none⟩ = some (.string x3) := (blk_cell BKg1.out 3).trans rfl
  have z3_4 : w3.cell? ⟨g1, 4, none⟩ = some (.int .i64 x4) := (blk_cell BKg1.out 4).trans rfl
  cases b with
  | false =>
    go_wp2_with (first | ((with_reducible refine gate_callee (f := 24) rfl ?_); refine goesL_ (some 7) rfl rfl Tryd.func24 (by kernel_rfl) rfl #[.agg #[.int .i64 x0, .int .i64 x1, .float .f64 x2, .string x3, .int .i64 x4]] rfl (by (try simp only [List.map_toArray, List.map_cons, List.map_nil]); first | done | rfl) ?_; (with_reducible refine (impl_valid.calls k x0 x1 x2 x3 x4 _ _ hv).mono ?_); rintro e w5 ⟨rfl, hb⟩; refine ⟨_, rfl, ?_⟩; have n0_ := Aside0.mk (blk_below BKg1.out hb); have n1_ := Aside0.mk (below_step HB.out hb); clear BKg1 HB; have BKg1 := n0_; have HB := n1_; clear n0_ n1_ hb; have zw5_0 : w5.cell? ⟨g1, 0, none⟩ = some (.int .i64 x0) := (blk_cell BKg1.out 0).trans rfl; have hw5 : w5.cell? ⟨g, 0, none⟩ = some (.int .i64 f) := (HB.out.cell hlt).trans hc))
    go_ret
    exact ⟨by simp, HB.out⟩
  | true =>
    by_cases h0 : (bits BinOp.and IntKind.i64 f bit == 0) = true
    · have h1 : (bits BinOp.and IntKind.i64 f bit != 0) = false := by simpa using h0
      by_cases hk : x0 = 0
      · have hk0 : (x0 == 0) = true := by simpa using hk
        clear hk
        go_wp2_with (first | ((with_reducible refine gate_callee (f := 24) rfl ?_); refine goesL_ (some 7) rfl rfl Tryd.func24 (by kernel_rfl) rfl #[.agg #[.int .i64 x0, .int .i64 x1, .float .f64 x2, .string x3, .int .i64 x4]] rfl (by (try simp only [List.map_toArray, List.map_cons, List.map_nil]); first | done | rfl) ?_; (with_reducible refine (impl_valid.calls k x0 x1 x2 x3 x4 _ _ hv).mono ?_); rintro e w5 ⟨rfl, hb⟩; refine ⟨_, rfl, ?_⟩; have n0_ := Aside0.mk (blk_below BKg1.out hb); have n1_ := Aside0.mk (below_step HB.out hb); clear BKg1 HB; have BKg1 := n0_; have HB := n1_; clear n0_ n1_ hb; have zw5_0 : w5.cell? ⟨g1, 0, none⟩ = some (.int .i64 x0) := (blk_cell BKg1.out 0).trans rfl; have hw5 : w5.cell? ⟨g, 0, none⟩ = some (.int .i64 f) := (HB.out.cell hlt).trans hc))
        go_ret
        exact ⟨by simp [h0, hk0], HB.out⟩
      · have hk0 : (x0 == 0) = false := by simpa using hk
        clear hk
        go_wp2_with (first | ((with_reducible refine gate_callee (f := 24) rfl ?_); refine goesL_ (some 7) rfl rfl Tryd.func24 (by kernel_rfl) rfl #[.agg #[.int .i64 x0, .int .i64 x1, .float .f64 x2, .string x3, .int .i64 x4]] rfl (by (try simp only [List.map_toArray, List.map_cons, List.map_nil]); first | done | rfl) ?_; (with_reducible refine (impl_valid.calls k x0 x1 x2 x3 x4 _ _ hv).mono ?_); rintro e w5 ⟨rfl, hb⟩; refine ⟨_, rfl, ?_⟩; have n0_ := Aside0.mk (blk_below BKg1.out hb); have n1_ := Aside0.mk (below_step HB.out hb); clear BKg1 HB; have BKg1 := n0_; have HB := n1_; clear n0_ n1_ hb; have zw5_0 : w5.cell? ⟨g1, 0, none⟩ = some (.int .i64 x0) := (blk_cell BKg1.out 0).trans rfl; have hw5 : w5.cell? ⟨g, 0, none⟩ = some (.int .i64 f) := (HB.out.cell hlt).trans hc))
        go_ret
        exact ⟨by simp [h0, hk0], HB.out⟩
    · have h0' : (bits BinOp.and IntKind.i64 f bit == 0) = false := by simpa using h0
      have h1 : (bits BinOp.and IntKind.i64 f bit != 0) = true := by simpa using h0
      go_wp2_with (first | ((with_reducible refine gate_callee (f := 24) rfl ?_); refine goesL_ (some 7) rfl rfl Tryd.func24 (by kernel_rfl) rfl #[.agg #[.int .i64 x0, .int .i64 x1, .float .f64 x2, .string x3, .int .i64 x4]] rfl (by (try simp only [List.map_toArray, List.map_cons, List.map_nil]); first | done | rfl) ?_; (with_reducible refine (impl_valid.calls k x0 x1 x2 x3 x4 _ _ hv).mono ?_); rintro e w5 ⟨rfl, hb⟩; refine ⟨_, rfl, ?_⟩; have n0_ := Aside0.mk (blk_below BKg1.out hb); have n1_ := Aside0.mk (below_step HB.out hb); clear BKg1 HB; have BKg1 := n0_; have HB := n1_; clear n0_ n1_ hb; have zw5_0 : w5.cell? ⟨g1, 0, none⟩ = some (.int .i64 x0) := (blk_cell BKg1.out 0).trans rfl; have hw5 : w5.cell? ⟨g, 0, none⟩ = some (.int .i64 f) := (HB.out.cell hlt).trans hc))
      go_ret
      exact ⟨by simp [h0'], HB.out⟩
/-- The table of fields. -/
def tabF (op : Int) : Int := ([0, 0, 25, 9, 5, 1, 1, 8, 3, 19] : List Int).getD op.toNat 0
/-- The program's table lies as its text lays it. -/
def Lies (w : World) : Prop := 0 < w.heap.size ∧ ∀ i : Nat, i < 10 → w.cell? ⟨0, i, none⟩ = some (.int .i64 (tabF i))
theorem Lies.below {w w' : World} (h : Lies w) (hb : Below w.heap.size w w') : Lies w' := ⟨Nat.lt_of_lt_of_le h.1 hb.size, fun i hi => (hb.cell (World.block_lt_of_cell? w _ (h.2 i hi))).trans (h.2 i hi)⟩
def impl_ActOk.f (k : Nat) (a0_0 : Int) (a0_1 : Int) (a0_2 : Int) (a0_3 : Int) (a0_4 : Int) (a0_5 : Int) (a0_6 : Nat) (a0_7 : ByteArray) (a0_8 : Int) (a0_9 : Int) (a0_10 : Int) (a0_11 : Nat) (a0_12 : ByteArray) (a0_13 : Int) : Option (Bool) := if a0_0 < 1 then (some false) else (if a0_0 > 9 then (some false) else ((impl_valid.f k a0_4 a0_5 a0_6 a0_7 a0_8).bind fun bK => ((impl_valid.f k a0_9 a0_10 a0_11 a0_12 a0_13).bind fun bV => (some (numF (tabF a0_0) a0_1 99 1 && (numF (tabF a0_0) a0_2 49 2 && (numF (tabF a0_0) a0_3 1000000000000 4 && (valF (tabF a0_0) 8 a0_4 bK && (valF (tabF a0_0) 16 a0_9 bV && (a0_0 != 7 || a0_4 == 4))))))))))
theorem impl_ActOk.mono : ∀ a0 a1 a2 a3 a4 a5 a6 a7 a8 a9 a10 a11 a12 a13 k, LeO (impl_ActOk.f k a0 a1 a2 a3 a4 a5 a6 a7 a8 a9 a10 a11 a12 a13) (impl_ActOk.f (k + 1) a0 a1 a2 a3 a4 a5 a6 a7 a8 a9 a10 a11 a12 a13) := by
  intro a0 a1 a2 a3 a4 a5 a6 a7 a8 a9 a10 a11 a12 a13 k
  unfold impl_ActOk.f
  repeat' first
      | (with_reducible exact impl_valid.mono _ _ _ _ _ _)
      | (with_reducible exact LeO.refl _)
      | (with_reducible refine LeO.ite ?_ ?_)
      | (with_reducible refine LeO.bind ?_ (fun _ => ?_))
      | exact impl_valid.mono _ _ _ _ _ _
end Go.Proofs.YtclploookcjcbaaDoor.PAct
