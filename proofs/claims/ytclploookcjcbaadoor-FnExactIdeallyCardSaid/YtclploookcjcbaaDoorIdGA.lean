/- Proved: what the program's comparison of two keys comes to; how tables lie and what a store leaves of them: what is kept by a step that writes into blocks of some types alone; one table of a list lent, written and put back; the program's search for a key in a list of pairs: the place of the first pair with that key, or -1; what slices.Delete of one pair does to a list of pairs of one's own; what the two checks of a value come to. Conditions: those each theorem states. -/
import Derived.Test.YtclploookcjcbaaDoorPIdex0
import Derived.Lib.SliceRun
import Derived.Deep.RegionLaw
namespace Go.Proofs.YtclploookcjcbaaDoor.PIde
open Go.RowKit Go.Proofs.YtclploookcjcbaaDoorW.PrintWords Go.Proofs.YtclploookcjcbaaDoorW.PrintLast Go.Proofs.YtclploookcjcbaaDoorW.PrintMore
attribute [local go_sem] max2_int min2_int max_two min_two max_three min_three max_four min_four   -- for this text's walks alone
set_option linter.unusedVariables false
set_option linter.unusedSimpArgs false
/-- A value's cells. -/
def vc (v : S29) : List Value := [.int .i64 v.f0, .int .i64 v.f1, .float .f64 v.f2, .string v.f3, .int .i64 v.f4]
def sameFb (a b : Nat) : Bool := ((a : Int) == b) || (!(feq a a) && !(feq b b))
/-- Two keys are the same. -/
def sameB (a b : S29) : Bool := a.f0 == b.f0 && (a.f1 == b.f1 && (a.f3.toList == b.f3.toList && (a.f4 == b.f4 && (!(a.f0 == 3) || sameFb a.f2 b.f2))))
theorem bits_run (a : Nat) (w : World) : (callFunc 69 #[.float .f64 a]).run Tryd.prog w = .ok (.value (.int .u64 a)) w := by
  rw [run_callFunc_extern (e := Extern.MathFloatBits.float64bits) Tryd.func69 (by kernel_rfl) (by kernel_rfl) (by kernel_rfl) (by kernel_rfl)]
  rfl
theorem sameF_calls (a b : Nat) (w : World) : Calls Tryd.prog 65 #[.float .f64 a, .float .f64 b] w fun e w' => e = .returned (.bool (sameFb a b)) ∧ w' = w := by
  have hd := bits_run
  unfold sameFb
  cases h0 : ((a : Int) == b)
  · cases h1 : feq a a
    · cases h2 : feq b b
      · go_enter Tryd.func65, Tryd.ntmps65
        go_wp2
        go_ret
        exact ⟨by simp, rfl⟩
      · go_enter Tryd.func65, Tryd.ntmps65
        go_wp2
        go_ret
        exact ⟨by simp, rfl⟩
    · go_enter Tryd.func65, Tryd.ntmps65
      go_wp2
      go_ret
      exact ⟨by simp, rfl⟩
  · go_enter Tryd.func65, Tryd.ntmps65
    go_wp2
    go_ret
    exact ⟨by simp, rfl⟩
theorem bne_t {α : Type} [BEq α] {a b : α} (h : (a == b) = true) : (a != b) = false := by unfold bne; rw [h]; rfl
theorem bne_f {α : Type} [BEq α] {a b : α} (h : (a == b) = false) : (a != b) = true := by unfold bne; rw [h]; rfl
set_option maxHeartbeats 2000000 in
set_option maxRecDepth 100000 in
theorem same_calls (a b : S29) (w : World) : Calls Tryd.prog 59 #[.agg (vc a).toArray, .agg (vc b).toArray] w fun e w' => e = .returned (.bool (sameB a b)) ∧ Below w.heap.size w w' := by
  obtain ⟨a0, a1, a2, a3, a4⟩ := a
  obtain ⟨b0, b1, b2, b3, b4⟩ := b
  unfold sameB vc
  simp only []
  have hu := Tryd.underlying29
  have HB := Below.refl w.heap.size w
  cases h0 : (a0 == b0)
  have n0 := bne_f h0
  rotate_left
  have n0 := bne_t h0
  cases h1 : (a1 == b1)
  have n1 := bne_f h1
  rotate_left
  have n1 := bne_t h1
  cases h2 : (a3.toList == b3.toList)
  have n2 := bne_f h2
  rotate_left
  have n2 := bne_t h2
  cases h3 : (a4 == b4)
  have n3 := bne_f h3
  rotate_left
  have n3 := bne_t h3
  cases h4 : (a0 == 3)
  have n4 := bne_f h4
  rotate_left
  have n4 := bne_t h4
  rotate_left
  all_goals
    go_enter Tryd.func59, Tryd.ntmps59
    go_wp2_with (go_at_call 65; refine (sameF_calls _ _ _).mono ?_; rintro e w' ⟨rfl, rfl⟩)
    go_ret
    exact ⟨by simp, by repeat (first | exact Below.refl _ _ | apply below_alloc)⟩
end Go.Proofs.YtclploookcjcbaaDoor.PIde
namespace Go.Proofs.YtclploookcjcbaaDoor.PIde
open Go.RowKit Go.Proofs.YtclploookcjcbaaDoorW.PrintWords Go.Proofs.YtclploookcjcbaaDoorW.PrintLast Go.Proofs.YtclploookcjcbaaDoorW.PrintMore
set_option linter.unusedVariables false
set_option linter.unusedSimpArgs false
/-- Blocks whose type is none of L are as they were. -/
def KT (L : List Nat) (w w' : World) : Prop := w.heap.size ≤ w'.heap.size ∧ ∀ (k : Nat) (cs : Array Value) (t : TypeId), w.heap[k]? = some (Obj.cells cs t (0, 0)) → t ∉ L → w'.heap[k]? = w.heap[k]?
theorem KT.refl (L : List Nat) (w : World) : KT L w w := ⟨Nat.le_refl _, fun _ _ _ _ _ => rfl⟩
theorem KT.trans {L : List Nat} {w w1 w2 : World} (h : KT L w w1) (k : KT L w1 w2) : KT L w w2 := ⟨Nat.le_trans h.1 k.1, fun i cs t hi ht => (k.2 i cs t ((h.2 i cs t hi ht).trans hi) ht).trans (h.2 i cs t hi ht)⟩
theorem KT.below {L : List Nat} {w w1 : World} (h : Below w.heap.size w w1) : KT L w w1 := ⟨h.size, fun k cs t hk _ => h.block k (blk_lt hk)⟩
theorem KT.mono {L L' : List Nat} {w w1 : World} (h : KT L w w1) (hL : ∀ t, t ∈ L → t ∈ L') : KT L' w w1 := ⟨h.1, fun k cs t hk ht => h.2 k cs t hk (fun h' => ht (hL t h'))⟩
theorem KT.grown {L : List Nat} {w w1 : World} {row : Option Nat} (h : w.grownBy w1 row) (hr : ∀ k, row = some k → ∃ cells t, w.heap[k]? = some (.cells cells t (0, 0)) ∧ t ∈ L) : KT L w w1 :=
  ⟨h.size, fun k cs t hk ht => h.block k (blk_lt hk) (fun e => by
    obtain ⟨cells, t', hc, ht'⟩ := hr k e.symm
    rw [hk] at hc
    injection hc with hc
    injection hc with _ hc
    exact ht (hc ▸ ht'))⟩
theorem KT.set {L : List Nat} {w : World} {g j : Nat} {cs : Array Value} {t : TypeId} (h : w.heap[g]? = some (.cells cs t (0, 0))) (ht : t ∈ L) (u : Value) : KT L w (w.setCell ⟨g, j, none⟩ u) :=
  ⟨by simp, fun k cs' t' hk ht' => Below.heap_setCell w ⟨g, j, none⟩ u k (fun e => by
    have e : k = g := e
    subst e
    rw [hk] at h
    injection h with h
    injection h with _ h
    exact ht' (h ▸ ht))⟩
theorem KT.drew {L : List Nat} {w w1 : World} (h : KT L w w1) : KT L w w1.drew := h
theorem KT.blk {L : List Nat} {w w1 : World} {k : Nat} {cs : Array Value} {t : TypeId} (h : KT L w w1) (hk : w.heap[k]? = some (.cells cs t (0, 0))) (ht : t ∉ L) : w1.heap[k]? = some (.cells cs t (0, 0)) := (h.2 k cs t hk ht).trans hk
section
variable {α : Type} {d : Kd α} {e base : Nat} {ok : Nat → Prop} {w w1 : World} {v : Value} {xs : List α} {L : List Nat}
theorem R_KT (h : Kd.R d e w base ok v xs) (hk : KT L w w1) (hL : ∀ q, q ∈ e :: d.E → q ∉ L) : Kd.R d e w1 base ok v xs :=
  Kd.R_mono (Kd.R_move (Kd.R_bound h) (fun k ⟨_, _, _, q, hq, cs, hc⟩ => hk.2 k cs q hc (hL q hq))) (fun _ hk => hk.1)
theorem S_KT (h : Kd.S d e w base ok v xs) (hk : KT L w w1) (hL : ∀ q, q ∈ e :: d.E → q ∉ L) : Kd.S d e w1 base ok v xs :=
  Kd.S_mono (Kd.S_move (Kd.S_bound h) (fun k ⟨_, _, _, q, hq, cs, hc⟩ => hk.2 k cs q hc (hL q hq))) (fun _ hk => hk.1)
end
def tt (_ : Nat) : Prop := True
theorem set_one (w : World) (g o : Nat) (u : Value) : w.setCells g o [u] = w.setCell ⟨g, o, none⟩ u := rfl
/-- One table of a list, lent: its pairs, its cells; and how it is put back. -/
theorem T_lend {W : World} {base g n cap : Nat} {ts : List S78} (h : Kd.S k78 78 W base tt (.slice (some ⟨g, 0, none⟩) n cap) ts) (i : Int) (h0 : 0 ≤ i) (h1 : i < n) :
    ∃ (oki : Nat → Prop) (pv : Value), k88.R 88 W base oki pv (rd_T78 ts i).f0 ∧ W.cell? ⟨g, i.toNat * 2, none⟩ = some pv ∧ W.cell? ⟨g, i.toNat * 2 + 1, none⟩ = some (.int .i64 (rd_T78 ts i).f1) ∧ W.frozen? ⟨g, i.toNat * 2, none⟩ = false ∧ W.frozen? ⟨g, i.toNat * 2 + 1, none⟩ = false ∧
      (∀ tn', Kd.S k78 78 (W.setCell ⟨g, i.toNat * 2 + 1, none⟩ (.int .i64 tn')) base tt (.slice (some ⟨g, 0, none⟩) n cap) (ts.set i.toNat ⟨(rd_T78 ts i).f0, tn'⟩)) ∧
      ∀ W1 : World, W.heap.size ≤ W1.heap.size → (∀ k, k < W.heap.size → ¬ oki k → W1.heap[k]? = W.heap[k]?) → ∀ pv' ps', k88.R 88 W1 base (fun k => oki k ∨ W.heap.size ≤ k) pv' ps' →
        (pv' = pv → Kd.S k78 78 W1 base tt (.slice (some ⟨g, 0, none⟩) n cap) (ts.set i.toNat ⟨ps', (rd_T78 ts i).f1⟩)) ∧
        Kd.S k78 78 (W1.setCell ⟨g, i.toNat * 2, none⟩ pv') base tt (.slice (some ⟨g, 0, none⟩) n cap) (ts.set i.toNat ⟨ps', (rd_T78 ts i).f1⟩) := by
  obtain ⟨oki, c, hcl, hM, hcc, hfr, hoki, hH⟩ := Kd.S_elem h z78 i h0 h1
  obtain ⟨pv, rfl, hR⟩ := k78_openM hM
  have e0 : W.cell? ⟨g, i.toNat * 2, none⟩ = some pv := hcc 0 pv rfl
  have e1 : W.cell? ⟨g, i.toNat * 2 + 1, none⟩ = some (.int .i64 (rd_T78 ts i).f1) := hcc 1 _ rfl
  refine ⟨oki, pv, hR, e0, e1, hfr 0, hfr 1, fun tn' => ?_, fun W1 hs hb pv' ps' hR1 => ⟨fun e => ?_, ?_⟩⟩
  · exact (Kd.S_seg0 (okp := oki) hH h0 h1 (seg := [.int .i64 tn']) (j := 1) (by show _ ≤ 2; simp) (x' := ⟨(rd_T78 ts i).f0, tn'⟩) (k78_mkM W base oki ⟨(rd_T78 ts i).f0, tn'⟩ hR) (fun _ hk => hk)).1
  · subst e
    have hH1 := Kd.H_step (Kd.H_widen hH) (w1 := W1) (fun k _ hn hlt => hb k hlt (fun hk => hn (.inl hk)))
    exact Kd.H_back hH1 (k78_mkM W1 base _ ⟨ps', (rd_T78 ts i).f1⟩ hR1) (fun k hk => hk.imp id (fun hk => ⟨trivial, hk⟩))
  · have hH1 := Kd.H_step (Kd.H_widen hH) (w1 := W1) (fun k _ hn hlt => hb k hlt (fun hk => hn (.inl hk)))
    exact (Kd.S_seg0 (okp := fun k => oki k ∨ W.heap.size ≤ k) hH1 h0 h1 (seg := [pv']) (j := 0) (by show _ ≤ 2; simp) (x' := ⟨ps', (rd_T78 ts i).f1⟩) (k78_mkM W1 base _ ⟨ps', (rd_T78 ts i).f1⟩ hR1) (fun k hk => hk.imp id (fun hk => ⟨trivial, hk⟩))).1
end Go.Proofs.YtclploookcjcbaaDoor.PIde
namespace Go.Proofs.YtclploookcjcbaaDoor.PIde
open Go.RowKit Go.Proofs.YtclploookcjcbaaDoorW.PrintWords Go.Proofs.YtclploookcjcbaaDoorW.PrintLast Go.Proofs.YtclploookcjcbaaDoorW.PrintMore
attribute [local go_sem] max2_int min2_int max_two min_two max_three min_three max_four min_four   -- for this text's walks alone
set_option linter.unusedVariables false
set_option linter.unusedSimpArgs false
section
variable {P : Program} {ops : Array Oper} {Q : Exit → Act → World → Prop}
/-- A call of a function value, as an arm of go_wp2_with. -/
theorem goesC_ {rest : List Oper} {oi : Oper} {a : Act} {w : World} (N : Option Tmp) (hd : oi.dst = N) (hg : oi.guard = none) {f : FuncId} {fn : Func} {o : Operand} {cap : Array Value} {ags : Array Operand} {ts : Array TypeId} (ho : a.eval o = .func (.func f) #[] cap)
    (hf : P.funcs[f]? = some fn) (hname : (fn.name == "runtime.NumGoroutine") = false) (hb : fn.body.isSome = true) (args : Array Value)
    (hop : oi.op = .call { callee := .value o, args := ags, argTypes := ts }) (hargs : ags.map a.eval ++ cap = args)
    (h : Calls P f args w fun e w' => ∃ v, e = .returned v ∧ wpList P ops Q rest (a.put N v) w') : wpList P ops Q (oi :: rest) a w := by
  refine wpList_plain hg fun K hK => ?_
  have he := enters_ hf hname hb args w
  have hrun : (execOp a.eval oi).run P w = .ok (.enter f args) w := by
    unfold execOp
    simp [hop, resolve, Deferred.ofValue, ho, invoke, hargs, he]
  unfold Oper.wp
  rw [hrun, Oper.upon_enter]
  refine h.mono fun e w'' hh => ?_
  obtain ⟨v, rfl, hk⟩ := hh
  subst hd
  exact hK _ _ hk
/-- A function literal is made, as an arm of go_wp2_with. -/
theorem mkfL_ {rest : List Oper} {oi : Oper} {a : Act} {w : World} (N : Option Tmp) (hd : oi.dst = N) (hg : oi.guard = none) {fn : Fn} {cap : Array Operand} (hop : oi.op = .makeFunc fn #[] cap) (vs : Array Value) (hv : cap.map a.eval = vs)
    (h : wpList P ops Q rest (a.put N (.func fn #[] vs)) w) : wpList P ops Q (oi :: rest) a w := by
  refine wpList_plain hg fun K hK => ?_
  have hmf : ∀ (fn : Fn) (first cap : Array Value) (w : World), (Instr.makeFunc fn first cap).run P w = .ok (.func fn first cap) w := fun _ _ _ _ => rfl
  have hrun : (execOp a.eval oi).run P w = .ok (.value (.func fn #[] vs)) w := by
    unfold execOp
    simp [hop, hv, hmf]
  unfold Oper.wp
  rw [hrun]
  subst hd
  exact hK _ _ h
end
/-- A pair's cells. -/
def pc (p : S88) : List Value := vc p.f0 ++ vc p.f1 ++ [.int .i64 p.f2]
/-- The place of a key: -1 for none. -/
def idxK (k : S29) : List S88 → Int
  | [] => -1
  | p :: ps => if sameB p.f0 k = true then 0 else if idxK k ps = -1 then -1 else idxK k ps + 1
theorem idxK_none (k : S29) : ∀ ps : List S88, (∀ i : Nat, i < ps.length → sameB (ps.getD i z88).f0 k = false) → idxK k ps = -1
  | [], _ => rfl
  | p :: ps, h => by
    have h0 := h 0 (by simp)
    have ih := idxK_none k ps (fun i hi => by have := h (i + 1) (by simp; omega); simpa using this)
    simp only [List.getD_cons_zero] at h0
    unfold idxK
    rw [if_neg (by rw [h0]; simp), if_pos ih]
theorem idxK_at (k : S29) : ∀ (ps : List S88) (n : Nat), n < ps.length → (∀ i : Nat, i < n → sameB (ps.getD i z88).f0 k = false) → sameB (ps.getD n z88).f0 k = true → idxK k ps = (n : Int)
  | [], n, hn, _, _ => by simp at hn
  | p :: ps, 0, hn, _, h => by
    simp only [List.getD_cons_zero] at h
    unfold idxK
    rw [if_pos h]
    rfl
  | p :: ps, n + 1, hn, h, h1 => by
    have h0 := h 0 (by omega)
    simp only [List.getD_cons_zero] at h0
    have ih := idxK_at k ps n (by simpa using hn) (fun i hi => by have := h (i + 1) (by omega); simpa using this) (by simpa using h1)
    unfold idxK
    rw [if_neg (by rw [h0]; simp), if_neg (by omega), ih]
    omega
set_option maxHeartbeats 1000000 in
theorem lit_calls (p : S88) (k : S29) (g : Nat) (w : World) (hk : w.heap[g]? = some (.cells (vc k).toArray 29 (0, 0))) :
    Calls Tryd.prog 58 #[.agg (pc p).toArray, .pointer (some ⟨g, 0, none⟩)] w fun e w' => e = .returned (.bool (sameB p.f0 k)) ∧ Below w.heap.size w w' := by
  have hg := blk_lt hk
  have c0 : w.cell? ⟨g, 0, none⟩ = some (.int .i64 k.f0) := (blk_cell hk 0).trans rfl
  have c1 : w.cell? ⟨g, 1, none⟩ = some (.int .i64 k.f1) := (blk_cell hk 1).trans rfl
  have c2 : w.cell? ⟨g, 2, none⟩ = some (.float .f64 k.f2) := (blk_cell hk 2).trans rfl
  have c3 : w.cell? ⟨g, 3, none⟩ = some (.string k.f3) := (blk_cell hk 3).trans rfl
  have c4 : w.cell? ⟨g, 4, none⟩ = some (.int .i64 k.f4) := (blk_cell hk 4).trans rfl
  have hu := Tryd.underlying29
  have hu2 := Tryd.underlying88
  clear hk
  unfold pc vc
  simp only [List.cons_append, List.nil_append]
  go_enter Tryd.func58, Tryd.ntmps58
  go_wp2_with (go_at_call 59; refine (same_calls p.f0 k _).mono ?_; rintro e w1 ⟨rfl, hb⟩)
  go_ret
  exact ⟨rfl, (below_alloc (Below.refl _ _) _).trans (hb.mono (by simp))⟩
set_option maxHeartbeats 4000000 in
set_option maxRecDepth 100000 in
theorem idx_calls (ps : List S88) (k : S29) (A : Option Addr) (c g : Nat) (w : World) (hr : Kd.C k88 w A ps.length ps) (hk : w.heap[g]? = some (.cells (vc k).toArray 29 (0, 0))) :
    Calls Tryd.prog 57 #[.slice A ps.length c, .func (.func 58) #[] #[.pointer (some ⟨g, 0, none⟩)]] w fun e w' => e = .returned (.int .i64 (idxK k ps)) ∧ Below w.heap.size w w' := by
  have HM := Aside0.mk hr.2.1
  have HR := Aside0.mk hr
  have HK := Aside0.mk hk
  have HL := Aside0.mk (blk_lt hk)
  have HB := Aside0.mk (Below.refl w.heap.size w)
  clear hr hk
  have hu := Tryd.underlying88
  go_enter Tryd.func57, Tryd.ntmps57
  go_wp2
  go_loopg [5, 8] ps.length (fun d v5 v8 wr => ∃ i : Nat, v8 = .int .i64 (i : Int) ∧ Aside0 (i + d = ps.length) ∧ Aside0 (∀ j : Nat, j < i → sameB (ps.getD j z88).f0 k = false) ∧ Aside0 (Below w.heap.size w wr))
  case atStart => exact ⟨0, rfl, ⟨Nat.zero_add _⟩, ⟨fun j hj => absurd hj (Nat.not_lt_zero j)⟩, HB⟩
  case round =>
    clear HB
    obtain ⟨i, rfl, HD, HN, HB⟩ := hrel
    have hm := HM.out
    cases gk with
    | zero =>
      have c1 : decide ((i : Int) < (ps.length : Int)) = false := decide_eq_false (by have := HD.out; omega)
      have c1n : decide (i < ps.length) = false := decide_eq_false (by have := HD.out; omega)
      have HI := Aside0.mk (idxK_none k ps (fun j hj => HN.out j (by have := HD.out; omega)))
      clear hm
      go_wp2
      go_ret
      exact ⟨by rw [HI.out]; first | rfl | simp, HB.out⟩
    | succ d =>
      have hi : i < ps.length := by have := HD.out; omega
      have c1 : decide ((i : Int) < (ps.length : Int)) = true := decide_eq_true (by omega)
      have c1n : decide (i < ps.length) = true := decide_eq_true hi
      have c2 : decide (0 ≤ (i : Int)) = true := decide_eq_true (by omega)
      obtain ⟨ad, e1, hx0, hx1, hx2, hx3, hx4, hx5, hx6, hx7, hx8, hx9, hx10⟩ := at_T88 HR.out (i : Int) (by omega) (by omega)
      cases e1
      have lt := World.block_lt_of_cell? w _ hx0
      replace hx0 := (HB.out.cell (World.block_lt_of_cell? w _ hx0)).trans hx0
      replace hx1 := (HB.out.cell (World.block_lt_of_cell? w _ hx1)).trans hx1
      replace hx2 := (HB.out.cell (World.block_lt_of_cell? w _ hx2)).trans hx2
      replace hx3 := (HB.out.cell (World.block_lt_of_cell? w _ hx3)).trans hx3
      replace hx4 := (HB.out.cell (World.block_lt_of_cell? w _ hx4)).trans hx4
      replace hx5 := (HB.out.cell (World.block_lt_of_cell? w _ hx5)).trans hx5
      replace hx6 := (HB.out.cell (World.block_lt_of_cell? w _ hx6)).trans hx6
      replace hx7 := (HB.out.cell (World.block_lt_of_cell? w _ hx7)).trans hx7
      replace hx8 := (HB.out.cell (World.block_lt_of_cell? w _ hx8)).trans hx8
      replace hx9 := (HB.out.cell (World.block_lt_of_cell? w _ hx9)).trans hx9
      replace hx10 := (HB.out.cell (World.block_lt_of_cell? w _ hx10)).trans hx10
      simp only [Int.toNat_natCast] at hx0 hx1 hx2 hx3 hx4 hx5 hx6 hx7 hx8 hx9 hx10
      have q1 : 0 ≤ (i : Int) := by omega
      have q2 : (i : Int) < (ps.length : Int) := by omega
      have q3 : IntKind.i64.wrap ((i : Int) + 1) = ((i + 1 : Nat) : Int) := by rw [IntWalk.i64_in _ ⟨by omega, by omega⟩]; omega
      have HS : Aside0 (rd_T88 ps (i : Int) = ps.getD i z88) := Aside0.mk (by simp [rd_T88])
      have HK1 := Aside0.mk (blk_below HK.out HB.out)
      have HI := Aside0.mk hi
      clear hm hi lt
      cases hs : sameB (rd_T88 ps (i : Int)).f0 k
      all_goals go_wp2_with (go_at_call 58; refine (lit_calls (rd_T88 ps (i : Int)) k g _ HK1.out).mono ?_; rintro e w1 ⟨rfl, hb⟩; have HB1 := Aside0.mk (below_step HB.out hb); clear hb; rw [hs])
      · go_roundg d
        case measure => omega
        case rel => exact ⟨i + 1, by first | rfl | (rw [q3]; done) | simp, ⟨by have := HD.out; omega⟩, ⟨fun j hj => by
          by_cases h : j = i
          · subst h; rw [← HS.out]; exact hs
          · exact HN.out j (by omega)⟩, HB1⟩
      · go_ret
        exact ⟨by rw [idxK_at k ps i HI.out HN.out (by rw [← HS.out]; exact hs)]; first | rfl | simp, HB1.out⟩
set_option maxHeartbeats 2000000 in
set_option maxRecDepth 100000 in
/-- t.at(k): the table is told by its cells' address. -/
theorem at_calls (ps : List S88) (k : S29) (A : Option Addr) (c b o : Nat) (w : World) (hp : w.cell? ⟨b, o, none⟩ = some (.slice A ps.length c)) (hr : Kd.C k88 w A ps.length ps) :
    Calls Tryd.prog 44 #[.pointer (some ⟨b, o, none⟩), .agg (vc k).toArray] w fun e w' => e = .returned (.int .i64 (idxK k ps)) ∧ Below w.heap.size w w' := by
  have hlt := World.block_lt_of_cell? w _ hp
  have HR := Aside0.mk hr
  clear hr
  have hu := Tryd.underlying29
  have hu2 := Tryd.underlying78
  have e0 : (vc k).toArray = #[.int .i64 k.f0, .int .i64 k.f1, .float .f64 k.f2, .string k.f3, .int .i64 k.f4] := rfl
  rw [e0]
  go_enter Tryd.func44, Tryd.ntmps44
  go_wp2_with (first | ((with_reducible refine mkfL_ (some 9) rfl rfl rfl #[.pointer (some ⟨w.heap.size, 0, none⟩)] rfl ?_)) | (go_at_call 57; (refine (idx_calls ps k A c w.heap.size _ ?s1 ?s2).mono ?_; (case s1 => exact Kd.C_alloc HR.out _); (case s2 => rw [e0]; simpa using heap_alloc_new w _); rintro e w1 ⟨rfl, hb⟩)))
  go_ret
  exact ⟨rfl, (below_alloc (Below.refl _ _) _).trans (hb.mono (by simp))⟩
end Go.Proofs.YtclploookcjcbaaDoor.PIde
namespace Go.Proofs.YtclploookcjcbaaDoor.PIde
open Go.RowKit Go.Proofs.YtclploookcjcbaaDoorW.PrintWords Go.Proofs.YtclploookcjcbaaDoorW.PrintLast Go.Proofs.YtclploookcjcbaaDoorW.PrintMore
attribute [local go_sem] max2_int min2_int max_two min_two max_three min_three max_four min_four   -- for this text's walks alone
set_option linter.unusedVariables false
set_option linter.unusedSimpArgs false
/-- A pair of zero values, as cells. -/
def zp : List Value := [.int .i64 0, .int .i64 0, .float .f64 0, .string ⟨#[]⟩, .int .i64 0, .int .i64 0, .int .i64 0, .float .f64 0, .string ⟨#[]⟩, .int .i64 0, .int .i64 0]
theorem zero88 (w : World) : (zeroValue 88).run Tryd.prog w = .ok (.agg zp.toArray) w := by kernel_rfl
/-- clear at one pair. -/
theorem clear_one (w : World) (ty : TypeId) (b o c : Nat) (hc : ∀ j, j < 11 → (w.cell? ⟨b, o + j, none⟩).isSome = true) (hf : ∀ j, j < 11 → w.frozen? ⟨b, o + j, none⟩ = false) :
    (Builtin.clear_ #[76] ty #[.slice (some ⟨b, o, none⟩) 1 c]).run Tryd.prog w = .ok (.tuple #[]) (w.setCells b o zp) := by
  have hst := run_storeCells_cells (P := Tryd.prog) b o zp 0 w (by simpa [zp] using hc) (by simpa [zp] using hf) (by unfold zp; simp [Value.oneCell'])
  simp only [Nat.add_zero] at hst
  obtain ⟨z, hz0, hz⟩ : ∃ z : Value, (∀ w, (zeroValue 88).run Tryd.prog w = .ok z w) ∧ (Builtin.zeroCells z.cells 1).toList = zp := ⟨_, zero88, by kernel_rfl⟩
  simp [Builtin.clear_, run_underlying Tryd.underlying76, hz0, hz, hst]
/-- Cells behind the row's end are written. -/
theorem R_spare {α : Type} {d : Kd α} {e : Nat} {W : World} {base : Nat} {ok : Nat → Prop} {g n c : Nat} {xs : List α} (h : d.R e W base ok (.slice (some ⟨g, 0, none⟩) n c) xs) {o : Nat} {seg : List Value} (h0 : n * d.sz ≤ o) (h1 : o + seg.length ≤ c * d.sz) :
    d.R e (W.setCells g o seg) base ok (.slice (some ⟨g, 0, none⟩) n c) xs ∧ W.grownBy (W.setCells g o seg) (some g) := by
  obtain rfl := (Kd.R_reads' h).1
  obtain ⟨hok, inner, ⟨ho1, ho2⟩, hr⟩ := h
  rcases ho2 with ⟨hv, _⟩ | ⟨g', cap', cur, hv, hb, hh, hnc, hcm, hcs, ht⟩
  · cases hv
  · injection hv with ha hn' hc
    injection ha with ha
    injection ha with hg
    subst hg; subst hc
    obtain ⟨cur', h3, h4, h5⟩ := setCells_row seg o W cur hh (by omega)
    obtain ⟨s1, s2, s3, s4⟩ := setCells_same g seg o W
    have hfar : ∀ k, k ≠ g → (W.setCells g o seg).heap[k]? = W.heap[k]? := fun k hk => setCells_far seg _ k hk
    refine ⟨⟨hok, inner, ⟨ho1, .inr ⟨g, c, cur', rfl, hb, h3, hnc, hcm, by omega, ?_⟩⟩, hr.1, fun j p hj => ?_⟩, ⟨s1, s2, s3, by omega, fun k hk hne => hfar k (fun e => hne (by rw [e]))⟩⟩
    · have hlc : o ≤ cur.toList.length := by rw [Array.length_toList]; omega
      have hle : xs.length * d.sz ≤ o := h0
      rw [h5, ← ht, List.append_assoc, List.take_append_of_le_length (by rw [List.length_take]; show xs.length * d.sz ≤ _; omega), List.take_take]
      congr 1
      show min (xs.length * d.sz) o = xs.length * d.sz
      omega
    · exact d.M_move (fun k hk => hfar k (fun e => hk.2 (by rw [e]; rfl))) (hr.2 j p hj)
theorem del_addr (g c i : Nat) : (if c = i + 1 then some (⟨g, 0, none⟩ : Addr) else some ⟨g, (i + 1) * 11, none⟩) = if c = i + 1 then some ⟨g, 0, none⟩ else (some (⟨g, 0, none⟩ : Addr)).map (·.add ((i + 1) * k88.sz)) := by
  split
  · rfl
  · show _ = some ((⟨g, 0, none⟩ : Addr).add ((i + 1) * 11))
    rw [Addr.add_lit, Nat.zero_add]
theorem grown_drew {w w1 : World} {r : Option Nat} (h : w.drew.grownBy w1 r) : w.grownBy w1 r := ⟨h.os, h.tape, h.output, h.size, h.block⟩
theorem info88 : (Tryd.prog.info? 88).map (·.size) = some 11 := by kernel_rfl
set_option maxHeartbeats 4000000 in
set_option maxRecDepth 100000 in
theorem del_calls (ps : List S88) (g c i : Nat) (base : Nat) (w0 w : World) (hB : Below base w0 w) (hbase : base ≤ w.heap.size) (hi : i < ps.length) (hO : Kd.R k88 88 w base (fun _ => True) (.slice (some ⟨g, 0, none⟩) ps.length c) ps) :
    Calls Tryd.prog 45 #[.slice (some ⟨g, 0, none⟩) ps.length c, .int .i64 (i : Int), .int .i64 ((i + 1 : Nat) : Int)] w fun e w' => e = .returned (.slice (some ⟨g, 0, none⟩) (ps.length - 1) c) ∧
      Kd.R k88 88 w' base (fun _ => True) (.slice (some ⟨g, 0, none⟩) (ps.length - 1) c) (ps.eraseIdx i) ∧ Below base w0 w' ∧ w.grownBy w' (some g) := by
  have hr := Kd.R_reads' hO
  have hm : ps.length ≤ 9223372036854775807 := hr.2.2.2.1
  have hcap := hr.2.1
  have HO := Aside0.mk hO
  have HB := Aside0.mk hB
  have HS := Aside0.mk hbase
  have HI := Aside0.mk hi
  have HM := Aside0.mk hm
  have HC := Aside0.mk hcap
  have hu := Tryd.underlying76
  have q0 : 0 ≤ (i : Int) := by omega
  have q1 : (i : Int) ≤ ((i + 1 : Nat) : Int) := by omega
  have q2 : ((i + 1 : Nat) : Int) ≤ (ps.length : Int) := by omega
  have q3 : i ≤ i + 1 := by omega
  have q10 : 0 ≤ (i : Int) + 1 := by omega
  have q11 : (i : Int) + 1 ≤ (ps.length : Int) := by omega
  have q4 : i + 1 ≤ ps.length := by omega
  have q5 : i ≤ c := by omega
  have q6 : i + 1 ≤ c := by omega
  have q7 : i ≤ ps.length := by omega
  have q8 : ((i : Int) == ((i + 1 : Nat) : Int)) = false := beq_eq_false_iff_ne.mpr (by omega)
  have q9 : (i == i + 1) = false := beq_eq_false_iff_ne.mpr (by omega)
  clear hr hO hB hbase hi hm
  go_enter Tryd.func45, Tryd.ntmps45
  go_wp2
  go_region_law (refine Kd.R_delete_step k88 (w0 := w0) base (by rfl) (.tmp 22) (.tmp 25) 76 88 rfl hu info88 (g := g) (n := ps.length) (c := c) (k := i) (m := ps.length - (i + 1)) (c2 := c - (i + 1)) (A := if c = i + 1 then some ⟨g, 0, none⟩ else some ⟨g, (i + 1) * 11, none⟩) (xs := ps) (ok := fun _ => True) ?h1 ?h2 ?h3 rfl ?h4 HI.out ?h5 ?h6 ?_; (case h1 => simp [Act.eval, Act.put]); (case h2 => simp [Act.eval, Act.put]); (case h3 => exact del_addr g c i); (case h4 => (with_reducible repeat (first | apply Kd.R_drewN | apply Kd.R_drew)); exact HO.out); (case h5 => (with_reducible repeat (first | apply pw_below_drewN | apply below_drew1)); exact HB.out); (case h6 => exact HS.out); intro w1 hR hB1 hG)
  have hr := Kd.R_reads' hR
  obtain ⟨hR2, hG2⟩ := R_spare hR (o := (ps.length - 1) * 11) (seg := zp) (by show _ ≤ _; exact Nat.le_refl _) (by show _ + 11 ≤ c * 11; have := HC.out; have := HI.out; omega)
  have hcl : ∀ ty, (Builtin.clear_ #[76] ty #[.slice (some ⟨g, (ps.length - 1) * 11, none⟩) 1 (c - (ps.length - 1))]).run Tryd.prog w1 = .ok (.tuple #[]) (w1.setCells g ((ps.length - 1) * 11) zp) := fun ty => by
    obtain ⟨hok, inner, ⟨ho1, ho2⟩, _⟩ := hR
    rcases ho2 with ⟨hv, _⟩ | ⟨g', cap', cur, hv, hb, hh, hnc, hcm, hcs, ht⟩
    · cases hv
    · injection hv with ha hn' hc
      injection ha with ha
      injection ha with hg
      subst hg; subst hc
      have hsz : cur.size = c * 11 := hcs
      have hlt : (ps.length - 1) * 11 + 11 ≤ cur.size := by rw [hsz]; have := HC.out; have := HI.out; omega
      exact clear_one w1 ty g _ _ (fun j hj => by rw [cell_of_row w1 g _ cur _ (0, 0) hh, Array.getElem?_eq_getElem (by omega)]; rfl) (fun j hj => blk_frozen hh _)
  have HR2 := Aside0.mk hR2
  have HB2 := Aside0.mk (hB1.grown hG2 (Nat.le_trans HS.out hG.size) (fun k hk => by injection hk with hk; subst hk; exact Kd.R_base hR _ (by rfl)))
  have HG2 := Aside0.mk (hG.trans hG2)
  have p0 : 0 ≤ (((ps.length - 1 : Nat) : Int)) := by omega
  have p1 : ((ps.length - 1 : Nat) : Int) ≤ (ps.length : Int) := by omega
  have p2 : ps.length - 1 ≤ ps.length := by omega
  have p3 : ps.length ≤ c := HC.out
  have p4 : (ps.length : Int) ≤ (c : Int) := by have := HC.out; omega
  have p5 : ps.length - (ps.length - 1) = 1 := by have := HI.out; omega
  have p6 : ¬ (c = ps.length - 1) := by have := HI.out; have := HC.out; omega
  clear hR hB1 hG hr hR2 hG2 hcap
  go_wp2
  all_goals
    go_ret
    first
      | exact ⟨rfl, HR2.out, HB2.out, grown_drew HG2.out⟩
      | (have e : c = i + 1 := by assumption
         rw [← e]
         exact ⟨rfl, HR2.out, HB2.out, grown_drew HG2.out⟩)
end Go.Proofs.YtclploookcjcbaaDoor.PIde
namespace Go.Proofs.YtclploookcjcbaaDoor.PIde
open Go.RowKit Go.Proofs.YtclploookcjcbaaDoorW.PrintWords Go.Proofs.YtclploookcjcbaaDoorW.PrintLast Go.Proofs.YtclploookcjcbaaDoorW.PrintMore
attribute [local go_sem] max2_int min2_int max_two min_two max_three min_three max_four min_four   -- for this text's walks alone
set_option linter.unusedVariables false
set_option linter.unusedSimpArgs false
/-- All but the fields told are zero. -/
def zB (v : S29) (num flt str ref : Bool) : Bool := (num || v.f1 == 0) && ((flt || feq v.f2 0) && ((str || v.f3.toList == []) && (ref || v.f4 == 0)))
/-- A value is one of the language. -/
def vB (v : S29) : Bool :=
  if v.f0 = 0 then zB v false false false false else if v.f0 = 1 then zB v true false false false && (v.f1 == 0 || v.f1 == 1) else if v.f0 = 2 then zB v true false false false else if v.f0 = 3 then zB v false true false false
  else if v.f0 = 4 then zB v false false true false && decide (v.f3.size ≤ 4000) else if v.f0 = 5 then zB v false false false true && decide (v.f4 ≥ 0) else if v.f0 = 6 then zB v false false false true && decide (v.f4 ≥ 0) else if v.f0 = 7 then zB v false false false true && decide (v.f4 ≥ 0)
  else if v.f0 = 8 then zB v true false false false && (decide (v.f1 ≥ 0) && decide (v.f1 < 15)) else false
theorem kinds (n : Int) : n = 0 ∨ n = 1 ∨ n = 2 ∨ n = 3 ∨ n = 4 ∨ n = 5 ∨ n = 6 ∨ n = 7 ∨ n = 8 ∨ ((n == 0) = false ∧ (n == 1) = false ∧ (n == 2) = false ∧ (n == 3) = false ∧ (n == 4) = false ∧ (n == 5) = false ∧ (n == 6) = false ∧ (n == 7) = false ∧ (n == 8) = false) := by
  by_cases h : n = 0 ∨ n = 1 ∨ n = 2 ∨ n = 3 ∨ n = 4 ∨ n = 5 ∨ n = 6 ∨ n = 7 ∨ n = 8
  · omega
  · simp only [beq_eq_false_iff_ne]; omega
set_option maxHeartbeats 4000000 in
set_option maxRecDepth 100000 in
theorem valid_calls (v : S29) (w : World) : Calls Tryd.prog 24 #[.agg (vc v).toArray] w fun e w' => e = .returned (.bool (vB v)) ∧ Below w.heap.size w w' := by
  obtain ⟨a0, a1, a2, a3, a4⟩ := v
  unfold vc
  simp only []
  have hu := Tryd.underlying29
  rcases kinds a0 with rfl | rfl | rfl | rfl | rfl | rfl | rfl | rfl | rfl | ⟨h0, h1, h2, h3, h4, h5, h6, h7, h8⟩
  all_goals
    go_enter Tryd.func24, Tryd.ntmps24
    go_wp2
    go_quiet (fail)
    go_wp2
  all_goals
    go_ret
    refine ⟨?_, ?_⟩
    rotate_left
    · repeat (first | with_reducible exact Below.refl _ _ | apply below_alloc | apply pw_below_drewN)
    · first | (simp_all [vB, zB]; done) | (simp_all [vB, zB]; omega) | (simp_all [vB, zB]; intros; omega)
set_option maxHeartbeats 4000000 in
set_option maxRecDepth 100000 in
theorem zero_calls (v : S29) (num flt str ref : Bool) (w : World) : Calls Tryd.prog 35 #[.agg (vc v).toArray, .bool num, .bool flt, .bool str, .bool ref] w fun e w' => e = .returned (.bool (zB v num flt str ref)) ∧ Below w.heap.size w w' := by
  obtain ⟨a0, a1, a2, a3, a4⟩ := v
  unfold vc
  simp only []
  have hu := Tryd.underlying29
  cases num <;> cases flt <;> cases str <;> cases ref
  all_goals
    go_enter Tryd.func35, Tryd.ntmps35
    go_wp2
  all_goals
    go_ret
    refine ⟨?_, ?_⟩
    rotate_left
    · repeat (first | with_reducible exact Below.refl _ _ | apply below_alloc | apply pw_below_drewN)
    · simp_all [zB]
theorem bx {w w1 : World} {cs : Array Value} {t : TypeId} (hb : Below (w.alloc (.cells cs t)).heap.size (w.alloc (.cells cs t)) w1) (j : Nat) : w1.cell? ⟨w.heap.size, j, none⟩ = cs[j]? := blk_cell (blk_below (heap_alloc_new w (.cells cs t)) hb) j
theorem bxB {w w1 : World} {o : Obj} (hb : Below (w.alloc o).heap.size (w.alloc o) w1) : Below w.heap.size w w1 := (below_alloc (Below.refl _ _) _).trans (hb.mono (by simp))
set_option maxHeartbeats 4000000 in
set_option maxRecDepth 100000 in
theorem ValueOk_calls (v : S29) (w : World) : Calls Tryd.prog 19 #[.agg (vc v).toArray] w fun e w' => e = .returned (.bool (vB v)) ∧ Below w.heap.size w w' := by
  obtain ⟨a0, a1, a2, a3, a4⟩ := v
  unfold vc
  simp only []
  have hu := Tryd.underlying29
  rcases kinds a0 with rfl | rfl | rfl | rfl | rfl | rfl | rfl | rfl | rfl | ⟨h0, h1, h2, h3, h4, h5, h6, h7, h8⟩
  all_goals
    go_enter Tryd.func19, Tryd.ntmps19
    go_wp2_with (go_at_call 35; refine (zero_calls ⟨_, _, _, _, _⟩ _ _ _ _ _).mono ?_; rintro e w1 ⟨rfl, hb⟩; have z1 : w1.cell? ⟨w.heap.size, 1, none⟩ = some (.int .i64 a1) := (bx hb 1).trans rfl; have z3 : w1.cell? ⟨w.heap.size, 3, none⟩ = some (.string a3) := (bx hb 3).trans rfl; have z4 : w1.cell? ⟨w.heap.size, 4, none⟩ = some (.int .i64 a4) := (bx hb 4).trans rfl)
  all_goals
    go_ret
    refine ⟨?_, ?_⟩
    rotate_left
    · first | exact bxB (by assumption) | (repeat (first | with_reducible exact Below.refl _ _ | apply below_alloc | apply pw_below_drewN))
    · first | (simp_all [vB]; done) | (simp_all [vB]; omega) | (simp_all [vB]; intros; omega)
end Go.Proofs.YtclploookcjcbaaDoor.PIde
