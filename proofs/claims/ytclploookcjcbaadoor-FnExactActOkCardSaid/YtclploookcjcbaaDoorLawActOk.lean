/- Proved: the row FnExactActOk: for every act the law returns true, its argument and the program's table read as they did; and the row's tied card. No condition beyond the row's own. -/
import Derived.Test.YtclploookcjcbaaDoorCards
import Derived.Test.YtclploookcjcbaaDoorTie
import Derived.Test.YtclploookcjcbaaDoorActPure
import Derived.Test.YtclploookcjcbaaDoorOpen
import Derived.WalkKit
import Derived.ProofKit
import Derived.OpenShut
import Derived.ShutString
import Derived.ChangeOld
import Derived.Below
import Derived.Deep.DeepHandedRow
import Derived.Lib.LaidTab
import Derived.Lib.SmallJoins
import Derived.ChangeVars
namespace Go.Proofs.YtclploookcjcbaaDoor.fnExactActOk
open Go Go.ChangeShapes Go.WideShapes Go.ChangeAt Go.RowKit Go.Joins Go.Deep Go.Proofs.YtclploookcjcbaaDoor.Open
set_option linter.unusedVariables false
theorem own : ownKnob Tryd.prog.godebug = none := by kernel_rfl
theorem laidOut : laidOutB Tryd.prog = true := by kernel_rfl
theorem gTab : Tryd.prog.globalNamed "loop.example/shuttle/impl.fields" = some 0 := by kernel_rfl
theorem gTabType : (Tryd.prog.globals[0]?).map (·.type) = some 52 := by kernel_rfl
theorem cells52 : Tryd.prog.cellsOf 52 = 10 := by kernel_rfl
theorem cells3 : Tryd.prog.cellsOf 3 = 1 := by kernel_rfl
theorem table {W : World} (h : laidMetH Tryd.prog Rows.fnExactActOkRow.laid W) : Lib.TabIs Tryd.prog W "loop.example/shuttle/impl.fields" .i64 [0, 0, 25, 9, 5, 1, 1, 8, 3, 19] :=
  Lib.tabIs_of_head (rest := []) gTab gTabType Tryd.underlying52 Tryd.underlying3 cells3 cells52 h
theorem lies {W : World} (h : laidMetH Tryd.prog Rows.fnExactActOkRow.laid W) : PAct.Lies W := by
  have hc : ∀ i : Nat, i < 10 → W.cell? ⟨0, i, none⟩ = some (.int .i64 (PAct.tabF i)) := by
    intro i hi
    have := (table h).cell gTab i (by simpa using hi)
    rw [this]
    simp [PAct.tabF]
  exact ⟨World.block_lt_of_cell? W _ (hc 0 (by omega)), hc⟩
section
variable {H : Type} {enc : TypeId × Value → H} {w : World} {base : Nat} {spare : Nat → Bool} {held : Bool}
set_option maxRecDepth 100000 in
theorem open_act {r : Reach} {b0 : Nat} {v : Value} {d : DataW H} {p : List MemPlace} (hv : Value.okWide Tryd.prog w r b0 26 v) (h : DataW.Trod enc Tryd.prog w base spare held 26 v d p) :
    ∃ (a0 a1 a2 a3 a4 a5 : Int) (a6 : Nat) (a7 : ByteArray) (a8 a9 a10 : Int) (a11 : Nat) (a12 : ByteArray) (a13 : Int), v = .agg #[.int .i64 a0, .int .i64 a1, .int .i64 a2, .int .i64 a3, .int .i64 a4, .int .i64 a5, .float .f64 a6, .string a7, .int .i64 a8, .int .i64 a9, .int .i64 a10, .float .f64 a11, .string a12, .int .i64 a13] := by
  obtain ⟨cs, rfl, hsz⟩ := okWide_struct Tryd.underlying26 hv
  obtain ⟨l⟩ := cs
  match l, hsz.trans (show Tryd.prog.cellsOf 26 = 14 by kernel_rfl) with
  | [c0, c1, c2, c3, c4, c5, c6, c7, c8, c9, c10, c11, c12, c13], _ =>
    obtain ⟨fuel, hf⟩ := h
    obtain ⟨xs, n, _, _, _, hlen, hg⟩ := DataW.trod_struct Tryd.underlying26 hf
    have kv : Tryd.prog.cellsOf 24 = 5 := by kernel_rfl
    match xs, hlen with
    | [y0, y1, y2, y3, y4, y5], _ =>
      have t0 : DataW.trod enc Tryd.prog w base spare held n 3 [c0] = some y0 := by simpa [Value.cells, cells3] using hg 0 _ rfl
      have t1 : DataW.trod enc Tryd.prog w base spare held n 3 [c1] = some y1 := by simpa [Value.cells, cells3] using hg 1 _ rfl
      have t2 : DataW.trod enc Tryd.prog w base spare held n 3 [c2] = some y2 := by simpa [Value.cells, cells3] using hg 2 _ rfl
      have t3 : DataW.trod enc Tryd.prog w base spare held n 3 [c3] = some y3 := by simpa [Value.cells, cells3] using hg 3 _ rfl
      have tK : DataW.trod enc Tryd.prog w base spare held n 24 [c4, c5, c6, c7, c8] = some y4 := by simpa [Value.cells, kv] using hg 4 _ rfl
      have tV : DataW.trod enc Tryd.prog w base spare held n 24 [c9, c10, c11, c12, c13] = some y5 := by simpa [Value.cells, kv] using hg 5 _ rfl
      obtain ⟨a0, e0, _, _⟩ := DataW.trod_int Tryd.underlying3 t0
      obtain ⟨a1, e1, _, _⟩ := DataW.trod_int Tryd.underlying3 t1
      obtain ⟨a2, e2, _, _⟩ := DataW.trod_int Tryd.underlying3 t2
      obtain ⟨a3, e3, _, _⟩ := DataW.trod_int Tryd.underlying3 t3
      obtain ⟨xsK, nK, _, _, _, hlenK, hgK⟩ := DataW.trod_struct Tryd.underlying24 tK
      obtain ⟨zK0, zK1, zK2, zK3, zK4, rfl⟩ : ∃ z0 z1 z2 z3 z4, xsK = [z0, z1, z2, z3, z4] := by
        match xsK, hlenK with
        | [z0, z1, z2, z3, z4], _ => exact ⟨z0, z1, z2, z3, z4, rfl⟩
      have u4 : DataW.trod enc Tryd.prog w base spare held nK 3 [c4] = some zK0 := by simpa [Value.cells, show Tryd.prog.cellsOf 3 = 1 by kernel_rfl] using hgK 0 _ rfl
      have u5 : DataW.trod enc Tryd.prog w base spare held nK 2 [c5] = some zK1 := by simpa [Value.cells, show Tryd.prog.cellsOf 2 = 1 by kernel_rfl] using hgK 1 _ rfl
      have u6 : DataW.trod enc Tryd.prog w base spare held nK 22 [c6] = some zK2 := by simpa [Value.cells, show Tryd.prog.cellsOf 22 = 1 by kernel_rfl] using hgK 2 _ rfl
      have u7 : DataW.trod enc Tryd.prog w base spare held nK 9 [c7] = some zK3 := by simpa [Value.cells, show Tryd.prog.cellsOf 9 = 1 by kernel_rfl] using hgK 3 _ rfl
      have u8 : DataW.trod enc Tryd.prog w base spare held nK 3 [c8] = some zK4 := by simpa [Value.cells, show Tryd.prog.cellsOf 3 = 1 by kernel_rfl] using hgK 4 _ rfl
      obtain ⟨xsV, nV, _, _, _, hlenV, hgV⟩ := DataW.trod_struct Tryd.underlying24 tV
      obtain ⟨zV0, zV1, zV2, zV3, zV4, rfl⟩ : ∃ z0 z1 z2 z3 z4, xsV = [z0, z1, z2, z3, z4] := by
        match xsV, hlenV with
        | [z0, z1, z2, z3, z4], _ => exact ⟨z0, z1, z2, z3, z4, rfl⟩
      have u9 : DataW.trod enc Tryd.prog w base spare held nV 3 [c9] = some zV0 := by simpa [Value.cells, show Tryd.prog.cellsOf 3 = 1 by kernel_rfl] using hgV 0 _ rfl
      have u10 : DataW.trod enc Tryd.prog w base spare held nV 2 [c10] = some zV1 := by simpa [Value.cells, show Tryd.prog.cellsOf 2 = 1 by kernel_rfl] using hgV 1 _ rfl
      have u11 : DataW.trod enc Tryd.prog w base spare held nV 22 [c11] = some zV2 := by simpa [Value.cells, show Tryd.prog.cellsOf 22 = 1 by kernel_rfl] using hgV 2 _ rfl
      have u12 : DataW.trod enc Tryd.prog w base spare held nV 9 [c12] = some zV3 := by simpa [Value.cells, show Tryd.prog.cellsOf 9 = 1 by kernel_rfl] using hgV 3 _ rfl
      have u13 : DataW.trod enc Tryd.prog w base spare held nV 3 [c13] = some zV4 := by simpa [Value.cells, show Tryd.prog.cellsOf 3 = 1 by kernel_rfl] using hgV 4 _ rfl
      obtain ⟨a4, e4, _, _⟩ := DataW.trod_int Tryd.underlying3 u4
      obtain ⟨a5, e5, _, _⟩ := DataW.trod_int Tryd.underlying2 u5
      obtain ⟨a6, e6, _, _⟩ := trod_float Tryd.underlying22 u6
      obtain ⟨a7, e7, _, _⟩ := DataW.trod_string Tryd.underlying9 u7
      obtain ⟨a8, e8, _, _⟩ := DataW.trod_int Tryd.underlying3 u8
      obtain ⟨a9, e9, _, _⟩ := DataW.trod_int Tryd.underlying3 u9
      obtain ⟨a10, e10, _, _⟩ := DataW.trod_int Tryd.underlying2 u10
      obtain ⟨a11, e11, _, _⟩ := trod_float Tryd.underlying22 u11
      obtain ⟨a12, e12, _, _⟩ := DataW.trod_string Tryd.underlying9 u12
      obtain ⟨a13, e13, _, _⟩ := DataW.trod_int Tryd.underlying3 u13
      simp only [List.cons.injEq, and_true] at e0 e1 e2 e3 e4 e5 e6 e7 e8 e9 e10 e11 e12 e13
      subst e0 e1 e2 e3 e4 e5 e6 e7 e8 e9 e10 e11 e12 e13
      exact ⟨a0, a1, a2, a3, a4, a5, a6, a7, a8, a9, a10, a11, a12, a13, rfl⟩
end
set_option maxRecDepth 100000 in
theorem contract (H : Type) (enc : TypeId × Value → H) (W : World) (base : Nat) (args : Array Value) (ds gs : List (DataW H)) (before : List MemPlace)
    (hval : ∀ (j : Nat) t v, Tryd.f3.params[j]? = some t → args[j]? = some v → Value.okWide Tryd.prog W .any base t v)
    (hW : DataW.Whole enc Tryd.prog Tryd.f3.params.toList Rows.fnExactActOkSpec.vars false W args.toList ds gs before) (hL : laidMetH Tryd.prog Rows.fnExactActOkRow.laid W) :
    Calls Tryd.prog 3 args W fun e W' => ∃ v, e = .returned v ∧ Rows.fnExactActOkSpec.post enc Tryd.prog Tryd.f3 false true false false W args v W' := by
  have hW' := hW
  obtain ⟨p, q, hA0, hV0, rfl, hfz, hnd⟩ := hW
  have hV : DataW.TrodVars enc Tryd.prog W (fun _ => true) ["loop.example/shuttle/impl.fields"] gs q := hV0
  have hA : DataW.TrodAll enc Tryd.prog W 0 (fun _ => true) true Tryd.f3.params.toList args.toList ds p := hA0
  rw [Tryd.params3] at hA hval
  obtain ⟨v0, vs0, d0, ds0, p0, q0, hargs, rfl, rfl, h0, r0⟩ := trodAll_cons hA
  obtain ⟨rfl, rfl, rfl⟩ := trodAll_nil r0
  obtain rfl : args = #[v0] := by cases args; simp_all
  obtain ⟨g, t, cs, fuel, dv, pv, rfl, k1, k2, k3, k4, rfl⟩ := trodVars_one hV
  obtain rfl : g = 0 := (Option.some.inj (gTab.symm.trans k1)).symm
  obtain rfl : t = 52 := (Option.some.inj (gTabType.symm.trans k2)).symm
  have k0 := h0
  have lt0 : ∀ x ∈ p0, x.block < W.heap.size := by obtain ⟨m, hm⟩ := k0; exact DataW.trod_lt m _ _ _ hm
  have ltv : ∀ x ∈ pv, x.block < W.heap.size := DataW.trod_lt fuel _ _ _ k4
  have hlies := lies hL
  obtain ⟨a0, a1, a2, a3, a4, a5, a6, a7, a8, a9, a10, a11, a12, a13, rfl⟩ := open_act (hval 0 26 v0 rfl rfl) h0
  clear hA0 hV0
  refine (PAct.laws_FnExactActOk.calls 3 a0 a1 a2 a3 a4 a5 a6 a7 a8 a9 a10 a11 a12 a13 true W hlies (PAct.law_true a0 a1 a2 a3 a4 a5 a6 a7 a8 a9 a10 a11 a12 a13)).mono fun e W' ⟨he, bel⟩ => ?_
  subst he
  have hvar := var_stays k1 k3 bel (Nat.le_refl _)
  have k4' := DataW.trod_stays (w' := W') (sp' := fun b => decide (b < W.heap.size)) (kids_book laidOut (by kernel_rfl)) (book_sized (by kernel_rfl)) (fun h => by cases h) ⟨of_decide_eq_true (by kernel_rfl), book_self 52⟩ k4 (fun x hx => bel.same (ltv x hx)) (fun x hx => by simpa using ltv x hx)
  exact ⟨_, rfl, _, _, _, [], _, _, hW', trodAll_mk1 (shut_bool Tryd.underlying4 _), (trodAll_cons_mk (Below.trod laidOut (by kernel_rfl) (of_decide_eq_true (by kernel_rfl)) k0 bel lt0) trodAll_mk0), trodVars_mk1 k1 k2 hvar k4', bel.frame _, fun h => by cases h⟩
noncomputable def laidWorld (os : Os) : World :=
  { World.holding Tryd.prog os ⟨#[], #[], []⟩ with heap := (World.holding Tryd.prog os ⟨#[], #[], []⟩).heap.modify 0 fun
      | .cells _ t frozen => .cells #[.int .i64 0, .int .i64 0, .int .i64 25, .int .i64 9, .int .i64 5, .int .i64 1, .int .i64 1, .int .i64 8, .int .i64 3, .int .i64 19] t frozen
      | o => o }
def wit : Value := .agg #[.int .i64 0, .int .i64 0, .int .i64 0, .int .i64 0, .int .i64 0, .int .i64 0, .float .f64 0, .string ByteArray.empty, .int .i64 0, .int .i64 0, .int .i64 0, .float .f64 0, .string ByteArray.empty, .int .i64 0]
theorem laid_met (os : Os) : laidMet Tryd.prog Rows.fnExactActOkRow.laid ((laidWorld os).forCall (fun _ _ => 0) ⟨#[], #[wit], []⟩).memory :=
  laidMet_of_run' 8 (by kernel_rfl) (by kernel_rfl)
theorem reads (os : Os) {H : Type} (enc : TypeId × Value → H) : DataW.whole enc Tryd.prog ((laidWorld os).forCall (fun _ _ => 0) ⟨#[], #[wit], []⟩).memory Tryd.f3.params.toList Rows.fnExactActOkSpec.vars false #[wit].toList 8 =
    some ([.agg [.lit (.int .i64 0), .lit (.int .i64 0), .lit (.int .i64 0), .lit (.int .i64 0), .agg [.lit (.int .i64 0), .lit (.int .i64 0), .lit (.float .f64 0), .lit (.string []), .lit (.int .i64 0)], .agg [.lit (.int .i64 0), .lit (.int .i64 0), .lit (.float .f64 0), .lit (.string []), .lit (.int .i64 0)]]], [Rows.laid_loop_example_shuttle_impl_fields], MemPlace.row ⟨0, 0, none⟩ 10) := by kernel_rfl
set_option maxRecDepth 100000 in
theorem lifted (os : Os) (started : os.Started) (H : Type) (enc : TypeId × Value → H) (F : Stop.Interp) :
    ReturnsInHanded {} Tryd.checked os 3 .any ((OpenSpec.ofChange Rows.fnExactActOkSpec).preRow enc Tryd.prog Tryd.f3 Rows.fnExactActOkRow.domain false Rows.fnExactActOkRow.laid) (((OpenSpec.ofChange Rows.fnExactActOkSpec).at F).post enc Tryd.prog Tryd.f3 false true false false) := by
  have hx := reads os enc
  refine returnsInHanded_of_row (C := Tryd.checked) (s := OpenSpec.ofChange Rows.fnExactActOkSpec) own started (by kernel_rfl) Tryd.func3
    (witness_row_at (enc := enc) (C := Tryd.checked) false (laidWorld os) #[wit] rfl (by kernel_rfl) (by kernel_rfl) (by kernel_rfl)
      (OpenSpec.preRow_of_cond 8 hx (by kernel_rfl) (fun k hk => by cases hk) (by kernel_rfl) (laid_met os))) ?_
  intro W base args ds gs before hval hW _ _ _ hL _ _
  exact contract H enc W base args ds gs before hval hW hL
theorem said : Rows.FnExactActOkSaid :=
  OpenClaim.holds_of_cond 3 Tryd.f3 rfl rfl rfl rfl rfl rfl rfl ⟨rfl, rfl, rfl, rfl, rfl⟩ rfl rfl rfl rfl rfl (by kernel_rfl) Tryd.func3 (by kernel_rfl)
    (of_decide_eq_true (by kernel_rfl)) (by unfold Func.isWrapper; first | (rw [if_pos (by decide +kernel)]; kernel_rfl) | (rw [if_neg (by decide +kernel)]; exact ⟨rfl, rfl⟩))
    (fun os started H enc _ F => by rw [OpenClaim.pre_eq_preRow]; exact lifted os started H enc F)
theorem plain (f : FuncId) (fn : Func) (hf : Tryd.pinned.checked.prog.funcNamed "loop.example/shuttle/laws.FnExactActOk" = some f) (hfn : Tryd.pinned.checked.prog.funcs[f]? = some fn) :
    false = Tryd.pinned.checked.prog.looks [] ∧ ∀ (j : Nat) t, fn.params[j]? = some t → Tryd.pinned.checked.prog.wantsStandIn t = false := by
  obtain rfl : f = 3 := Option.some.inj ((show Tryd.prog.funcNamed "loop.example/shuttle/laws.FnExactActOk" = some 3 by kernel_rfl).symm.trans hf) |>.symm
  obtain rfl : fn = Tryd.f3 := (Option.some.inj (Tryd.func3.symm.trans hfn)).symm
  refine ⟨by kernel_rfl, fun j t ht => ?_⟩
  rw [Tryd.params3] at ht
  obtain rfl : t = 26 := by simpa using Array.mem_of_getElem? ht
  exact (show Tryd.prog.wantsStandIn 26 = false by kernel_rfl)
theorem card : Rows.FnExactActOkCardSaid :=
  Claim7.holds_tied_plain_at .later [] _ _ _ _ said (fun _ h => by cases h) (by kernel_rfl) (fun _ h => by cases h) fnExactActOk_row_tie rfl ⟨rfl, rfl⟩ (by kernel_rfl) rfl plain (by kernel_rfl)
#print axioms card
end Go.Proofs.YtclploookcjcbaaDoor.fnExactActOk
namespace Go.Proofs.YtclploookcjcbaaDoor
/-- The card, under a short name, for the claim. -/
theorem fnExactActOk_card : Rows.FnExactActOkCardSaid := fnExactActOk.card
end Go.Proofs.YtclploookcjcbaaDoor
