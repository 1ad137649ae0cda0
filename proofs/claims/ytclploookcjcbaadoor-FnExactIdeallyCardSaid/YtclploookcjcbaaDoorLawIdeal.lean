/- Proved: the row FnExactIdeally: for every row of acts the law returns true, its argument and the program's table read as they did; and the row's tied card. No condition beyond the row's own. -/
import Derived.Test.YtclploookcjcbaaDoorCards
import Derived.Test.YtclploookcjcbaaDoorTie
import Derived.Test.YtclploookcjcbaaDoorIdGI
import Derived.Test.YtclploookcjcbaaDoorOpen
import Derived.WalkKit
import Derived.ProofKit
import Derived.OpenShut
import Derived.ShutString
import Derived.ChangeOld
import Derived.Below
import Derived.Deep.DeepHandedRow
import Derived.Lib.LaidTab
import Derived.Lib.SmallJoins
import Derived.ChangeVars
namespace Go.Proofs.YtclploookcjcbaaDoor.fnExactIdeally
open Go Go.ChangeShapes Go.WideShapes Go.ChangeAt Go.RowKit Go.Joins Go.Deep Go.Proofs.YtclploookcjcbaaDoor.Open Go.Proofs.YtclploookcjcbaaDoorW.PrintWords
set_option linter.unusedVariables false
theorem own : ownKnob Tryd.prog.godebug = none := by kernel_rfl
theorem laidOut : laidOutB Tryd.prog = true := by kernel_rfl
theorem gTab : Tryd.prog.globalNamed "loop.example/shuttle/impl.fields" = some 0 := by kernel_rfl
theorem gTabType : (Tryd.prog.globals[0]?).map (·.type) = some 52 := by kernel_rfl
theorem cells52 : Tryd.prog.cellsOf 52 = 10 := by kernel_rfl
theorem cells3 : Tryd.prog.cellsOf 3 = 1 := by kernel_rfl
theorem table {W : World} (h : laidMetH Tryd.prog Rows.fnExactIdeallyRow.laid W) : Lib.TabIs Tryd.prog W "loop.example/shuttle/impl.fields" .i64 [0, 0, 25, 9, 5, 1, 1, 8, 3, 19] :=
  Lib.tabIs_of_head (rest := []) gTab gTabType Tryd.underlying52 Tryd.underlying3 cells3 cells52 h
theorem lies {W : World} (h : laidMetH Tryd.prog Rows.fnExactIdeallyRow.laid W) : PIde.Lies W := by
  have hc : ∀ i : Nat, i < 10 → W.cell? ⟨0, i, none⟩ = some (.int .i64 (PIde.tabF i)) := by
    intro i hi
    have := (table h).cell gTab i (by simpa using hi)
    rw [this]
    simp [PIde.tabF]
  exact ⟨World.block_lt_of_cell? W _ (hc 0 (by omega)), hc⟩
section
variable {H : Type} {enc : TypeId × Value → H} {w : World} {base : Nat} {spare : Nat → Bool} {held : Bool}
set_option maxRecDepth 100000 in
theorem act_cells {fuel : Nat} {cs : List Value} {x : DataW H × List MemPlace} (hf : DataW.trod enc Tryd.prog w base spare held fuel 26 cs = some x) :
    ∃ (a0 a1 a2 a3 a4 a5 : Int) (a6 : Nat) (a7 : ByteArray) (a8 a9 a10 : Int) (a11 : Nat) (a12 : ByteArray) (a13 : Int), cs = [.int .i64 a0, .int .i64 a1, .int .i64 a2, .int .i64 a3, .int .i64 a4, .int .i64 a5, .float .f64 a6, .string a7, .int .i64 a8, .int .i64 a9, .int .i64 a10, .float .f64 a11, .string a12, .int .i64 a13] ∧ a6 < PIde.W64 := by
  obtain ⟨xs, n, _, _, hsz, hlen, hg⟩ := DataW.trod_struct Tryd.underlying26 hf
  match cs, hsz.trans (show Tryd.prog.cellsOf 26 = 14 by kernel_rfl) with
  | [c0, c1, c2, c3, c4, c5, c6, c7, c8, c9, c10, c11, c12, c13], _ =>
    have kv : Tryd.prog.cellsOf 24 = 5 := by kernel_rfl
    match xs, hlen with
    | [y0, y1, y2, y3, y4, y5], _ =>
      have t0 : DataW.trod enc Tryd.prog w base spare held n 3 [c0] = some y0 := by simpa [Value.cells, cells3] using hg 0 _ rfl
      have t1 : DataW.trod enc Tryd.prog w base spare held n 3 [c1] = some y1 := by simpa [Value.cells, cells3] using hg 1 _ rfl
      have t2 : DataW.trod enc Tryd.prog w base spare held n 3 [c2] = some y2 := by simpa [Value.cells, cells3] using hg 2 _ rfl
      have t3 : DataW.trod enc Tryd.prog w base spare held n 3 [c3] = some y3 := by simpa [Value.cells, cells3] using hg 3 _ rfl
      have tK : DataW.trod enc Tryd.prog w base spare held n 24 [c4, c5, c6, c7, c8] = some y4 := by simpa [Value.cells, kv] using hg 4 _ rfl
      have tV : DataW.trod enc Tryd.prog w base spare held n 24 [c9, c10, c11, c12, c13] = some y5 := by simpa [Value.cells, kv] using hg 5 _ rfl
      obtain ⟨a0, e0, _, _⟩ := DataW.trod_int Tryd.underlying3 t0
      obtain ⟨a1, e1, _, _⟩ := DataW.trod_int Tryd.underlying3 t1
      obtain ⟨a2, e2, _, _⟩ := DataW.trod_int Tryd.underlying3 t2
      obtain ⟨a3, e3, _, _⟩ := DataW.trod_int Tryd.underlying3 t3
      obtain ⟨xsK, nK, _, _, _, hlenK, hgK⟩ := DataW.trod_struct Tryd.underlying24 tK
      obtain ⟨zK0, zK1, zK2, zK3, zK4, rfl⟩ : ∃ z0 z1 z2 z3 z4, xsK = [z0, z1, z2, z3, z4] := by
        match xsK, hlenK with
        | [z0, z1, z2, z3, z4], _ => exact ⟨z0, z1, z2, z3, z4, rfl⟩
      have u4 : DataW.trod enc Tryd.prog w base spare held nK 3 [c4] = some zK0 := by simpa [Value.cells, show Tryd.prog.cellsOf 3 = 1 by kernel_rfl] using hgK 0 _ rfl
      have u5 : DataW.trod enc Tryd.prog w base spare held nK 2 [c5] = some zK1 := by simpa [Value.cells, show Tryd.prog.cellsOf 2 = 1 by kernel_rfl] using hgK 1 _ rfl
      have u6 : DataW.trod enc Tryd.prog w base spare held nK 22 [c6] = some zK2 := by simpa [Value.cells, show Tryd.prog.cellsOf 22 = 1 by kernel_rfl] using hgK 2 _ rfl
      have u7 : DataW.trod enc Tryd.prog w base spare held nK 9 [c7] = some zK3 := by simpa [Value.cells, show Tryd.prog.cellsOf 9 = 1 by kernel_rfl] using hgK 3 _ rfl
      have u8 : DataW.trod enc Tryd.prog w base spare held nK 3 [c8] = some zK4 := by simpa [Value.cells, show Tryd.prog.cellsOf 3 = 1 by kernel_rfl] using hgK 4 _ rfl
      obtain ⟨xsV, nV, _, _, _, hlenV, hgV⟩ := DataW.trod_struct Tryd.underlying24 tV
      obtain ⟨zV0, zV1, zV2, zV3, zV4, rfl⟩ : ∃ z0 z1 z2 z3 z4, xsV = [z0, z1, z2, z3, z4] := by
        match xsV, hlenV with
        | [z0, z1, z2, z3, z4], _ => exact ⟨z0, z1, z2, z3, z4, rfl⟩
      have u9 : DataW.trod enc Tryd.prog w base spare held nV 3 [c9] = some zV0 := by simpa [Value.cells, show Tryd.prog.cellsOf 3 = 1 by kernel_rfl] using hgV 0 _ rfl
      have u10 : DataW.trod enc Tryd.prog w base spare held nV 2 [c10] = some zV1 := by simpa [Value.cells, show Tryd.prog.cellsOf 2 = 1 by kernel_rfl] using hgV 1 _ rfl
      have u11 : DataW.trod enc Tryd.prog w base spare held nV 22 [c11] = some zV2 := by simpa [Value.cells, show Tryd.prog.cellsOf 22 = 1 by kernel_rfl] using hgV 2 _ rfl
      have u12 : DataW.trod enc Tryd.prog w base spare held nV 9 [c12] = some zV3 := by simpa [Value.cells, show Tryd.prog.cellsOf 9 = 1 by kernel_rfl] using hgV 3 _ rfl
      have u13 : DataW.trod enc Tryd.prog w base spare held nV 3 [c13] = some zV4 := by simpa [Value.cells, show Tryd.prog.cellsOf 3 = 1 by kernel_rfl] using hgV 4 _ rfl
      obtain ⟨a4, e4, _, _⟩ := DataW.trod_int Tryd.underlying3 u4
      obtain ⟨a5, e5, _, _⟩ := DataW.trod_int Tryd.underlying2 u5
      obtain ⟨a6, e6, _, w6⟩ := trod_float Tryd.underlying22 u6
      obtain ⟨a7, e7, _, _⟩ := DataW.trod_string Tryd.underlying9 u7
      obtain ⟨a8, e8, _, _⟩ := DataW.trod_int Tryd.underlying3 u8
      obtain ⟨a9, e9, _, _⟩ := DataW.trod_int Tryd.underlying3 u9
      obtain ⟨a10, e10, _, _⟩ := DataW.trod_int Tryd.underlying2 u10
      obtain ⟨a11, e11, _, w11⟩ := trod_float Tryd.underlying22 u11
      obtain ⟨a12, e12, _, _⟩ := DataW.trod_string Tryd.underlying9 u12
      obtain ⟨a13, e13, _, _⟩ := DataW.trod_int Tryd.underlying3 u13
      simp only [List.cons.injEq, and_true] at e0 e1 e2 e3 e4 e5 e6 e7 e8 e9 e10 e11 e12 e13
      subst e0 e1 e2 e3 e4 e5 e6 e7 e8 e9 e10 e11 e12 e13
      have w6' : a6 < PIde.W64 := of_decide_eq_true w6
      exact ⟨a0, a1, a2, a3, a4, a5, a6, a7, a8, a9, a10, a11, a12, a13, rfl, w6'⟩
/-- A slice of acts reads as a row. -/
theorem acts_arg {fuel : Nat} {v : Value} {y : DataW H × List MemPlace} (h : DataW.trod enc Tryd.prog w base spare held fuel 34 [v] = some y) :
    ∃ (A : Option Addr) (c : Nat) (l : List PIde.S26), v = .slice A l.length c ∧ Kd.C PIde.k26 w A l.length l ∧ ∀ x ∈ l, x.f4.f2 < PIde.W64 := by
  have hm : maxLen = 9223372036854775807 := by unfold maxLen; omega
  have kc : Tryd.prog.cellsOf 26 = 14 := by kernel_rfl
  rcases open_slice Tryd.underlying34 h with ⟨hc, _⟩ | ⟨a, len, cap, m, n, D, Pl, hcs, _, hlc, hcm, hmm, _, hi⟩
  · simp only [List.cons.injEq, and_true] at hc
    subst hc
    exact ⟨none, 0, [], rfl, Kd.C_nil _ _, by simp⟩
  · simp only [List.cons.injEq, and_true] at hcs
    subst hcs
    have hlm : len ≤ m := by rw [hmm]; split <;> omega
    have hx : ∀ i, i < len → ∃ x : PIde.S26, (∀ j u, ([.int .i64 x.f0, .int .i64 x.f1, .int .i64 x.f2, .int .i64 x.f3, .int .i64 x.f4.f0, .int .i64 x.f4.f1, .float .f64 x.f4.f2, .string x.f4.f3, .int .i64 x.f4.f4, .int .i64 x.f5.f0, .int .i64 x.f5.f1, .float .f64 x.f5.f2, .string x.f5.f3, .int .i64 x.f5.f4] : List Value)[j]? = some u → w.cell? (a.add (i * 14 + j)) = some u) ∧ x.f4.f2 < PIde.W64 := by
      intro i hl
      obtain ⟨cs', hc, ht⟩ := hi i (by omega)
      obtain ⟨a0, a1, a2, a3, a4, a5, a6, a7, a8, a9, a10, a11, a12, a13, rfl, hw⟩ := act_cells ht
      rw [kc] at hc
      obtain ⟨_, _, hat⟩ := World.cells?_some hc
      refine ⟨⟨a0, a1, a2, a3, ⟨a4, a5, a6, a7, a8⟩, ⟨a9, a10, a11, a12, a13⟩⟩, fun j u hj => ?_, hw⟩
      have hjl : j < 14 := (List.getElem?_eq_some_iff.1 hj).1
      rw [← Go.Deep.add_add, hat j hjl]
      exact hj
    obtain ⟨g, hg⟩ : ∃ g : Nat → PIde.S26, ∀ i, i < len → (∀ j u, ([.int .i64 (g i).f0, .int .i64 (g i).f1, .int .i64 (g i).f2, .int .i64 (g i).f3, .int .i64 (g i).f4.f0, .int .i64 (g i).f4.f1, .float .f64 (g i).f4.f2, .string (g i).f4.f3, .int .i64 (g i).f4.f4, .int .i64 (g i).f5.f0, .int .i64 (g i).f5.f1, .float .f64 (g i).f5.f2, .string (g i).f5.f3, .int .i64 (g i).f5.f4] : List Value)[j]? = some u → w.cell? (a.add (i * 14 + j)) = some u) ∧ (g i).f4.f2 < PIde.W64 := by
      refine ⟨fun i => if q : i < len then Classical.choose (hx i q) else PIde.z26, fun i q => ?_⟩
      simp only [dif_pos q]
      exact Classical.choose_spec (hx i q)
    have hll : ((List.range len).map g).length = len := by simp
    refine ⟨some a, cap, (List.range len).map g, by rw [hll], ⟨rfl, by omega, fun _ => ⟨a, rfl, fun j p hj => ?_⟩⟩, fun x hxm => ?_⟩
    · obtain ⟨hjl, rfl⟩ := List.getElem?_eq_some_iff.1 hj
      rw [hll] at hjl
      rw [List.getElem_map, List.getElem_range]
      exact ⟨_, rfl, PIde.k26_mk w (g j), (hg j hjl).1⟩
    · obtain ⟨i, hi', rfl⟩ := List.mem_map.1 hxm
      exact (hg i (List.mem_range.1 hi')).2
end
set_option maxRecDepth 100000 in
theorem contract (H : Type) (enc : TypeId × Value → H) (W : World) (base : Nat) (args : Array Value) (ds gs : List (DataW H)) (before : List MemPlace)
    (hval : ∀ (j : Nat) t v, Tryd.f4.params[j]? = some t → args[j]? = some v → Value.okWide Tryd.prog W .any base t v)
    (hW : DataW.Whole enc Tryd.prog Tryd.f4.params.toList Rows.fnExactIdeallySpec.vars false W args.toList ds gs before) (hL : laidMetH Tryd.prog Rows.fnExactIdeallyRow.laid W) :
    Calls Tryd.prog 4 args W fun e W' => ∃ v, e = .returned v ∧ Rows.fnExactIdeallySpec.post enc Tryd.prog Tryd.f4 false true false false W args v W' := by
  have hW' := hW
  obtain ⟨p, q, hA0, hV0, rfl, hfz, hnd⟩ := hW
  have hV : DataW.TrodVars enc Tryd.prog W (fun _ => true) ["loop.example/shuttle/impl.fields"] gs q := hV0
  have hA : DataW.TrodAll enc Tryd.prog W 0 (fun _ => true) true Tryd.f4.params.toList args.toList ds p := hA0
  rw [Tryd.params4] at hA hval
  obtain ⟨v0, vs0, d0, ds0, p0, q0, hargs, rfl, rfl, h0, r0⟩ := trodAll_cons hA
  obtain ⟨rfl, rfl, rfl⟩ := trodAll_nil r0
  obtain rfl : args = #[v0] := by cases args; simp_all
  obtain ⟨g, t, cs, fuel, dv, pv, rfl, k1, k2, k3, k4, rfl⟩ := trodVars_one hV
  obtain rfl : g = 0 := (Option.some.inj (gTab.symm.trans k1)).symm
  obtain rfl : t = 52 := (Option.some.inj (gTabType.symm.trans k2)).symm
  have k0 := h0
  have lt0 : ∀ x ∈ p0, x.block < W.heap.size := by obtain ⟨m, hm⟩ := k0; exact DataW.trod_lt m _ _ _ hm
  have ltv : ∀ x ∈ pv, x.block < W.heap.size := DataW.trod_lt fuel _ _ _ k4
  have hlies := lies hL
  obtain ⟨fuel0, hf0⟩ := h0
  obtain ⟨A, c, l, hl, hC, hx⟩ : ∃ (A : Option Addr) (c : Nat) (l : List PIde.S26), v0 = .slice A l.length c ∧ Kd.C PIde.k26 W A l.length l ∧ ∀ x ∈ l, x.f4.f2 < PIde.W64 := by
    obtain ⟨a, n, c, rfl⟩ := okWide_slice Tryd.underlying34 (hval 0 34 v0 rfl rfl)
    exact acts_arg hf0
  subst hl
  clear hA0 hV0
  refine (PIde.law_calls l A c W hC hlies hx).mono fun e W' ⟨he, bel⟩ => ?_
  subst he
  have hvar := var_stays k1 k3 bel (Nat.le_refl _)
  have k4' := DataW.trod_stays (w' := W') (sp' := fun b => decide (b < W.heap.size)) (kids_book laidOut (by kernel_rfl)) (book_sized (by kernel_rfl)) (fun h => by cases h) ⟨of_decide_eq_true (by kernel_rfl), book_self 52⟩ k4 (fun x hx => bel.same (ltv x hx)) (fun x hx => by simpa using ltv x hx)
  exact ⟨_, rfl, _, _, _, [], _, _, hW', trodAll_mk1 (shut_bool Tryd.underlying4 _), (trodAll_cons_mk (Below.trod laidOut (by kernel_rfl) (of_decide_eq_true (by kernel_rfl)) k0 bel lt0) trodAll_mk0), trodVars_mk1 k1 k2 hvar k4', bel.frame _, fun h => by cases h⟩
noncomputable def laidWorld (os : Os) : World :=
  { World.holding Tryd.prog os ⟨#[], #[], []⟩ with heap := (World.holding Tryd.prog os ⟨#[], #[], []⟩).heap.modify 0 fun
      | .cells _ t frozen => .cells #[.int .i64 0, .int .i64 0, .int .i64 25, .int .i64 9, .int .i64 5, .int .i64 1, .int .i64 1, .int .i64 8, .int .i64 3, .int .i64 19] t frozen
      | o => o }
def wit : Value := .slice none 0 0
theorem laid_met (os : Os) : laidMet Tryd.prog Rows.fnExactIdeallyRow.laid ((laidWorld os).forCall (fun _ _ => 0) ⟨#[], #[wit], []⟩).memory :=
  laidMet_of_run' 8 (by kernel_rfl) (by kernel_rfl)
theorem reads (os : Os) {H : Type} (enc : TypeId × Value → H) : DataW.whole enc Tryd.prog ((laidWorld os).forCall (fun _ _ => 0) ⟨#[], #[wit], []⟩).memory Tryd.f4.params.toList Rows.fnExactIdeallySpec.vars false #[wit].toList 8 =
    some ([.nil], [Rows.laid_loop_example_shuttle_impl_fields], MemPlace.row ⟨0, 0, none⟩ 10) := by kernel_rfl
set_option maxRecDepth 100000 in
theorem lifted (os : Os) (started : os.Started) (H : Type) (enc : TypeId × Value → H) (F : Stop.Interp) :
    ReturnsInHanded {} Tryd.checked os 4 .any ((OpenSpec.ofChange Rows.fnExactIdeallySpec).preRow enc Tryd.prog Tryd.f4 Rows.fnExactIdeallyRow.domain false Rows.fnExactIdeallyRow.laid) (((OpenSpec.ofChange Rows.fnExactIdeallySpec).at F).post enc Tryd.prog Tryd.f4 false true false false) := by
  have hx := reads os enc
  refine returnsInHanded_of_row (C := Tryd.checked) (s := OpenSpec.ofChange Rows.fnExactIdeallySpec) own started (by kernel_rfl) Tryd.func4
    (witness_row_at (enc := enc) (C := Tryd.checked) false (laidWorld os) #[wit] rfl (by kernel_rfl) (by kernel_rfl) (by kernel_rfl)
      (OpenSpec.preRow_of_cond 8 hx (by kernel_rfl) (fun k hk => by cases hk) (by kernel_rfl) (laid_met os))) ?_
  intro W base args ds gs before hval hW _ _ _ hL _ _
  exact contract H enc W base args ds gs before hval hW hL
theorem said : Rows.FnExactIdeallySaid :=
  OpenClaim.holds_of_cond 4 Tryd.f4 rfl rfl rfl rfl rfl rfl rfl ⟨rfl, rfl, rfl, rfl, rfl⟩ rfl rfl rfl rfl rfl (by kernel_rfl) Tryd.func4 (by kernel_rfl)
    (of_decide_eq_true (by kernel_rfl)) (by unfold Func.isWrapper; first | (rw [if_pos (by decide +kernel)]; kernel_rfl) | (rw [if_neg (by decide +kernel)]; exact ⟨rfl, rfl⟩))
    (fun os started H enc _ F => by rw [OpenClaim.pre_eq_preRow]; exact lifted os started H enc F)
theorem plain (f : FuncId) (fn : Func) (hf : Tryd.pinned.checked.prog.funcNamed "loop.example/shuttle/laws.FnExactIdeally" = some f) (hfn : Tryd.pinned.checked.prog.funcs[f]? = some fn) :
    false = Tryd.pinned.checked.prog.looks [] ∧ ∀ (j : Nat) t, fn.params[j]? = some t → Tryd.pinned.checked.prog.wantsStandIn t = false := by
  obtain rfl : f = 4 := Option.some.inj ((show Tryd.prog.funcNamed "loop.example/shuttle/laws.FnExactIdeally" = some 4 by kernel_rfl).symm.trans hf) |>.symm
  obtain rfl : fn = Tryd.f4 := (Option.some.inj (Tryd.func4.symm.trans hfn)).symm
  refine ⟨by kernel_rfl, fun j t ht => ?_⟩
  rw [Tryd.params4] at ht
  obtain rfl : t = 34 := by simpa using Array.mem_of_getElem? ht
  exact (show Tryd.prog.wantsStandIn 34 = false by kernel_rfl)
theorem card : Rows.FnExactIdeallyCardSaid :=
  Claim7.holds_tied_plain_at .later [] _ _ _ _ said (fun _ h => by cases h) (by kernel_rfl) (fun _ h => by cases h) fnExactIdeally_row_tie rfl ⟨rfl, rfl⟩ (by kernel_rfl) rfl plain (by kernel_rfl)
#print axioms card
end Go.Proofs.YtclploookcjcbaaDoor.fnExactIdeally
namespace Go.Proofs.YtclploookcjcbaaDoor
/-- The card, under a short name, for the claim. -/
theorem fnExactIdeally_card : Rows.FnExactIdeallyCardSaid := fnExactIdeally.card
end Go.Proofs.YtclploookcjcbaaDoor
