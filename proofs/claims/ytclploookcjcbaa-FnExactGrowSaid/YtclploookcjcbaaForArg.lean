/- Proved: a forest that is handed as an argument reads as a row of shapes, in the words of the printed contracts. Conditions: those the theorem states. (open_agg1 follows the guide's own text to copy, extra-structs.md.) -/
import Derived.Test.YtclploookcjcbaaPGrox0
import Derived.Test.YtclploookcjcbaaOpen
set_option linter.unusedVariables false
namespace Go.Proofs.Ytclploookcjcbaa.PGro
open Go Go.Joins Go.ChangeShapes Go.WideShapes Go.RowKit Go.Deep Go.Proofs.Ytclploookcjcbaa.Open Go.Proofs.YtclploookcjcbaaW.PrintWords
section
variable {H : Type} {enc : TypeId × Value → H} {P : Program} {w : World} {base : Nat} {spare : Nat → Bool} {held : Bool}
theorem open_agg1 {r : Reach} {b0 : Nat} {t : TypeId} {f0 : Field} {v : Value} {d : DataW H} {p : List MemPlace} (hs : P.underlying t = some (.struct #[f0])) (hone : oneCellFields P #[f0] = true) (hC : P.cellsOf t = 1)
    (hv : Value.okWide P w r b0 t v) (h : DataW.Trod enc P w base spare held t v d p) :
    ∃ (v0 : Value) (y0 : DataW H × List MemPlace) (n : Nat), v = .agg #[v0] ∧ d = .agg [y0.1] ∧ p = y0.2 ∧ DataW.trod enc P w base spare held n f0.type [v0] = some y0 := by
  obtain ⟨cs, rfl, hsz⟩ := okWide_struct hs hv
  obtain ⟨l⟩ := cs
  match l, hsz.trans hC with
  | [c0], _ =>
    obtain ⟨fuel, hf⟩ := h
    obtain ⟨xs, n, _, hx, _, hlen, hg⟩ := DataW.trod_struct hs hf
    obtain ⟨o0, k0⟩ := hone_of hone 0 f0 rfl
    match xs, hlen with
    | [y0], _ =>
      simp only [Prod.mk.injEq] at hx
      exact ⟨c0, y0, n, rfl, by simpa using hx.1, by simpa using hx.2, by simpa [Value.cells, o0, k0] using hg 0 f0 rfl⟩
/-- A slice of shapes reads as a row. -/
theorem shapes_arg {fuel : Nat} {v : Value} {y : DataW H × List MemPlace} (hbase : base = 0) (h : DataW.trod enc Try.prog w base spare held fuel 44 [v] = some y) :
    ∃ (A : Option Addr) (c : Nat) (l : List S123), v = .slice A l.length c ∧ l.length ≤ c ∧ l.length ≤ maxLen ∧ Kd.C k123 w A l.length l := by
  have hm : maxLen = 9223372036854775807 := by unfold maxLen; omega
  rcases open_slice_fields Try.underlying44 Try.underlying123 (by kernel_rfl) (by kernel_rfl) h with ⟨hc, _⟩ | ⟨a, len, cap, m, D, Pl, hcs, _, hlc, hcm, hmm, _, hi⟩
  · simp only [List.cons.injEq, and_true] at hc
    subst hc
    exact ⟨none, 0, [], rfl, Nat.le_refl _, by simp, Kd.C_nil _ _⟩
  · simp only [List.cons.injEq, and_true] at hcs
    subst hcs
    have hlm : len ≤ m := by rw [hmm]; split <;> omega
    have hx : ∀ i, i < len → ∃ x : S123, w.cell? (a.add (i * 3 + 0)) = some (.int .i64 x.f0) ∧ w.cell? (a.add (i * 3 + 1)) = some (.string x.f1) ∧ w.cell? (a.add (i * 3 + 2)) = some (.int .i64 x.f2) := by
      intro i hl
      obtain ⟨ys, n, _, _, _, hf⟩ := hi i (by omega)
      obtain ⟨v0, y0, c0, _, t0⟩ := hf 0 _ rfl
      obtain ⟨v1, y1, c1, _, t1⟩ := hf 1 _ rfl
      obtain ⟨v2, y2, c2, _, t2⟩ := hf 2 _ rfl
      obtain ⟨a0, e0, _, _⟩ := DataW.trod_int Try.underlying3 t0
      obtain ⟨a1, e1, _, _⟩ := DataW.trod_string Try.underlying9 t1
      obtain ⟨a2, e2, _, _⟩ := DataW.trod_int Try.underlying3 t2
      simp only [List.cons.injEq, and_true] at e0 e1 e2
      subst e0 e1 e2
      exact ⟨⟨a0, a1, a2⟩, c0, c1, c2⟩
    obtain ⟨g, hg⟩ : ∃ g : Nat → S123, ∀ i, i < len → w.cell? (a.add (i * 3 + 0)) = some (.int .i64 (g i).f0) ∧ w.cell? (a.add (i * 3 + 1)) = some (.string (g i).f1) ∧ w.cell? (a.add (i * 3 + 2)) = some (.int .i64 (g i).f2) := by
      refine ⟨fun i => if q : i < len then Classical.choose (hx i q) else z123, fun i q => ?_⟩
      simp only [dif_pos q]
      exact Classical.choose_spec (hx i q)
    have hll : ((List.range len).map g).length = len := by simp
    refine ⟨some a, cap, (List.range len).map g, by rw [hll], by omega, by omega, rfl, by omega, fun _ => ⟨a, rfl, fun j p hj => ?_⟩⟩
    obtain ⟨hjl, rfl⟩ := List.getElem?_eq_some_iff.1 hj
    rw [hll] at hjl
    rw [List.getElem_map, List.getElem_range]
    refine ⟨_, rfl, k123_mk w (g j), fun i u hu => ?_⟩
    obtain ⟨q0, q1, q2⟩ := hg j hjl
    match i, hu with
    | 0, hu => cases hu; exact q0
    | 1, hu => cases hu; exact q1
    | 2, hu => cases hu; exact q2
    | i + 3, hu => simp at hu
end
end Go.Proofs.Ytclploookcjcbaa.PGro
