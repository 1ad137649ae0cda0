/- Proved: words for floats in walks: the six comparisons as Bools, difference and quotient and the integer of a float where the model has one answer; floats as a kind of one cell. No condition. -/
import Derived.Test.YtclploookcjcbaaDoorWWords
import Derived.Test.YtclploookcjcbaaDoorWFoot
import Derived.Laws.Cover2
import Derived.Laws.FloatArith
import Derived.WideLaws
set_option linter.unusedVariables false
namespace Go.Proofs.YtclploookcjcbaaDoorW.PrintWords
open Go Go.RowKit
/-- Equality of floats (the two zeros are equal; a NaN equals nothing). -/
def feq (a b : Nat) : Bool := FloatKind.f64.format.order a b == some .eq
def flt (a b : Nat) : Bool := FloatKind.f64.format.order a b == some .lt
def fle (a b : Nat) : Bool := FloatKind.f64.format.order a b == some .lt || FloatKind.f64.format.order a b == some .eq
def fgt (a b : Nat) : Bool := FloatKind.f64.format.order a b == some .gt
def fge (a b : Nat) : Bool := FloatKind.f64.format.order a b == some .gt || FloatKind.f64.format.order a b == some .eq
def fok_sub (a b : Nat) : Bool := (floatBits .sub .f64 a b).isSome
def fv_sub (a b : Nat) : Nat := (floatBits .sub .f64 a b).getD 0
def fok_quo (a b : Nat) : Bool := (floatBits .quo .f64 a b).isSome
def fv_quo (a b : Nat) : Nat := (floatBits .quo .f64 a b).getD 0
def fok_int (a : Nat) : Bool := (floatToIntVal .f64 a .i64).isSome
def fv_int (a : Nat) : Int := (floatToIntVal .f64 a .i64).getD 0
@[go_sem high] theorem flt_eql (t : TypeId) (a b : Nat) : binOp .eql t (.float .f64 a) (.float .f64 b) = pure (.bool (feq a b)) := binOp_float_cmp_eql t .f64 a b
@[go_sem high] theorem flt_neq (t : TypeId) (a b : Nat) : binOp .neq t (.float .f64 a) (.float .f64 b) = pure (.bool (!(feq a b))) := binOp_float_cmp_neq t .f64 a b
@[go_sem high] theorem flt_lss (t : TypeId) (a b : Nat) : binOp .lss t (.float .f64 a) (.float .f64 b) = pure (.bool (flt a b)) := binOp_float_cmp_lss t .f64 a b
@[go_sem high] theorem flt_leq (t : TypeId) (a b : Nat) : binOp .leq t (.float .f64 a) (.float .f64 b) = pure (.bool (fle a b)) := binOp_float_cmp_leq t .f64 a b
@[go_sem high] theorem flt_gtr (t : TypeId) (a b : Nat) : binOp .gtr t (.float .f64 a) (.float .f64 b) = pure (.bool (fgt a b)) := binOp_float_cmp_gtr t .f64 a b
@[go_sem high] theorem flt_geq (t : TypeId) (a b : Nat) : binOp .geq t (.float .f64 a) (.float .f64 b) = pure (.bool (fge a b)) := binOp_float_cmp_geq t .f64 a b
section
variable {P : Program} (w : World)
@[go_sem] theorem flt_store (a : Addr) (m : Mode) (k : FloatKind) (x : Nat) : (store a (.float k x) m).run P w = stored P w a (.float k x) m := run_store P w a _ m rfl
@[go_sem high] theorem flt_sub (t : TypeId) (a b : Nat) (h : fok_sub a b = true) : (binOp .sub t (.float .f64 a) (.float .f64 b)).run P w = .ok (.float .f64 (fv_sub a b)) w := by
  obtain ⟨r, hr⟩ := Option.isSome_iff_exists.1 h
  rw [run_float_arith w .sub t .f64 a b r hr]
  simp only [fv_sub, hr, Option.getD_some]
@[go_sem high] theorem flt_quo (t : TypeId) (a b : Nat) (h : fok_quo a b = true) : (binOp .quo t (.float .f64 a) (.float .f64 b)).run P w = .ok (.float .f64 (fv_quo a b)) w := by
  obtain ⟨r, hr⟩ := Option.isSome_iff_exists.1 h
  rw [run_float_arith w .quo t .f64 a b r hr]
  simp only [fv_quo, hr, Option.getD_some]
@[go_sem high] theorem flt_int (src dst : TypeId) (a : Nat) (hs : (P.underlying src).isSome = true) (hd : P.underlying dst = some (.int .i64)) (h : fok_int a = true) : (convert src dst (.float .f64 a)).run P w = .ok (.int .i64 (fv_int a)) w := by
  obtain ⟨r, hr⟩ := Option.isSome_iff_exists.1 h
  rw [run_convert_float_int w src dst .f64 .i64 a r hs hd hr]
  simp only [fv_int, hr, Option.getD_some]
end
namespace Kd
def float : Kd Nat := scalar (Value.float .f64) (fun _ => rfl)
theorem at_float {w : World} {A : Option Addr} {n : Nat} {xs : List Nat} (h : Kd.float.C w A n xs) (i : Int) (h0 : 0 ≤ i) (h1 : i < n) : ∃ ad, A = some ad ∧ w.cell? (ad.add i.toNat) = some (.float .f64 (rdOf (0 : Nat) xs i)) :=
  ReadsOf.at_ (reads_of_C (enc := Value.float .f64) (d := (0 : Nat)) (h1 := fun _ => rfl) h) i h0 h1
theorem heap_float : Heap Kd.float := ⟨fun _ h => h⟩
end Kd
end Go.Proofs.YtclploookcjcbaaDoorW.PrintWords
