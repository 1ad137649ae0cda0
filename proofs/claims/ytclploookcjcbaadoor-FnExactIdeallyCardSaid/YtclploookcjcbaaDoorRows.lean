/-
  NARROWER THAN 'FOR EVERY INPUT', by the rows' own cells (each row's printed sentence says how): FnExactActOk: laid · FnExactIdeally: laid.
  DERIVED. THE GIVEN ROWS OF THIS SEAT. 2 by the template 'for every input the law returns true; each argument reads behind the call as it read before'; 0 by the template 'total and deterministic' (their statements: YtclploookcjcbaaDoorTotals.lean).
  GIVEN WITH THE SEED: the statements are not yours to turn. If you find one false, say at which input.
  Laid BY PROGRAM, IN A SANDBOX (cutbox-rows.mjs): the forced cells as the released guide's own fill.sh prints them over the translation 463464c83776f055… (all of the seat's roots in one cut). By AI agents, Wed Nov 11 2026. No macro, syntax, notation, axiom, sorry.
-/
import Derived.Test.YtclploookcjcbaaDoorChecked
import GoSem.Claim
import GoSem.ClaimJoined
import GoSem.ClaimMapViews
import Derived.JoinedTies
import Derived.KernelRfl
namespace Go.Proofs.YtclploookcjcbaaDoor
/- THE CELL 'sum', in the pinned program and in every row, IS THE sha256 OF THE DUMP (.gsa) THAT YtclploookcjcbaaDoorProg.lean LOADS. Nothing in Lean hashes anything: it is a label: what it is worth is what the hold of that sum in a sandbox is worth. -/
noncomputable def Tryd.pinned : Pinned := { name := "ytclploookcjcbaadoor", sum := "463464c83776f05593aea55c92822b833b6126a8ca3477c49bbbf4b9fdd1b796", checked := Tryd.checked }
namespace Rows
def none {H : Type} : Left H := { results := [], args := [] }

/- WHAT THE LISTED PACKAGE-LEVEL VARIABLES READ AS WHEN THE CALL BEGINS. Each datum BY PROGRAM (the guide's laid-datum.mjs) off the statement by which the dump's own 'gosem.cut.vars' lays the variable. In a bare row this is a premise. The card (YtclploookcjcbaaDoorCards.lean) ties it to the program's text. -/
def laid_loop_example_shuttle_impl_fields {H : Type} : DataW H := .agg [.lit (.int .i64 0), .lit (.int .i64 0), .lit (.int .i64 25), .lit (.int .i64 9), .lit (.int .i64 5), .lit (.int .i64 1), .lit (.int .i64 1), .lit (.int .i64 8), .lit (.int .i64 3), .lit (.int .i64 19)]

/-- 'laws.FnExactActOk': WHATEVER THE INPUT: true; the input reads as it did. -/
def fnExactActOkSpec : ChangeSpec := { name := "fnExactActOk", vars := ["loop.example/shuttle/impl.fields"], fn := fun _ => fun
  | [d, g1] => { results := [.lit (.bool true)], args := [d], vars := [g1] }
  | _ => none }
def fnExactActOkRow : OpenClaim := { program := "ytclploookcjcbaadoor", sum := "463464c83776f05593aea55c92822b833b6126a8ca3477c49bbbf4b9fdd1b796", func := "loop.example/shuttle/laws.FnExactActOk", spec := "fnExactActOk", unfollowed := true, recurses := true, named := ["loop.example/shuttle/impl.fields"], apart := false, laid := [("loop.example/shuttle/impl.fields", laid_loop_example_shuttle_impl_fields)] }
def FnExactActOkSaid : Prop := fnExactActOkRow.holds Tryd.pinned (OpenSpec.ofChange fnExactActOkSpec)

/-- ITS FALSE NEIGHBOUR: 'it returns false'. Refute it at one input. -/
def fnExactActOkWrong : ChangeSpec := { name := "fnExactActOk", vars := ["loop.example/shuttle/impl.fields"], fn := fun _ => fun
  | [d, g1] => { results := [.lit (.bool false)], args := [d], vars := [g1] }
  | _ => none }
def FnExactActOkWrongFalsely : Prop := fnExactActOkRow.holds Tryd.pinned (OpenSpec.ofChange fnExactActOkWrong)

/-- 'laws.FnExactIdeally': WHATEVER THE INPUT: true; the input reads as it did. -/
def fnExactIdeallySpec : ChangeSpec := { name := "fnExactIdeally", vars := ["loop.example/shuttle/impl.fields"], fn := fun _ => fun
  | [d, g1] => { results := [.lit (.bool true)], args := [d], vars := [g1] }
  | _ => none }
def fnExactIdeallyRow : OpenClaim := { program := "ytclploookcjcbaadoor", sum := "463464c83776f05593aea55c92822b833b6126a8ca3477c49bbbf4b9fdd1b796", func := "loop.example/shuttle/laws.FnExactIdeally", spec := "fnExactIdeally", inPlace := ["math.archTrunc", "math.Float64bits", "math.Float64frombits"], unfollowed := true, recurses := true, named := ["loop.example/shuttle/impl.fields"], apart := false, laid := [("loop.example/shuttle/impl.fields", laid_loop_example_shuttle_impl_fields)] }
def FnExactIdeallySaid : Prop := fnExactIdeallyRow.holds Tryd.pinned (OpenSpec.ofChange fnExactIdeallySpec)

/-- ITS FALSE NEIGHBOUR: 'it returns false'. Refute it at one input. -/
def fnExactIdeallyWrong : ChangeSpec := { name := "fnExactIdeally", vars := ["loop.example/shuttle/impl.fields"], fn := fun _ => fun
  | [d, g1] => { results := [.lit (.bool false)], args := [d], vars := [g1] }
  | _ => none }
def FnExactIdeallyWrongFalsely : Prop := fnExactIdeallyRow.holds Tryd.pinned (OpenSpec.ofChange fnExactIdeallyWrong)

/- THE SECOND FORM. 'bulk': how many values and letters a reading holds, each counted each time it is reached (what is shared counts as often as it is met; a slice's spare places count too). A statement '..UptoSaid' is the law's where the arguments, and the package variables that the reading takes, are together of bulk at most 1048576: NARROWER than '..Said'. Prove '..Said' where nothing that the law and all that it calls make is longer than what came in: it says more and counts as full. Else prove '..UptoSaid'. A law counts once. -/
mutual
def uptoBulk {H : Type} : DataW H → Nat
  | .lit (.string bytes) => bytes.length + 1
  | .lit _ => 1
  | .nil => 1
  | .ptr d => uptoBulk d + 1
  | .slice elems spare => uptoBulkAll elems + uptoBulkAll spare + 1
  | .agg parts => uptoBulkAll parts + 1
  | .iface _ d => uptoBulk d + 1
  | .map entries => uptoBulkEntries entries + 1
  | .held _ => 1
def uptoBulkAll {H : Type} : List (DataW H) → Nat
  | [] => 0
  | d :: r => uptoBulk d + uptoBulkAll r
def uptoBulkEntries {H : Type} : List (Lit × DataW H) → Nat
  | [] => 0
  | x :: r => uptoBulkEntry x + uptoBulkEntries r
def uptoBulkEntry {H : Type} : Lit × DataW H → Nat
  | (.string bytes, d) => bytes.length + uptoBulk d + 1
  | (_, d) => uptoBulk d + 1
 end
def uptoSmall : (H : Type) → List (DataW H) → Bool := fun _ ds => decide (uptoBulkAll ds ≤ 1048576)
def OpenSpec.upto (s : _root_.Go.ChangeSpec) : _root_.Go.OpenSpec := { _root_.Go.OpenSpec.ofChange s with cond := some uptoSmall }

/-- 'laws.FnExactActOk', WHERE WHAT IT READS IS OF BULK AT MOST 1048576: true; the input reads as it did. -/
def fnExactActOkUptoRow : OpenClaim := { program := "ytclploookcjcbaadoor", sum := "463464c83776f05593aea55c92822b833b6126a8ca3477c49bbbf4b9fdd1b796", func := "loop.example/shuttle/laws.FnExactActOk", spec := "fnExactActOk", unfollowed := true, recurses := true, named := ["loop.example/shuttle/impl.fields"], apart := false, laid := [("loop.example/shuttle/impl.fields", laid_loop_example_shuttle_impl_fields)], narrowed := true }
def FnExactActOkUptoSaid : Prop := fnExactActOkUptoRow.holds Tryd.pinned (OpenSpec.upto fnExactActOkSpec)

/-- 'laws.FnExactIdeally', WHERE WHAT IT READS IS OF BULK AT MOST 1048576: true; the input reads as it did. -/
def fnExactIdeallyUptoRow : OpenClaim := { program := "ytclploookcjcbaadoor", sum := "463464c83776f05593aea55c92822b833b6126a8ca3477c49bbbf4b9fdd1b796", func := "loop.example/shuttle/laws.FnExactIdeally", spec := "fnExactIdeally", inPlace := ["math.archTrunc", "math.Float64bits", "math.Float64frombits"], unfollowed := true, recurses := true, named := ["loop.example/shuttle/impl.fields"], apart := false, laid := [("loop.example/shuttle/impl.fields", laid_loop_example_shuttle_impl_fields)], narrowed := true }
def FnExactIdeallyUptoSaid : Prop := fnExactIdeallyUptoRow.holds Tryd.pinned (OpenSpec.upto fnExactIdeallySpec)

end Rows
end Go.Proofs.YtclploookcjcbaaDoor
