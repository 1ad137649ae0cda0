/-
  No cell of these rows narrows 'for every input' (looked for: loops, veiled, ifaces, maps, wideKeys, modest, calm, conditions, laid).
  DERIVED. THE GIVEN ROWS OF THIS SEAT. 8 by the template 'for every input the law returns true; each argument reads behind the call as it read before'; 0 by the template 'total and deterministic' (their statements: YtclploookcjcbaaTotals.lean).
  GIVEN WITH THE SEED: the statements are not yours to turn. If you find one false, say at which input.
  Laid BY PROGRAM, IN A SANDBOX (cutbox-rows.mjs): the forced cells as the released guide's own fill.sh prints them over the translation b19b4b478860a689… (all of the seat's roots in one cut). By AI agents, Wed Nov 11 2026. No macro, syntax, notation, axiom, sorry.
-/
import Derived.Test.YtclploookcjcbaaChecked
import GoSem.Claim
import GoSem.ClaimJoined
import GoSem.ClaimMapViews
import Derived.JoinedTies
import Derived.KernelRfl
namespace Go.Proofs.Ytclploookcjcbaa
/- THE CELL 'sum', in the pinned program and in every row, IS THE sha256 OF THE DUMP (.gsa) THAT YtclploookcjcbaaProg.lean LOADS. Nothing in Lean hashes anything: it is a label: what it is worth is what the hold of that sum in a sandbox is worth. -/
noncomputable def Try.pinned : Pinned := { name := "ytclploookcjcbaa", sum := "b19b4b478860a689580a46d019ed0337c01a5c4b5144af7618fdee2bf33d3c77", checked := Try.checked }
namespace Rows
def none {H : Type} : Left H := { results := [], args := [] }

/-- 'laws.FnExactConstants': WHATEVER THE INPUT: true; the input reads as it did. -/
def fnExactConstantsSpec : ChangeSpec := { name := "fnExactConstants", fn := fun _ => fun
  | [] => { results := [.lit (.bool true)], args := [] }
  | _ => none }
def fnExactConstantsRow : OpenClaim := { program := "ytclploookcjcbaa", sum := "b19b4b478860a689580a46d019ed0337c01a5c4b5144af7618fdee2bf33d3c77", func := "loop.example/shuttle/laws.FnExactConstants", spec := "fnExactConstants", plainKeys := false, apart := false }
def FnExactConstantsSaid : Prop := fnExactConstantsRow.holds Try.pinned (OpenSpec.ofChange fnExactConstantsSpec)

/-- ITS FALSE NEIGHBOUR: 'it returns false'. Refute it at one input. -/
def fnExactConstantsWrong : ChangeSpec := { name := "fnExactConstants", fn := fun _ => fun
  | [] => { results := [.lit (.bool false)], args := [] }
  | _ => none }
def FnExactConstantsWrongFalsely : Prop := fnExactConstantsRow.holds Try.pinned (OpenSpec.ofChange fnExactConstantsWrong)

/-- 'laws.FnExactKeyOf': WHATEVER THE INPUT: true; the input reads as it did. -/
def fnExactKeyOfSpec : ChangeSpec := { name := "fnExactKeyOf", fn := fun _ => fun
  | [d] => { results := [.lit (.bool true)], args := [d] }
  | _ => none }
def fnExactKeyOfRow : OpenClaim := { program := "ytclploookcjcbaa", sum := "b19b4b478860a689580a46d019ed0337c01a5c4b5144af7618fdee2bf33d3c77", func := "loop.example/shuttle/laws.FnExactKeyOf", spec := "fnExactKeyOf", inPlace := ["math.archTrunc", "math.Float64bits", "math.Float64frombits"], plainKeys := false, apart := false }
def FnExactKeyOfSaid : Prop := fnExactKeyOfRow.holds Try.pinned (OpenSpec.ofChange fnExactKeyOfSpec)

/-- ITS FALSE NEIGHBOUR: 'it returns false'. Refute it at one input. -/
def fnExactKeyOfWrong : ChangeSpec := { name := "fnExactKeyOf", fn := fun _ => fun
  | [d] => { results := [.lit (.bool false)], args := [d] }
  | _ => none }
def FnExactKeyOfWrongFalsely : Prop := fnExactKeyOfRow.holds Try.pinned (OpenSpec.ofChange fnExactKeyOfWrong)

/-- 'laws.FnExactEmpty': WHATEVER THE INPUT: true; the input reads as it did. -/
def fnExactEmptySpec : ChangeSpec := { name := "fnExactEmpty", fn := fun _ => fun
  | [] => { results := [.lit (.bool true)], args := [] }
  | _ => none }
def fnExactEmptyRow : OpenClaim := { program := "ytclploookcjcbaa", sum := "b19b4b478860a689580a46d019ed0337c01a5c4b5144af7618fdee2bf33d3c77", func := "loop.example/shuttle/laws.FnExactEmpty", spec := "fnExactEmpty", plainKeys := false, apart := false }
def FnExactEmptySaid : Prop := fnExactEmptyRow.holds Try.pinned (OpenSpec.ofChange fnExactEmptySpec)

/-- ITS FALSE NEIGHBOUR: 'it returns false'. Refute it at one input. -/
def fnExactEmptyWrong : ChangeSpec := { name := "fnExactEmpty", fn := fun _ => fun
  | [] => { results := [.lit (.bool false)], args := [] }
  | _ => none }
def FnExactEmptyWrongFalsely : Prop := fnExactEmptyRow.holds Try.pinned (OpenSpec.ofChange fnExactEmptyWrong)

/-- 'laws.FnExactForestOk': WHATEVER THE INPUT: true; the input reads as it did. -/
def fnExactForestOkSpec : ChangeSpec := { name := "fnExactForestOk", fn := fun _ => fun
  | [d] => { results := [.lit (.bool true)], args := [d] }
  | _ => none }
def fnExactForestOkRow : OpenClaim := { program := "ytclploookcjcbaa", sum := "b19b4b478860a689580a46d019ed0337c01a5c4b5144af7618fdee2bf33d3c77", func := "loop.example/shuttle/laws.FnExactForestOk", spec := "fnExactForestOk", recurses := true, plainKeys := false, apart := false }
def FnExactForestOkSaid : Prop := fnExactForestOkRow.holds Try.pinned (OpenSpec.ofChange fnExactForestOkSpec)

/-- ITS FALSE NEIGHBOUR: 'it returns false'. Refute it at one input. -/
def fnExactForestOkWrong : ChangeSpec := { name := "fnExactForestOk", fn := fun _ => fun
  | [d] => { results := [.lit (.bool false)], args := [d] }
  | _ => none }
def FnExactForestOkWrongFalsely : Prop := fnExactForestOkRow.holds Try.pinned (OpenSpec.ofChange fnExactForestOkWrong)

/-- 'laws.FnExactFieldAt': WHATEVER THE INPUT: true; the input reads as it did. -/
def fnExactFieldAtSpec : ChangeSpec := { name := "fnExactFieldAt", fn := fun _ => fun
  | [d1, d2, d3] => { results := [.lit (.bool true)], args := [d1, d2, d3] }
  | _ => none }
def fnExactFieldAtRow : OpenClaim := { program := "ytclploookcjcbaa", sum := "b19b4b478860a689580a46d019ed0337c01a5c4b5144af7618fdee2bf33d3c77", func := "loop.example/shuttle/laws.FnExactFieldAt", spec := "fnExactFieldAt", recurses := true, plainKeys := false, apart := false }
def FnExactFieldAtSaid : Prop := fnExactFieldAtRow.holds Try.pinned (OpenSpec.ofChange fnExactFieldAtSpec)

/-- ITS FALSE NEIGHBOUR: 'it returns false'. Refute it at one input. -/
def fnExactFieldAtWrong : ChangeSpec := { name := "fnExactFieldAt", fn := fun _ => fun
  | [d1, d2, d3] => { results := [.lit (.bool false)], args := [d1, d2, d3] }
  | _ => none }
def FnExactFieldAtWrongFalsely : Prop := fnExactFieldAtRow.holds Try.pinned (OpenSpec.ofChange fnExactFieldAtWrong)

/-- 'laws.FnExactFields': WHATEVER THE INPUT: true; the input reads as it did. -/
def fnExactFieldsSpec : ChangeSpec := { name := "fnExactFields", fn := fun _ => fun
  | [d1, d2] => { results := [.lit (.bool true)], args := [d1, d2] }
  | _ => none }
def fnExactFieldsRow : OpenClaim := { program := "ytclploookcjcbaa", sum := "b19b4b478860a689580a46d019ed0337c01a5c4b5144af7618fdee2bf33d3c77", func := "loop.example/shuttle/laws.FnExactFields", spec := "fnExactFields", recurses := true, plainKeys := false, apart := false }
def FnExactFieldsSaid : Prop := fnExactFieldsRow.holds Try.pinned (OpenSpec.ofChange fnExactFieldsSpec)

/-- ITS FALSE NEIGHBOUR: 'it returns false'. Refute it at one input. -/
def fnExactFieldsWrong : ChangeSpec := { name := "fnExactFields", fn := fun _ => fun
  | [d1, d2] => { results := [.lit (.bool false)], args := [d1, d2] }
  | _ => none }
def FnExactFieldsWrongFalsely : Prop := fnExactFieldsRow.holds Try.pinned (OpenSpec.ofChange fnExactFieldsWrong)

/-- 'laws.FnForest': WHATEVER THE INPUT: true; the input reads as it did. -/
def fnForestSpec : ChangeSpec := { name := "fnForest", fn := fun _ => fun
  | [d] => { results := [.lit (.bool true)], args := [d] }
  | _ => none }
def fnForestRow : OpenClaim := { program := "ytclploookcjcbaa", sum := "b19b4b478860a689580a46d019ed0337c01a5c4b5144af7618fdee2bf33d3c77", func := "loop.example/shuttle/laws.FnForest", spec := "fnForest", recurses := true, plainKeys := false, apart := false }
def FnForestSaid : Prop := fnForestRow.holds Try.pinned (OpenSpec.ofChange fnForestSpec)

/-- ITS FALSE NEIGHBOUR: 'it returns false'. Refute it at one input. -/
def fnForestWrong : ChangeSpec := { name := "fnForest", fn := fun _ => fun
  | [d] => { results := [.lit (.bool false)], args := [d] }
  | _ => none }
def FnForestWrongFalsely : Prop := fnForestRow.holds Try.pinned (OpenSpec.ofChange fnForestWrong)

/-- 'laws.FnExactGrow': WHATEVER THE INPUT: true; the input reads as it did. -/
def fnExactGrowSpec : ChangeSpec := { name := "fnExactGrow", fn := fun _ => fun
  | [d1, d2, d3] => { results := [.lit (.bool true)], args := [d1, d2, d3] }
  | _ => none }
def fnExactGrowRow : OpenClaim := { program := "ytclploookcjcbaa", sum := "b19b4b478860a689580a46d019ed0337c01a5c4b5144af7618fdee2bf33d3c77", func := "loop.example/shuttle/laws.FnExactGrow", spec := "fnExactGrow", recurses := true, plainKeys := false, apart := false }
def FnExactGrowSaid : Prop := fnExactGrowRow.holds Try.pinned (OpenSpec.ofChange fnExactGrowSpec)

/-- ITS FALSE NEIGHBOUR: 'it returns false'. Refute it at one input. -/
def fnExactGrowWrong : ChangeSpec := { name := "fnExactGrow", fn := fun _ => fun
  | [d1, d2, d3] => { results := [.lit (.bool false)], args := [d1, d2, d3] }
  | _ => none }
def FnExactGrowWrongFalsely : Prop := fnExactGrowRow.holds Try.pinned (OpenSpec.ofChange fnExactGrowWrong)

/- THE SECOND FORM. 'bulk': how many values and letters a reading holds, each counted each time it is reached (what is shared counts as often as it is met; a slice's spare places count too). A statement '..UptoSaid' is the law's where the arguments, and the package variables that the reading takes, are together of bulk at most 1048576: NARROWER than '..Said'. Prove '..Said' where nothing that the law and all that it calls make is longer than what came in: it says more and counts as full. Else prove '..UptoSaid'. A law counts once. -/
mutual
def uptoBulk {H : Type} : DataW H → Nat
  | .lit (.string bytes) => bytes.length + 1
  | .lit _ => 1
  | .nil => 1
  | .ptr d => uptoBulk d + 1
  | .slice elems spare => uptoBulkAll elems + uptoBulkAll spare + 1
  | .agg parts => uptoBulkAll parts + 1
  | .iface _ d => uptoBulk d + 1
  | .map entries => uptoBulkEntries entries + 1
  | .held _ => 1
def uptoBulkAll {H : Type} : List (DataW H) → Nat
  | [] => 0
  | d :: r => uptoBulk d + uptoBulkAll r
def uptoBulkEntries {H : Type} : List (Lit × DataW H) → Nat
  | [] => 0
  | x :: r => uptoBulkEntry x + uptoBulkEntries r
def uptoBulkEntry {H : Type} : Lit × DataW H → Nat
  | (.string bytes, d) => bytes.length + uptoBulk d + 1
  | (_, d) => uptoBulk d + 1
 end
def uptoSmall : (H : Type) → List (DataW H) → Bool := fun _ ds => decide (uptoBulkAll ds ≤ 1048576)
def OpenSpec.upto (s : _root_.Go.ChangeSpec) : _root_.Go.OpenSpec := { _root_.Go.OpenSpec.ofChange s with cond := some uptoSmall }

/-- 'laws.FnExactConstants', WHERE WHAT IT READS IS OF BULK AT MOST 1048576: true; the input reads as it did. -/
def fnExactConstantsUptoRow : OpenClaim := { program := "ytclploookcjcbaa", sum := "b19b4b478860a689580a46d019ed0337c01a5c4b5144af7618fdee2bf33d3c77", func := "loop.example/shuttle/laws.FnExactConstants", spec := "fnExactConstants", plainKeys := false, apart := false, narrowed := true }
def FnExactConstantsUptoSaid : Prop := fnExactConstantsUptoRow.holds Try.pinned (OpenSpec.upto fnExactConstantsSpec)

/-- 'laws.FnExactKeyOf', WHERE WHAT IT READS IS OF BULK AT MOST 1048576: true; the input reads as it did. -/
def fnExactKeyOfUptoRow : OpenClaim := { program := "ytclploookcjcbaa", sum := "b19b4b478860a689580a46d019ed0337c01a5c4b5144af7618fdee2bf33d3c77", func := "loop.example/shuttle/laws.FnExactKeyOf", spec := "fnExactKeyOf", inPlace := ["math.archTrunc", "math.Float64bits", "math.Float64frombits"], plainKeys := false, apart := false, narrowed := true }
def FnExactKeyOfUptoSaid : Prop := fnExactKeyOfUptoRow.holds Try.pinned (OpenSpec.upto fnExactKeyOfSpec)

/-- 'laws.FnExactEmpty', WHERE WHAT IT READS IS OF BULK AT MOST 1048576: true; the input reads as it did. -/
def fnExactEmptyUptoRow : OpenClaim := { program := "ytclploookcjcbaa", sum := "b19b4b478860a689580a46d019ed0337c01a5c4b5144af7618fdee2bf33d3c77", func := "loop.example/shuttle/laws.FnExactEmpty", spec := "fnExactEmpty", plainKeys := false, apart := false, narrowed := true }
def FnExactEmptyUptoSaid : Prop := fnExactEmptyUptoRow.holds Try.pinned (OpenSpec.upto fnExactEmptySpec)

/-- 'laws.FnExactForestOk', WHERE WHAT IT READS IS OF BULK AT MOST 1048576: true; the input reads as it did. -/
def fnExactForestOkUptoRow : OpenClaim := { program := "ytclploookcjcbaa", sum := "b19b4b478860a689580a46d019ed0337c01a5c4b5144af7618fdee2bf33d3c77", func := "loop.example/shuttle/laws.FnExactForestOk", spec := "fnExactForestOk", recurses := true, plainKeys := false, apart := false, narrowed := true }
def FnExactForestOkUptoSaid : Prop := fnExactForestOkUptoRow.holds Try.pinned (OpenSpec.upto fnExactForestOkSpec)

/-- 'laws.FnExactFieldAt', WHERE WHAT IT READS IS OF BULK AT MOST 1048576: true; the input reads as it did. -/
def fnExactFieldAtUptoRow : OpenClaim := { program := "ytclploookcjcbaa", sum := "b19b4b478860a689580a46d019ed0337c01a5c4b5144af7618fdee2bf33d3c77", func := "loop.example/shuttle/laws.FnExactFieldAt", spec := "fnExactFieldAt", recurses := true, plainKeys := false, apart := false, narrowed := true }
def FnExactFieldAtUptoSaid : Prop := fnExactFieldAtUptoRow.holds Try.pinned (OpenSpec.upto fnExactFieldAtSpec)

/-- 'laws.FnExactFields', WHERE WHAT IT READS IS OF BULK AT MOST 1048576: true; the input reads as it did. -/
def fnExactFieldsUptoRow : OpenClaim := { program := "ytclploookcjcbaa", sum := "b19b4b478860a689580a46d019ed0337c01a5c4b5144af7618fdee2bf33d3c77", func := "loop.example/shuttle/laws.FnExactFields", spec := "fnExactFields", recurses := true, plainKeys := false, apart := false, narrowed := true }
def FnExactFieldsUptoSaid : Prop := fnExactFieldsUptoRow.holds Try.pinned (OpenSpec.upto fnExactFieldsSpec)

/-- 'laws.FnForest', WHERE WHAT IT READS IS OF BULK AT MOST 1048576: true; the input reads as it did. -/
def fnForestUptoRow : OpenClaim := { program := "ytclploookcjcbaa", sum := "b19b4b478860a689580a46d019ed0337c01a5c4b5144af7618fdee2bf33d3c77", func := "loop.example/shuttle/laws.FnForest", spec := "fnForest", recurses := true, plainKeys := false, apart := false, narrowed := true }
def FnForestUptoSaid : Prop := fnForestUptoRow.holds Try.pinned (OpenSpec.upto fnForestSpec)

/-- 'laws.FnExactGrow', WHERE WHAT IT READS IS OF BULK AT MOST 1048576: true; the input reads as it did. -/
def fnExactGrowUptoRow : OpenClaim := { program := "ytclploookcjcbaa", sum := "b19b4b478860a689580a46d019ed0337c01a5c4b5144af7618fdee2bf33d3c77", func := "loop.example/shuttle/laws.FnExactGrow", spec := "fnExactGrow", recurses := true, plainKeys := false, apart := false, narrowed := true }
def FnExactGrowUptoSaid : Prop := fnExactGrowUptoRow.holds Try.pinned (OpenSpec.upto fnExactGrowSpec)

end Rows
end Go.Proofs.Ytclploookcjcbaa
