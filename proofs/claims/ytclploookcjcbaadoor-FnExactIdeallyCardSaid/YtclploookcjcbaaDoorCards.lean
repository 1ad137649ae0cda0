/-
  DERIVED. GIVEN WITH THE SEED: THE CARDS: each row of YtclploookcjcbaaDoorRows.lean that lists a variable, with what it lists TIED to the program's text (the seventh form; the later family's looks); each row that meets fmt, with fmt's text TOLD by the authors' own Lean function (tested against real Go, not proved from fmt's source: count such statements apart). THE CARD IS WHAT COUNTS. Prove the row's statement (the work); the ties are given (YtclploookcjcbaaDoorTie.lean); close each card by the builder's one call (the guide's Derived/Test/ToyasCard.lean, 'card_holds'). Laid BY PROGRAM, IN A SANDBOX (cutbox-door.mjs). By AI agents, Wed Nov 11 2026. No macro, syntax, notation, axiom, sorry.
-/
import Derived.Test.YtclploookcjcbaaDoorRows
import GoSem.ClaimSeven
namespace Go.Proofs.YtclploookcjcbaaDoor
namespace Rows

/-- THE TIED CARD OF 'laws.FnExactActOk'. -/
def fnExactActOkCard : Claim7 := { stood := { row := fnExactActOkRow, standIns := [], harness := (true, "238999fc08b1cf041176fca35fe8f6c0b09f3fbd3960f60e1002d3893750565e"), looks := false }, kinds := [], alts := [], laidByText := true, laidKinds := [.data], laidTests := true, laidLooks := .later }
def FnExactActOkCardSaid : Prop := Claim7.holds Tryd.pinned (.plain (OpenSpec.ofChange fnExactActOkSpec)) fnExactActOkCard

/-- THE TIED CARD OF 'laws.FnExactIdeally'. -/
def fnExactIdeallyCard : Claim7 := { stood := { row := fnExactIdeallyRow, standIns := [], harness := (true, "238999fc08b1cf041176fca35fe8f6c0b09f3fbd3960f60e1002d3893750565e"), looks := false }, kinds := [], alts := [], laidByText := true, laidKinds := [.data], laidTests := true, laidLooks := .later }
def FnExactIdeallyCardSaid : Prop := Claim7.holds Tryd.pinned (.plain (OpenSpec.ofChange fnExactIdeallySpec)) fnExactIdeallyCard

/-- THE SECOND FORM's CARD OF 'laws.FnExactActOk'. -/
def fnExactActOkUptoCard : Claim7 := { stood := { row := fnExactActOkUptoRow, standIns := [], harness := (true, "238999fc08b1cf041176fca35fe8f6c0b09f3fbd3960f60e1002d3893750565e"), looks := false }, kinds := [], alts := [], laidByText := true, laidKinds := [.data], laidTests := true, laidLooks := .later }
def FnExactActOkUptoCardSaid : Prop := Claim7.holds Tryd.pinned (.plain (OpenSpec.upto fnExactActOkSpec)) fnExactActOkUptoCard

/-- THE SECOND FORM's CARD OF 'laws.FnExactIdeally'. -/
def fnExactIdeallyUptoCard : Claim7 := { stood := { row := fnExactIdeallyUptoRow, standIns := [], harness := (true, "238999fc08b1cf041176fca35fe8f6c0b09f3fbd3960f60e1002d3893750565e"), looks := false }, kinds := [], alts := [], laidByText := true, laidKinds := [.data], laidTests := true, laidLooks := .later }
def FnExactIdeallyUptoCardSaid : Prop := Claim7.holds Tryd.pinned (.plain (OpenSpec.upto fnExactIdeallySpec)) fnExactIdeallyUptoCard
end Rows
end Go.Proofs.YtclploookcjcbaaDoor
