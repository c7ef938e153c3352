/-
  DERIVED. GIVEN WITH THE SEED: THE CARDS: each row of YtdhnjafnodoeiaaGreatDoorRows.lean that lists a variable, with what it lists TIED to the program's text (the seventh form; the later family's looks); each row that meets fmt, with fmt's text TOLD by the authors' own Lean function (tested against real Go, not proved from fmt's source: count such statements apart). THE CARD IS WHAT COUNTS. Prove the row's statement (the work); the ties are given (YtdhnjafnodoeiaaGreatDoorTie.lean); close each card by the builder's one call (the guide's Derived/Test/ToyasCard.lean, 'card_holds'). Laid BY PROGRAM, IN A SANDBOX (cutbox-door.mjs). By AI agents, Wed Nov 11 2026. No macro, syntax, notation, axiom, sorry.
-/
import Derived.Test.YtdhnjafnodoeiaaGreatDoorRows
import GoSem.ClaimSeven
namespace Go.Proofs.YtdhnjafnodoeiaaGreatDoor
namespace Rows

/-- THE TIED CARD OF 'nosalelaw06.SalesSums'. -/
def salesSumsCard : Claim7 := { stood := { row := salesSumsRow, standIns := [], harness := (true, "cabb50d4f95bba07b68c3b627c649ea304854cfabfcdfe9e533477f7b9048e62"), looks := false }, kinds := [], alts := [], goes := true, laidByText := true, laidKinds := [.funcs, .funcs], laidTests := true, laidLooks := .later }
def SalesSumsCardSaid : Prop := Claim7.holds Tryz.pinned (.plain (OpenSpec.ofChange salesSumsSpec)) salesSumsCard

/-- THE TIED CARD OF 'nosalelaw06.SalesConserved'. -/
def salesConservedCard : Claim7 := { stood := { row := salesConservedRow, standIns := [], harness := (true, "cabb50d4f95bba07b68c3b627c649ea304854cfabfcdfe9e533477f7b9048e62"), looks := false }, kinds := [], alts := [], goes := true, laidByText := true, laidKinds := [.funcs, .funcs], laidTests := true, laidLooks := .later }
def SalesConservedCardSaid : Prop := Claim7.holds Tryz.pinned (.plain (OpenSpec.ofChange salesConservedSpec)) salesConservedCard

/-- THE TIED CARD OF 'nosalelaw06.SalesFewest'. -/
def salesFewestCard : Claim7 := { stood := { row := salesFewestRow, standIns := [], harness := (true, "cabb50d4f95bba07b68c3b627c649ea304854cfabfcdfe9e533477f7b9048e62"), looks := false }, kinds := [], alts := [], goes := true, laidByText := true, laidKinds := [.funcs, .funcs], laidTests := true, laidLooks := .later }
def SalesFewestCardSaid : Prop := Claim7.holds Tryz.pinned (.plain (OpenSpec.ofChange salesFewestSpec)) salesFewestCard

/-- THE TIED CARD OF 'nosalelaw06.SalesAsked'. -/
def salesAskedCard : Claim7 := { stood := { row := salesAskedRow, standIns := [], harness := (true, "cabb50d4f95bba07b68c3b627c649ea304854cfabfcdfe9e533477f7b9048e62"), looks := false }, kinds := [], alts := [], goes := true, laidByText := true, laidKinds := [.funcs, .funcs], laidTests := true, laidLooks := .later }
def SalesAskedCardSaid : Prop := Claim7.holds Tryz.pinned (.plain (OpenSpec.ofChange salesAskedSpec)) salesAskedCard

/-- THE TIED CARD OF 'nosalelaw06.SalesAllowed'. -/
def salesAllowedCard : Claim7 := { stood := { row := salesAllowedRow, standIns := [], harness := (true, "cabb50d4f95bba07b68c3b627c649ea304854cfabfcdfe9e533477f7b9048e62"), looks := false }, kinds := [], alts := [], goes := true, laidByText := true, laidKinds := [.funcs, .funcs], laidTests := true, laidLooks := .later }
def SalesAllowedCardSaid : Prop := Claim7.holds Tryz.pinned (.plain (OpenSpec.ofChange salesAllowedSpec)) salesAllowedCard

/-- THE TIED CARD OF 'nosalelaw06.SalesNews'. -/
def salesNewsCard : Claim7 := { stood := { row := salesNewsRow, standIns := [], harness := (true, "cabb50d4f95bba07b68c3b627c649ea304854cfabfcdfe9e533477f7b9048e62"), looks := false }, kinds := [], alts := [], goes := true, laidByText := true, laidKinds := [.funcs, .funcs], laidTests := true, laidLooks := .later }
def SalesNewsCardSaid : Prop := Claim7.holds Tryz.pinned (.plain (OpenSpec.ofChange salesNewsSpec)) salesNewsCard
end Rows
end Go.Proofs.YtdhnjafnodoeiaaGreatDoor
