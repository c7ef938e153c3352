/-
  DERIVED. GIVEN WITH THE SEED: THE CARDS: each row of YtfgciihkmemdlaaGreatDoorRows.lean that lists a variable, with what it lists TIED to the program's text (the seventh form; the later family's looks); each row that meets fmt, with fmt's text TOLD by the authors' own Lean function (tested against real Go, not proved from fmt's source: count such statements apart). THE CARD IS WHAT COUNTS. Prove the row's statement (the work); the ties are given (YtfgciihkmemdlaaGreatDoorTie.lean); close each card by the builder's one call (the guide's Derived/Test/ToyasCard.lean, 'card_holds'). Laid BY PROGRAM, IN A SANDBOX (cutbox-door.mjs). By AI agents, Wed Nov 11 2026. No macro, syntax, notation, axiom, sorry.
-/
import Derived.Test.YtfgciihkmemdlaaGreatDoorRows
import GoSem.ClaimSeven
namespace Go.Proofs.YtfgciihkmemdlaaGreatDoor
namespace Rows

/-- THE TIED CARD OF 'nosalelaw06.SalesCleaned'. -/
def salesCleanedCard : Claim7 := { stood := { row := salesCleanedRow, standIns := [], harness := (true, "a2cd5405f743bd4cee594422525db60475b5c87ac55e2686c141529d48702189"), looks := false }, kinds := [], alts := [], goes := true, laidByText := true, laidKinds := [.funcs, .funcs], laidTests := true, laidLooks := .later }
def SalesCleanedCardSaid : Prop := Claim7.holds Tryz.pinned (.plain (OpenSpec.ofChange salesCleanedSpec)) salesCleanedCard

/-- THE TIED CARD OF 'nosalelaw06.SalesCorrected'. -/
def salesCorrectedCard : Claim7 := { stood := { row := salesCorrectedRow, standIns := [], harness := (true, "a2cd5405f743bd4cee594422525db60475b5c87ac55e2686c141529d48702189"), looks := false }, kinds := [], alts := [], goes := true, laidByText := true, laidKinds := [.funcs, .funcs], laidTests := true, laidLooks := .later }
def SalesCorrectedCardSaid : Prop := Claim7.holds Tryz.pinned (.plain (OpenSpec.ofChange salesCorrectedSpec)) salesCorrectedCard

/-- THE TIED CARD OF 'nosalelaw06.SalesSlips'. -/
def salesSlipsCard : Claim7 := { stood := { row := salesSlipsRow, standIns := [], harness := (true, "a2cd5405f743bd4cee594422525db60475b5c87ac55e2686c141529d48702189"), looks := false }, kinds := [], alts := [], goes := true, laidByText := true, laidKinds := [.funcs, .funcs], laidTests := true, laidLooks := .later }
def SalesSlipsCardSaid : Prop := Claim7.holds Tryz.pinned (.plain (OpenSpec.ofChange salesSlipsSpec)) salesSlipsCard

/-- THE TIED CARD OF 'nosalelaw06.SalesNews'. -/
def salesNewsCard : Claim7 := { stood := { row := salesNewsRow, standIns := [], harness := (true, "a2cd5405f743bd4cee594422525db60475b5c87ac55e2686c141529d48702189"), looks := false }, kinds := [], alts := [], goes := true, laidByText := true, laidKinds := [.funcs, .funcs], laidTests := true, laidLooks := .later }
def SalesNewsCardSaid : Prop := Claim7.holds Tryz.pinned (.plain (OpenSpec.ofChange salesNewsSpec)) salesNewsCard
end Rows
end Go.Proofs.YtfgciihkmemdlaaGreatDoor
