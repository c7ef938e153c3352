/-
  DERIVED. GIVEN WITH THE SEED: THE CARDS: each row of YtoipgpgoaegniaaGreatDoorRows.lean that lists a variable, with what it lists TIED to the program's text (the seventh form; the later family's looks); each row that meets fmt, with fmt's text TOLD by the authors' own Lean function (tested against real Go, not proved from fmt's source: count such statements apart). THE CARD IS WHAT COUNTS. Prove the row's statement (the work); the ties are given (YtoipgpgoaegniaaGreatDoorTie.lean); close each card by the builder's one call (the guide's Derived/Test/ToyasCard.lean, 'card_holds'). Laid BY PROGRAM, IN A SANDBOX (cutbox-door.mjs). By AI agents, Wed Nov 11 2026. No macro, syntax, notation, axiom, sorry.
-/
import Derived.Test.YtoipgpgoaegniaaGreatDoorRows
import GoSem.ClaimSeven
namespace Go.Proofs.YtoipgpgoaegniaaGreatDoor
namespace Rows

/-- THE TIED CARD OF 'nosalelaw06.SalesSums'. -/
def salesSumsCard : Claim7 := { stood := { row := salesSumsRow, standIns := [], harness := (true, "0bc751deae2e68b7726d3556527c6a316999567e1eab169c43c189123b37cfa5"), looks := false }, kinds := [], alts := [], goes := true, laidByText := true, laidKinds := [.funcs, .funcs], laidTests := true, laidLooks := .later }
def SalesSumsCardSaid : Prop := Claim7.holds Tryz.pinned (.plain (OpenSpec.ofChange salesSumsSpec)) salesSumsCard
end Rows
end Go.Proofs.YtoipgpgoaegniaaGreatDoor
