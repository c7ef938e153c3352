/-
  DERIVED. GIVEN WITH THE SEED: THE CARDS: each row of YtbghfeeibnmlbaaGreatDoorRows.lean that lists a variable, with what it lists TIED to the program's text (the seventh form; the later family's looks); each row that meets fmt, with fmt's text TOLD by the authors' own Lean function (tested against real Go, not proved from fmt's source: count such statements apart). THE CARD IS WHAT COUNTS. Prove the row's statement (the work); the ties are given (YtbghfeeibnmlbaaGreatDoorTie.lean); close each card by the builder's one call (the guide's Derived/Test/ToyasCard.lean, 'card_holds'). Laid BY PROGRAM, IN A SANDBOX (cutbox-door.mjs). By AI agents, Wed Nov 11 2026. No macro, syntax, notation, axiom, sorry.
-/
import Derived.Test.YtbghfeeibnmlbaaGreatDoorRows
import GoSem.ClaimSeven
namespace Go.Proofs.YtbghfeeibnmlbaaGreatDoor
namespace Rows

/-- THE TIED CARD OF 'nosalelaw06.SalesSums'. -/
def salesSumsCard : Claim7 := { stood := { row := salesSumsRow, standIns := [], harness := (true, "29e4bc56b4cfdc3cc5c4aad648f5eca0653f61613beb5e82a27b472fb4c02e17"), looks := false }, kinds := [], alts := [], goes := true, laidByText := true, laidKinds := [.funcs, .funcs], laidTests := true, laidLooks := .later }
def SalesSumsCardSaid : Prop := Claim7.holds Tryz.pinned (.plain (OpenSpec.ofChange salesSumsSpec)) salesSumsCard

/-- THE TIED CARD OF 'nosalelaw06.SalesReached'. -/
def salesReachedCard : Claim7 := { stood := { row := salesReachedRow, standIns := [], harness := (true, "29e4bc56b4cfdc3cc5c4aad648f5eca0653f61613beb5e82a27b472fb4c02e17"), looks := false }, kinds := [], alts := [], goes := true, laidByText := true, laidKinds := [.funcs, .funcs], laidTests := true, laidLooks := .later }
def SalesReachedCardSaid : Prop := Claim7.holds Tryz.pinned (.plain (OpenSpec.ofChange salesReachedSpec)) salesReachedCard

/-- THE TIED CARD OF 'nosalelaw06.SalesSigned'. -/
def salesSignedCard : Claim7 := { stood := { row := salesSignedRow, standIns := [], harness := (true, "29e4bc56b4cfdc3cc5c4aad648f5eca0653f61613beb5e82a27b472fb4c02e17"), looks := false }, kinds := [], alts := [], goes := true, laidByText := true, laidKinds := [.funcs, .funcs], laidTests := true, laidLooks := .later }
def SalesSignedCardSaid : Prop := Claim7.holds Tryz.pinned (.plain (OpenSpec.ofChange salesSignedSpec)) salesSignedCard

/-- THE TIED CARD OF 'nosalelaw06.SalesCleaned'. -/
def salesCleanedCard : Claim7 := { stood := { row := salesCleanedRow, standIns := [], harness := (true, "29e4bc56b4cfdc3cc5c4aad648f5eca0653f61613beb5e82a27b472fb4c02e17"), looks := false }, kinds := [], alts := [], goes := true, laidByText := true, laidKinds := [.funcs, .funcs], laidTests := true, laidLooks := .later }
def SalesCleanedCardSaid : Prop := Claim7.holds Tryz.pinned (.plain (OpenSpec.ofChange salesCleanedSpec)) salesCleanedCard

/-- THE TIED CARD OF 'nosalelaw06.SalesAnyOrder'. -/
def salesAnyOrderCard : Claim7 := { stood := { row := salesAnyOrderRow, standIns := [], harness := (true, "29e4bc56b4cfdc3cc5c4aad648f5eca0653f61613beb5e82a27b472fb4c02e17"), looks := false }, kinds := [], alts := [], goes := true, laidByText := true, laidKinds := [.funcs, .funcs], laidTests := true, laidLooks := .later }
def SalesAnyOrderCardSaid : Prop := Claim7.holds Tryz.pinned (.plain (OpenSpec.ofChange salesAnyOrderSpec)) salesAnyOrderCard

/-- THE TIED CARD OF 'nosalelaw06.SalesNoted'. -/
def salesNotedCard : Claim7 := { stood := { row := salesNotedRow, standIns := [], harness := (true, "29e4bc56b4cfdc3cc5c4aad648f5eca0653f61613beb5e82a27b472fb4c02e17"), looks := false }, kinds := [], alts := [], goes := true, laidByText := true, laidKinds := [.funcs, .funcs], laidTests := true, laidLooks := .later }
def SalesNotedCardSaid : Prop := Claim7.holds Tryz.pinned (.plain (OpenSpec.ofChange salesNotedSpec)) salesNotedCard

/-- THE TIED CARD OF 'nosalelaw06.SalesCorrected'. -/
def salesCorrectedCard : Claim7 := { stood := { row := salesCorrectedRow, standIns := [], harness := (true, "29e4bc56b4cfdc3cc5c4aad648f5eca0653f61613beb5e82a27b472fb4c02e17"), looks := false }, kinds := [], alts := [], goes := true, laidByText := true, laidKinds := [.funcs, .funcs], laidTests := true, laidLooks := .later }
def SalesCorrectedCardSaid : Prop := Claim7.holds Tryz.pinned (.plain (OpenSpec.ofChange salesCorrectedSpec)) salesCorrectedCard

/-- THE TIED CARD OF 'nosalelaw06.SalesSlips'. -/
def salesSlipsCard : Claim7 := { stood := { row := salesSlipsRow, standIns := [], harness := (true, "29e4bc56b4cfdc3cc5c4aad648f5eca0653f61613beb5e82a27b472fb4c02e17"), looks := false }, kinds := [], alts := [], goes := true, laidByText := true, laidKinds := [.funcs, .funcs], laidTests := true, laidLooks := .later }
def SalesSlipsCardSaid : Prop := Claim7.holds Tryz.pinned (.plain (OpenSpec.ofChange salesSlipsSpec)) salesSlipsCard

/-- THE TIED CARD OF 'nosalelaw06.SalesReal'. -/
def salesRealCard : Claim7 := { stood := { row := salesRealRow, standIns := [], harness := (true, "29e4bc56b4cfdc3cc5c4aad648f5eca0653f61613beb5e82a27b472fb4c02e17"), looks := false }, kinds := [], alts := [], goes := true, laidByText := true, laidKinds := [.funcs, .funcs], laidTests := true, laidLooks := .later }
def SalesRealCardSaid : Prop := Claim7.holds Tryz.pinned (.plain (OpenSpec.ofChange salesRealSpec)) salesRealCard

/-- THE TIED CARD OF 'nosalelaw06.SalesTold'. -/
def salesToldCard : Claim7 := { stood := { row := salesToldRow, standIns := [], harness := (true, "29e4bc56b4cfdc3cc5c4aad648f5eca0653f61613beb5e82a27b472fb4c02e17"), looks := false }, kinds := [], alts := [], goes := true, laidByText := true, laidKinds := [.funcs, .funcs], laidTests := true, laidLooks := .later }
def SalesToldCardSaid : Prop := Claim7.holds Tryz.pinned (.plain (OpenSpec.ofChange salesToldSpec)) salesToldCard

/-- THE TIED CARD OF 'nosalelaw06.SalesNews'. -/
def salesNewsCard : Claim7 := { stood := { row := salesNewsRow, standIns := [], harness := (true, "29e4bc56b4cfdc3cc5c4aad648f5eca0653f61613beb5e82a27b472fb4c02e17"), looks := false }, kinds := [], alts := [], goes := true, laidByText := true, laidKinds := [.funcs, .funcs], laidTests := true, laidLooks := .later }
def SalesNewsCardSaid : Prop := Claim7.holds Tryz.pinned (.plain (OpenSpec.ofChange salesNewsSpec)) salesNewsCard
end Rows
end Go.Proofs.YtbghfeeibnmlbaaGreatDoor
