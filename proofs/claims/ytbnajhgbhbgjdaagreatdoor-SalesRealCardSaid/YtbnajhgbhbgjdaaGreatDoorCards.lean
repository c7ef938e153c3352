/-
  DERIVED. GIVEN WITH THE SEED: THE CARDS: each row of YtbnajhgbhbgjdaaGreatDoorRows.lean that lists a variable, with what it lists TIED to the program's text (the seventh form; the later family's looks); each row that meets fmt, with fmt's text TOLD by the authors' own Lean function (tested against real Go, not proved from fmt's source: count such statements apart). THE CARD IS WHAT COUNTS. Prove the row's statement (the work); the ties are given (YtbnajhgbhbgjdaaGreatDoorTie.lean); close each card by the builder's one call (the guide's Derived/Test/ToyasCard.lean, 'card_holds'). Laid BY PROGRAM, IN A SANDBOX (cutbox-door.mjs). By AI agents, Wed Nov 11 2026. No macro, syntax, notation, axiom, sorry.
-/
import Derived.Test.YtbnajhgbhbgjdaaGreatDoorRows
import GoSem.ClaimSeven
namespace Go.Proofs.YtbnajhgbhbgjdaaGreatDoor
namespace Rows

/-- THE TIED CARD OF 'nosalelaw06.SalesReached'. -/
def salesReachedCard : Claim7 := { stood := { row := salesReachedRow, standIns := [], harness := (true, "70ef2974074eff7df72597cfe596aa669f2c5316aaf6a4666853ff5ae3af5d6e"), looks := false }, kinds := [], alts := [], goes := true, laidByText := true, laidKinds := [.funcs, .funcs], laidTests := true, laidLooks := .later }
def SalesReachedCardSaid : Prop := Claim7.holds Tryz.pinned (.plain (OpenSpec.ofChange salesReachedSpec)) salesReachedCard

/-- THE TIED CARD OF 'nosalelaw06.SalesSigned'. -/
def salesSignedCard : Claim7 := { stood := { row := salesSignedRow, standIns := [], harness := (true, "70ef2974074eff7df72597cfe596aa669f2c5316aaf6a4666853ff5ae3af5d6e"), looks := false }, kinds := [], alts := [], goes := true, laidByText := true, laidKinds := [.funcs, .funcs], laidTests := true, laidLooks := .later }
def SalesSignedCardSaid : Prop := Claim7.holds Tryz.pinned (.plain (OpenSpec.ofChange salesSignedSpec)) salesSignedCard

/-- THE TIED CARD OF 'nosalelaw06.SalesReal'. -/
def salesRealCard : Claim7 := { stood := { row := salesRealRow, standIns := [], harness := (true, "70ef2974074eff7df72597cfe596aa669f2c5316aaf6a4666853ff5ae3af5d6e"), looks := false }, kinds := [], alts := [], goes := true, laidByText := true, laidKinds := [.funcs, .funcs], laidTests := true, laidLooks := .later }
def SalesRealCardSaid : Prop := Claim7.holds Tryz.pinned (.plain (OpenSpec.ofChange salesRealSpec)) salesRealCard
end Rows
end Go.Proofs.YtbnajhgbhbgjdaaGreatDoor
