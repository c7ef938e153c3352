/-
  NARROWER THAN 'FOR EVERY INPUT', by the rows' own cells (each row's printed sentence says how): SalesReached: calm, laid · SalesSigned: calm, laid · SalesReal: calm, laid.
  DERIVED. THE GIVEN ROWS OF THIS SEAT. 3 by the template 'for every input the law returns true; each argument reads behind the call as it read before'; 0 by the template 'total and deterministic' (their statements: YtbnajhgbhbgjdaaGreatDoorTotals.lean).
  GIVEN WITH THE SEED: the statements are not yours to turn. If you find one false, say at which input.
  Laid BY PROGRAM, IN A SANDBOX (cutbox-rows.mjs): the forced cells as the released guide's own fill.sh prints them over the translation 6ef9fb99ec968271… (all of the seat's roots in one cut). By AI agents, Wed Nov 11 2026. No macro, syntax, notation, axiom, sorry.
-/
import Derived.Test.YtbnajhgbhbgjdaaGreatDoorChecked
import GoSem.Claim
import GoSem.ClaimJoined
import GoSem.ClaimMapViews
import Derived.JoinedTies
import Derived.KernelRfl
namespace Go.Proofs.YtbnajhgbhbgjdaaGreatDoor
/- THE CELL 'sum', in the pinned program and in every row, IS THE sha256 OF THE DUMP (.gsa) THAT YtbnajhgbhbgjdaaGreatDoorProg.lean LOADS. Nothing in Lean hashes anything: it is a label: what it is worth is what the hold of that sum in a sandbox is worth. -/
noncomputable def Tryz.pinned : Pinned := { name := "ytbnajhgbhbgjdaagreatdoor", sum := "6ef9fb99ec968271055e36d3fb7b6e34a165185fe154e047af32958136da099b", checked := Tryz.checked }
namespace Rows
def none {H : Type} : Left H := { results := [], args := [] }

/- WHAT THE LISTED PACKAGE-LEVEL VARIABLES READ AS WHEN THE CALL BEGINS. Each datum BY PROGRAM (the guide's laid-datum.mjs) off the statement by which the dump's own 'gosem.cut.vars' lays the variable. In a bare row this is a premise. The card (YtbnajhgbhbgjdaaGreatDoorCards.lean) ties it to the program's text. -/
def laid_nosale_sales_slipKinds {H : Type} : DataW H := .iface "func table" (.agg [.agg [.lit (.string [115, 111, 108, 100]), .lit (.int .i64 4), .nil], .agg [.lit (.string [99, 114, 101, 100, 105, 116]), .lit (.int .i64 4), .nil], .agg [.lit (.string [103, 105, 118, 101, 110]), .lit (.int .i64 4), .nil], .agg [.lit (.string [98, 97, 99, 107]), .lit (.int .i64 4), .iface "func" (.lit (.string [110, 111, 115, 97, 108, 101, 47, 115, 97, 108, 101, 115, 46, 105, 115, 71, 111, 111, 100, 115]))], .agg [.lit (.string [112, 97, 105, 100]), .lit (.int .i64 0), .nil], .agg [.lit (.string [102, 105, 120]), .lit (.int .i64 0), .iface "func" (.lit (.string [110, 111, 115, 97, 108, 101, 47, 115, 97, 108, 101, 115, 46, 115, 108, 105, 112, 75, 105, 110, 100, 115, 36, 49]))]])
def laid_nosale_sales_sumKinds {H : Type} : DataW H := .iface "func table" (.agg [.agg [.lit (.string [99, 97, 115, 104]), .lit (.int .i64 0), .iface "func" (.lit (.string [110, 111, 115, 97, 108, 101, 47, 115, 97, 108, 101, 115, 46, 115, 117, 109, 75, 105, 110, 100, 115, 36, 49]))], .agg [.lit (.string [100, 101, 112, 116]), .lit (.int .i64 4), .iface "func" (.lit (.string [110, 111, 115, 97, 108, 101, 47, 115, 97, 108, 101, 115, 46, 115, 117, 109, 75, 105, 110, 100, 115, 36, 50]))], .agg [.lit (.string [99, 108, 101, 114, 107]), .lit (.int .i64 3), .iface "func" (.lit (.string [110, 111, 115, 97, 108, 101, 47, 115, 97, 108, 101, 115, 46, 115, 117, 109, 75, 105, 110, 100, 115, 36, 51]))], .agg [.lit (.string [100, 101, 98, 116]), .lit (.int .i64 0), .iface "func" (.lit (.string [110, 111, 115, 97, 108, 101, 47, 115, 97, 108, 101, 115, 46, 115, 117, 109, 75, 105, 110, 100, 115, 36, 52]))], .agg [.lit (.string [103, 105, 102, 116, 115]), .lit (.int .i64 0), .iface "func" (.lit (.string [110, 111, 115, 97, 108, 101, 47, 115, 97, 108, 101, 115, 46, 115, 117, 109, 75, 105, 110, 100, 115, 36, 53]))]])

/-- 'nosalelaw06.SalesReached': WHATEVER THE INPUT: true; the input reads as it did. -/
def salesReachedSpec : ChangeSpec := { name := "salesReached", fn := fun _ => fun
  | [d1, d2, d3, d4] => { results := [.lit (.bool true)], args := [d1, d2, d3, d4] }
  | _ => none }
def salesReachedRow : OpenClaim := { program := "ytbnajhgbhbgjdaagreatdoor", sum := "6ef9fb99ec968271055e36d3fb7b6e34a165185fe154e047af32958136da099b", func := "nosale/nosalelaw06.SalesReached", spec := "salesReached", inPlace := ["(*sync.WaitGroup).Add", "internal/race.ReleaseMerge", "internal/race.Disable", "internal/race.Enable", "internal/synctest.IsInBubble", "internal/synctest.Associate[sync.WaitGroup]", "sync.fatal", "sync/atomic.OrUint64", "sync/atomic.AddUint64", "internal/race.Read", "sync/atomic.LoadUint64", "sync/atomic.StoreUint64", "internal/synctest.Disassociate[sync.WaitGroup]", "sync.runtime_Semrelease", "(*sync.WaitGroup).Done", "(*internal/sync.Mutex).Lock", "sync/atomic.CompareAndSwapInt32", "internal/race.Acquire", "(*internal/sync.Mutex).lockSlow", "internal/sync.runtime_canSpin", "internal/sync.runtime_doSpin", "internal/sync.throw", "internal/sync.runtime_nanotime", "internal/sync.runtime_SemacquireMutex", "sync/atomic.AddInt32", "(*internal/sync.Mutex).Unlock", "(*internal/sync.Mutex).unlockSlow", "internal/sync.fatal", "internal/sync.runtime_Semrelease", "(*sync.WaitGroup).Wait", "internal/synctest.IsAssociated[sync.WaitGroup]", "sync/atomic.CompareAndSwapUint64", "internal/race.Write", "sync.runtime_SemacquireWaitGroup"], unfollowed := true, recurses := true, named := ["nosale/sales.slipKinds", "nosale/sales.sumKinds"], plainKeys := false, leaving := true, apart := false, calm := true, outside := [.timePasses], laid := [("nosale/sales.slipKinds", laid_nosale_sales_slipKinds), ("nosale/sales.sumKinds", laid_nosale_sales_sumKinds)] }
def SalesReachedSaid : Prop := salesReachedRow.holds Tryz.pinned (OpenSpec.ofChange salesReachedSpec)

/-- ITS FALSE NEIGHBOUR: 'it returns false'. Refute it at one input. -/
def salesReachedWrong : ChangeSpec := { name := "salesReached", fn := fun _ => fun
  | [d1, d2, d3, d4] => { results := [.lit (.bool false)], args := [d1, d2, d3, d4] }
  | _ => none }
def SalesReachedWrongFalsely : Prop := salesReachedRow.holds Tryz.pinned (OpenSpec.ofChange salesReachedWrong)

/-- 'nosalelaw06.SalesSigned': WHATEVER THE INPUT: true; the input reads as it did. -/
def salesSignedSpec : ChangeSpec := { name := "salesSigned", fn := fun _ => fun
  | [d1, d2, d3, d4, d5] => { results := [.lit (.bool true)], args := [d1, d2, d3, d4, d5] }
  | _ => none }
def salesSignedRow : OpenClaim := { program := "ytbnajhgbhbgjdaagreatdoor", sum := "6ef9fb99ec968271055e36d3fb7b6e34a165185fe154e047af32958136da099b", func := "nosale/nosalelaw06.SalesSigned", spec := "salesSigned", inPlace := ["(*sync.WaitGroup).Add", "internal/race.ReleaseMerge", "internal/race.Disable", "internal/race.Enable", "internal/synctest.IsInBubble", "internal/synctest.Associate[sync.WaitGroup]", "sync.fatal", "sync/atomic.OrUint64", "sync/atomic.AddUint64", "internal/race.Read", "sync/atomic.LoadUint64", "sync/atomic.StoreUint64", "internal/synctest.Disassociate[sync.WaitGroup]", "sync.runtime_Semrelease", "(*sync.WaitGroup).Done", "(*internal/sync.Mutex).Lock", "sync/atomic.CompareAndSwapInt32", "internal/race.Acquire", "(*internal/sync.Mutex).lockSlow", "internal/sync.runtime_canSpin", "internal/sync.runtime_doSpin", "internal/sync.throw", "internal/sync.runtime_nanotime", "internal/sync.runtime_SemacquireMutex", "sync/atomic.AddInt32", "(*internal/sync.Mutex).Unlock", "(*internal/sync.Mutex).unlockSlow", "internal/sync.fatal", "internal/sync.runtime_Semrelease", "(*sync.WaitGroup).Wait", "internal/synctest.IsAssociated[sync.WaitGroup]", "sync/atomic.CompareAndSwapUint64", "internal/race.Write", "sync.runtime_SemacquireWaitGroup"], unfollowed := true, recurses := true, named := ["nosale/sales.slipKinds", "nosale/sales.sumKinds"], plainKeys := false, leaving := true, apart := false, calm := true, outside := [.timePasses], laid := [("nosale/sales.slipKinds", laid_nosale_sales_slipKinds), ("nosale/sales.sumKinds", laid_nosale_sales_sumKinds)] }
def SalesSignedSaid : Prop := salesSignedRow.holds Tryz.pinned (OpenSpec.ofChange salesSignedSpec)

/-- ITS FALSE NEIGHBOUR: 'it returns false'. Refute it at one input. -/
def salesSignedWrong : ChangeSpec := { name := "salesSigned", fn := fun _ => fun
  | [d1, d2, d3, d4, d5] => { results := [.lit (.bool false)], args := [d1, d2, d3, d4, d5] }
  | _ => none }
def SalesSignedWrongFalsely : Prop := salesSignedRow.holds Tryz.pinned (OpenSpec.ofChange salesSignedWrong)

/-- 'nosalelaw06.SalesReal': WHATEVER THE INPUT: true; the input reads as it did. -/
def salesRealSpec : ChangeSpec := { name := "salesReal", fn := fun _ => fun
  | [d1, d2, d3, d4, d5] => { results := [.lit (.bool true)], args := [d1, d2, d3, d4, d5] }
  | _ => none }
def salesRealRow : OpenClaim := { program := "ytbnajhgbhbgjdaagreatdoor", sum := "6ef9fb99ec968271055e36d3fb7b6e34a165185fe154e047af32958136da099b", func := "nosale/nosalelaw06.SalesReal", spec := "salesReal", inPlace := ["(*sync.WaitGroup).Add", "internal/race.ReleaseMerge", "internal/race.Disable", "internal/race.Enable", "internal/synctest.IsInBubble", "internal/synctest.Associate[sync.WaitGroup]", "sync.fatal", "sync/atomic.OrUint64", "sync/atomic.AddUint64", "internal/race.Read", "sync/atomic.LoadUint64", "sync/atomic.StoreUint64", "internal/synctest.Disassociate[sync.WaitGroup]", "sync.runtime_Semrelease", "(*sync.WaitGroup).Done", "(*internal/sync.Mutex).Lock", "sync/atomic.CompareAndSwapInt32", "internal/race.Acquire", "(*internal/sync.Mutex).lockSlow", "internal/sync.runtime_canSpin", "internal/sync.runtime_doSpin", "internal/sync.throw", "internal/sync.runtime_nanotime", "internal/sync.runtime_SemacquireMutex", "sync/atomic.AddInt32", "(*internal/sync.Mutex).Unlock", "(*internal/sync.Mutex).unlockSlow", "internal/sync.fatal", "internal/sync.runtime_Semrelease", "(*sync.WaitGroup).Wait", "internal/synctest.IsAssociated[sync.WaitGroup]", "sync/atomic.CompareAndSwapUint64", "internal/race.Write", "sync.runtime_SemacquireWaitGroup"], unfollowed := true, recurses := true, named := ["nosale/sales.slipKinds", "nosale/sales.sumKinds"], plainKeys := false, leaving := true, apart := false, calm := true, outside := [.timePasses], laid := [("nosale/sales.slipKinds", laid_nosale_sales_slipKinds), ("nosale/sales.sumKinds", laid_nosale_sales_sumKinds)] }
def SalesRealSaid : Prop := salesRealRow.holds Tryz.pinned (OpenSpec.ofChange salesRealSpec)

/-- ITS FALSE NEIGHBOUR: 'it returns false'. Refute it at one input. -/
def salesRealWrong : ChangeSpec := { name := "salesReal", fn := fun _ => fun
  | [d1, d2, d3, d4, d5] => { results := [.lit (.bool false)], args := [d1, d2, d3, d4, d5] }
  | _ => none }
def SalesRealWrongFalsely : Prop := salesRealRow.holds Tryz.pinned (OpenSpec.ofChange salesRealWrong)

end Rows
end Go.Proofs.YtbnajhgbhbgjdaaGreatDoor
