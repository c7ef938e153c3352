/-
  NARROWER THAN 'FOR EVERY INPUT', by the rows' own cells (each row's printed sentence says how): SalesCleaned: calm, laid · SalesCorrected: calm, laid · SalesSlips: calm, laid · SalesNews: calm, laid.
  DERIVED. THE GIVEN ROWS OF THIS SEAT. 4 by the template 'for every input the law returns true; each argument reads behind the call as it read before'; 0 by the template 'total and deterministic' (their statements: YtfgciihkmemdlaaGreatDoorTotals.lean).
  GIVEN WITH THE SEED: the statements are not yours to turn. If you find one false, say at which input.
  Laid BY PROGRAM, IN A SANDBOX (cutbox-rows.mjs): the forced cells as the released guide's own fill.sh prints them over the translation 323f482ed1fe916b… (all of the seat's roots in one cut). By AI agents, Wed Nov 11 2026. No macro, syntax, notation, axiom, sorry.
-/
import Derived.Test.YtfgciihkmemdlaaGreatDoorChecked
import GoSem.Claim
import GoSem.ClaimJoined
import GoSem.ClaimMapViews
import Derived.JoinedTies
import Derived.KernelRfl
namespace Go.Proofs.YtfgciihkmemdlaaGreatDoor
/- THE CELL 'sum', in the pinned program and in every row, IS THE sha256 OF THE DUMP (.gsa) THAT YtfgciihkmemdlaaGreatDoorProg.lean LOADS. Nothing in Lean hashes anything: it is a label: what it is worth is what the hold of that sum in a sandbox is worth. -/
noncomputable def Tryz.pinned : Pinned := { name := "ytfgciihkmemdlaagreatdoor", sum := "323f482ed1fe916b8a4a53784c0e20caab667b2245f9a8c2c2ceb9524e398812", checked := Tryz.checked }
namespace Rows
def none {H : Type} : Left H := { results := [], args := [] }

/- WHAT THE LISTED PACKAGE-LEVEL VARIABLES READ AS WHEN THE CALL BEGINS. Each datum BY PROGRAM (the guide's laid-datum.mjs) off the statement by which the dump's own 'gosem.cut.vars' lays the variable. In a bare row this is a premise. The card (YtfgciihkmemdlaaGreatDoorCards.lean) ties it to the program's text. -/
def laid_nosale_sales_slipKinds {H : Type} : DataW H := .iface "func table" (.agg [.agg [.lit (.string [115, 111, 108, 100]), .lit (.int .i64 4), .nil], .agg [.lit (.string [99, 114, 101, 100, 105, 116]), .lit (.int .i64 4), .nil], .agg [.lit (.string [103, 105, 118, 101, 110]), .lit (.int .i64 4), .nil], .agg [.lit (.string [98, 97, 99, 107]), .lit (.int .i64 4), .iface "func" (.lit (.string [110, 111, 115, 97, 108, 101, 47, 115, 97, 108, 101, 115, 46, 105, 115, 71, 111, 111, 100, 115]))], .agg [.lit (.string [112, 97, 105, 100]), .lit (.int .i64 0), .nil], .agg [.lit (.string [102, 105, 120]), .lit (.int .i64 0), .iface "func" (.lit (.string [110, 111, 115, 97, 108, 101, 47, 115, 97, 108, 101, 115, 46, 115, 108, 105, 112, 75, 105, 110, 100, 115, 36, 49]))]])
def laid_nosale_sales_sumKinds {H : Type} : DataW H := .iface "func table" (.agg [.agg [.lit (.string [99, 97, 115, 104]), .lit (.int .i64 0), .iface "func" (.lit (.string [110, 111, 115, 97, 108, 101, 47, 115, 97, 108, 101, 115, 46, 115, 117, 109, 75, 105, 110, 100, 115, 36, 49]))], .agg [.lit (.string [100, 101, 112, 116]), .lit (.int .i64 4), .iface "func" (.lit (.string [110, 111, 115, 97, 108, 101, 47, 115, 97, 108, 101, 115, 46, 115, 117, 109, 75, 105, 110, 100, 115, 36, 50]))], .agg [.lit (.string [99, 108, 101, 114, 107]), .lit (.int .i64 3), .iface "func" (.lit (.string [110, 111, 115, 97, 108, 101, 47, 115, 97, 108, 101, 115, 46, 115, 117, 109, 75, 105, 110, 100, 115, 36, 51]))], .agg [.lit (.string [100, 101, 98, 116]), .lit (.int .i64 0), .iface "func" (.lit (.string [110, 111, 115, 97, 108, 101, 47, 115, 97, 108, 101, 115, 46, 115, 117, 109, 75, 105, 110, 100, 115, 36, 52]))], .agg [.lit (.string [103, 105, 102, 116, 115]), .lit (.int .i64 0), .iface "func" (.lit (.string [110, 111, 115, 97, 108, 101, 47, 115, 97, 108, 101, 115, 46, 115, 117, 109, 75, 105, 110, 100, 115, 36, 53]))]])

/-- 'nosalelaw06.SalesCleaned': WHATEVER THE INPUT: true; the input reads as it did. -/
def salesCleanedSpec : ChangeSpec := { name := "salesCleaned", fn := fun _ => fun
  | [d1, d2, d3] => { results := [.lit (.bool true)], args := [d1, d2, d3] }
  | _ => none }
def salesCleanedRow : OpenClaim := { program := "ytfgciihkmemdlaagreatdoor", sum := "323f482ed1fe916b8a4a53784c0e20caab667b2245f9a8c2c2ceb9524e398812", func := "nosale/nosalelaw06.SalesCleaned", spec := "salesCleaned", inPlace := ["(*sync.WaitGroup).Add", "internal/race.ReleaseMerge", "internal/race.Disable", "internal/race.Enable", "internal/synctest.IsInBubble", "internal/synctest.Associate[sync.WaitGroup]", "sync.fatal", "sync/atomic.OrUint64", "sync/atomic.AddUint64", "internal/race.Read", "sync/atomic.LoadUint64", "sync/atomic.StoreUint64", "internal/synctest.Disassociate[sync.WaitGroup]", "sync.runtime_Semrelease", "(*sync.WaitGroup).Done", "(*internal/sync.Mutex).Lock", "sync/atomic.CompareAndSwapInt32", "internal/race.Acquire", "(*internal/sync.Mutex).lockSlow", "internal/sync.runtime_canSpin", "internal/sync.runtime_doSpin", "internal/sync.throw", "internal/sync.runtime_nanotime", "internal/sync.runtime_SemacquireMutex", "sync/atomic.AddInt32", "(*internal/sync.Mutex).Unlock", "(*internal/sync.Mutex).unlockSlow", "internal/sync.fatal", "internal/sync.runtime_Semrelease", "(*sync.WaitGroup).Wait", "internal/synctest.IsAssociated[sync.WaitGroup]", "sync/atomic.CompareAndSwapUint64", "internal/race.Write", "sync.runtime_SemacquireWaitGroup"], unfollowed := true, recurses := true, named := ["nosale/sales.slipKinds", "nosale/sales.sumKinds"], plainKeys := false, leaving := true, apart := false, calm := true, outside := [.timePasses], laid := [("nosale/sales.slipKinds", laid_nosale_sales_slipKinds), ("nosale/sales.sumKinds", laid_nosale_sales_sumKinds)] }
def SalesCleanedSaid : Prop := salesCleanedRow.holds Tryz.pinned (OpenSpec.ofChange salesCleanedSpec)

/-- ITS FALSE NEIGHBOUR: 'it returns false'. Refute it at one input. -/
def salesCleanedWrong : ChangeSpec := { name := "salesCleaned", fn := fun _ => fun
  | [d1, d2, d3] => { results := [.lit (.bool false)], args := [d1, d2, d3] }
  | _ => none }
def SalesCleanedWrongFalsely : Prop := salesCleanedRow.holds Tryz.pinned (OpenSpec.ofChange salesCleanedWrong)

/-- 'nosalelaw06.SalesCorrected': WHATEVER THE INPUT: true; the input reads as it did. -/
def salesCorrectedSpec : ChangeSpec := { name := "salesCorrected", fn := fun _ => fun
  | [d1, d2, d3, d4] => { results := [.lit (.bool true)], args := [d1, d2, d3, d4] }
  | _ => none }
def salesCorrectedRow : OpenClaim := { program := "ytfgciihkmemdlaagreatdoor", sum := "323f482ed1fe916b8a4a53784c0e20caab667b2245f9a8c2c2ceb9524e398812", func := "nosale/nosalelaw06.SalesCorrected", spec := "salesCorrected", inPlace := ["(*sync.WaitGroup).Add", "internal/race.ReleaseMerge", "internal/race.Disable", "internal/race.Enable", "internal/synctest.IsInBubble", "internal/synctest.Associate[sync.WaitGroup]", "sync.fatal", "sync/atomic.OrUint64", "sync/atomic.AddUint64", "internal/race.Read", "sync/atomic.LoadUint64", "sync/atomic.StoreUint64", "internal/synctest.Disassociate[sync.WaitGroup]", "sync.runtime_Semrelease", "(*sync.WaitGroup).Done", "(*internal/sync.Mutex).Lock", "sync/atomic.CompareAndSwapInt32", "internal/race.Acquire", "(*internal/sync.Mutex).lockSlow", "internal/sync.runtime_canSpin", "internal/sync.runtime_doSpin", "internal/sync.throw", "internal/sync.runtime_nanotime", "internal/sync.runtime_SemacquireMutex", "sync/atomic.AddInt32", "(*internal/sync.Mutex).Unlock", "(*internal/sync.Mutex).unlockSlow", "internal/sync.fatal", "internal/sync.runtime_Semrelease", "(*sync.WaitGroup).Wait", "internal/synctest.IsAssociated[sync.WaitGroup]", "sync/atomic.CompareAndSwapUint64", "internal/race.Write", "sync.runtime_SemacquireWaitGroup"], unfollowed := true, recurses := true, named := ["nosale/sales.slipKinds", "nosale/sales.sumKinds"], plainKeys := false, leaving := true, apart := false, calm := true, outside := [.timePasses], laid := [("nosale/sales.slipKinds", laid_nosale_sales_slipKinds), ("nosale/sales.sumKinds", laid_nosale_sales_sumKinds)] }
def SalesCorrectedSaid : Prop := salesCorrectedRow.holds Tryz.pinned (OpenSpec.ofChange salesCorrectedSpec)

/-- ITS FALSE NEIGHBOUR: 'it returns false'. Refute it at one input. -/
def salesCorrectedWrong : ChangeSpec := { name := "salesCorrected", fn := fun _ => fun
  | [d1, d2, d3, d4] => { results := [.lit (.bool false)], args := [d1, d2, d3, d4] }
  | _ => none }
def SalesCorrectedWrongFalsely : Prop := salesCorrectedRow.holds Tryz.pinned (OpenSpec.ofChange salesCorrectedWrong)

/-- 'nosalelaw06.SalesSlips': WHATEVER THE INPUT: true; the input reads as it did. -/
def salesSlipsSpec : ChangeSpec := { name := "salesSlips", fn := fun _ => fun
  | [d1, d2, d3, d4] => { results := [.lit (.bool true)], args := [d1, d2, d3, d4] }
  | _ => none }
def salesSlipsRow : OpenClaim := { program := "ytfgciihkmemdlaagreatdoor", sum := "323f482ed1fe916b8a4a53784c0e20caab667b2245f9a8c2c2ceb9524e398812", func := "nosale/nosalelaw06.SalesSlips", spec := "salesSlips", inPlace := ["(*sync.WaitGroup).Add", "internal/race.ReleaseMerge", "internal/race.Disable", "internal/race.Enable", "internal/synctest.IsInBubble", "internal/synctest.Associate[sync.WaitGroup]", "sync.fatal", "sync/atomic.OrUint64", "sync/atomic.AddUint64", "internal/race.Read", "sync/atomic.LoadUint64", "sync/atomic.StoreUint64", "internal/synctest.Disassociate[sync.WaitGroup]", "sync.runtime_Semrelease", "(*sync.WaitGroup).Done", "(*internal/sync.Mutex).Lock", "sync/atomic.CompareAndSwapInt32", "internal/race.Acquire", "(*internal/sync.Mutex).lockSlow", "internal/sync.runtime_canSpin", "internal/sync.runtime_doSpin", "internal/sync.throw", "internal/sync.runtime_nanotime", "internal/sync.runtime_SemacquireMutex", "sync/atomic.AddInt32", "(*internal/sync.Mutex).Unlock", "(*internal/sync.Mutex).unlockSlow", "internal/sync.fatal", "internal/sync.runtime_Semrelease", "(*sync.WaitGroup).Wait", "internal/synctest.IsAssociated[sync.WaitGroup]", "sync/atomic.CompareAndSwapUint64", "internal/race.Write", "sync.runtime_SemacquireWaitGroup"], unfollowed := true, recurses := true, named := ["nosale/sales.slipKinds", "nosale/sales.sumKinds"], plainKeys := false, leaving := true, apart := false, calm := true, outside := [.timePasses], laid := [("nosale/sales.slipKinds", laid_nosale_sales_slipKinds), ("nosale/sales.sumKinds", laid_nosale_sales_sumKinds)] }
def SalesSlipsSaid : Prop := salesSlipsRow.holds Tryz.pinned (OpenSpec.ofChange salesSlipsSpec)

/-- ITS FALSE NEIGHBOUR: 'it returns false'. Refute it at one input. -/
def salesSlipsWrong : ChangeSpec := { name := "salesSlips", fn := fun _ => fun
  | [d1, d2, d3, d4] => { results := [.lit (.bool false)], args := [d1, d2, d3, d4] }
  | _ => none }
def SalesSlipsWrongFalsely : Prop := salesSlipsRow.holds Tryz.pinned (OpenSpec.ofChange salesSlipsWrong)

/-- 'nosalelaw06.SalesNews': WHATEVER THE INPUT: true; the input reads as it did. -/
def salesNewsSpec : ChangeSpec := { name := "salesNews", fn := fun _ => fun
  | [d1, d2, d3, d4, d5, d6, d7] => { results := [.lit (.bool true)], args := [d1, d2, d3, d4, d5, d6, d7] }
  | _ => none }
def salesNewsRow : OpenClaim := { program := "ytfgciihkmemdlaagreatdoor", sum := "323f482ed1fe916b8a4a53784c0e20caab667b2245f9a8c2c2ceb9524e398812", func := "nosale/nosalelaw06.SalesNews", spec := "salesNews", inPlace := ["(*sync.WaitGroup).Add", "internal/race.ReleaseMerge", "internal/race.Disable", "internal/race.Enable", "internal/synctest.IsInBubble", "internal/synctest.Associate[sync.WaitGroup]", "sync.fatal", "sync/atomic.OrUint64", "sync/atomic.AddUint64", "internal/race.Read", "sync/atomic.LoadUint64", "sync/atomic.StoreUint64", "internal/synctest.Disassociate[sync.WaitGroup]", "sync.runtime_Semrelease", "(*sync.WaitGroup).Done", "(*internal/sync.Mutex).Lock", "sync/atomic.CompareAndSwapInt32", "internal/race.Acquire", "(*internal/sync.Mutex).lockSlow", "internal/sync.runtime_canSpin", "internal/sync.runtime_doSpin", "internal/sync.throw", "internal/sync.runtime_nanotime", "internal/sync.runtime_SemacquireMutex", "sync/atomic.AddInt32", "(*internal/sync.Mutex).Unlock", "(*internal/sync.Mutex).unlockSlow", "internal/sync.fatal", "internal/sync.runtime_Semrelease", "(*sync.WaitGroup).Wait", "internal/synctest.IsAssociated[sync.WaitGroup]", "sync/atomic.CompareAndSwapUint64", "internal/race.Write", "sync.runtime_SemacquireWaitGroup"], unfollowed := true, recurses := true, named := ["nosale/sales.slipKinds", "nosale/sales.sumKinds"], plainKeys := false, leaving := true, apart := false, calm := true, outside := [.timePasses], laid := [("nosale/sales.slipKinds", laid_nosale_sales_slipKinds), ("nosale/sales.sumKinds", laid_nosale_sales_sumKinds)] }
def SalesNewsSaid : Prop := salesNewsRow.holds Tryz.pinned (OpenSpec.ofChange salesNewsSpec)

/-- ITS FALSE NEIGHBOUR: 'it returns false'. Refute it at one input. -/
def salesNewsWrong : ChangeSpec := { name := "salesNews", fn := fun _ => fun
  | [d1, d2, d3, d4, d5, d6, d7] => { results := [.lit (.bool false)], args := [d1, d2, d3, d4, d5, d6, d7] }
  | _ => none }
def SalesNewsWrongFalsely : Prop := salesNewsRow.holds Tryz.pinned (OpenSpec.ofChange salesNewsWrong)

end Rows
end Go.Proofs.YtfgciihkmemdlaaGreatDoor
