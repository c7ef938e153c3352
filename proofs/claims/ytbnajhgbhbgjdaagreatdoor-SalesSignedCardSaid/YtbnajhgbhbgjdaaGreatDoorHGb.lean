/- Pieces of a law about sales. Conditions: none. -/
import Derived.Test.YtbnajhgbhbgjdaaGreatDoorHGa
import Derived.Conc.AppendWalk
import Derived.Conc.AtomicLaws2
import Derived.Conc.Beside
import Derived.Conc.ClockLaws
import Derived.Conc.CompanyDraw
import Derived.Conc.CompanyMem
import Derived.Conc.HoldsTime
import Derived.Conc.LockJoin
import Derived.Conc.MarkLaws
import Derived.Conc.MuSpec
import Derived.Conc.MuStops
import Derived.Conc.Own
import Derived.Conc.SmallLaws
import Derived.Conc.Starve
import Derived.Conc.WgArith
import Derived.Great.BuildSlice
import Derived.Great.FillDense
import Derived.LoopNIn
import Derived.Maps.AppendAt
import Derived.OwnWalkIn
import Derived.RangeFuncBound
import Derived.RangeFuncCalls
import Derived.RangeFuncLeaves
import Derived.RangeFuncNested
import Derived.RangeFuncRecord
import Derived.Shelf.Abstract
import Derived.TacticsInMore
import Derived.Test.YtbnajhgbhbgjdaaGreatDoorProg
namespace Go.Ab.J
open Go Go.Proofs Go.Kp
theorem zv9{most:Int}{ss:List Slip}{ms:List SumR}{i:Nat}(hi:i<(zah most ss ms).length):(zah most ss ms).getD i d12∈zah most ss ms:=by simp [hi]
end Go.Ab.J
