/- For every book, and whatever was written, the function SalesConserved answers true, whatever other goroutines do, and leaves its arguments as they were. Conditions: those of the given row. -/
import Derived.Test.YtdhnjafnodoeiaaGreatDoorHCd
import Derived.Calls
import Derived.Conc.AtomicLaws2
import Derived.Conc.Beside
import Derived.Conc.ClockLaws
import Derived.Conc.CompanyMem
import Derived.Conc.HoldsTime
import Derived.Conc.LockJoin
import Derived.Conc.MarkLaws
import Derived.Conc.MuStops
import Derived.Conc.Own
import Derived.Conc.Starve
import Derived.Laws.Sem
import Derived.MapKept
import Derived.OwnWalkIn
import Derived.RangeFuncBound
import Derived.RangeFuncCalls
import Derived.RangeFuncLeaves
import Derived.RangeFuncNested
import Derived.RangeFuncRecord
import Derived.Shelf.Abstract
import Derived.TacticsInMore
import Derived.WalkKit
namespace Go.Ab.J
open Go Go.Proofs Go.Kp
section
variable{G:zbf}
attribute [local irreducible] AOp AW ADr AFn ze1 AFt AOpJ
set_option maxRecDepth 20000
set_option maxHeartbeats 8000000
def zfu(f:Nat→Int):Nat→Int×Int
 | 0=>(f 0,f 0)
 | n+1=>(min (zfu f n).1 (f (n+1)),max (zfu f n).2 (f (n+1)))
abbrev rd0:zfo:=([],[])
def sumQ(most:Int)(ss:List Slip)(ms:List SumR)(k a:Int)(i:Nat):Int:=zbo ss (zc7 ss ((zaj most ss ms).getD i rd0)) k.toNat a ss.length
def znn(most:Int)(ss:List Slip)(ms:List SumR)(k a:Int):(Int×Int)×Int :=
 if zcl most ss ms (zc8 k a)≠0 then ((0,0),zcl most ss ms (zc8 k a)) else (zfu (sumQ most ss ms k a) ((zaj most ss ms).length-1),0)
end
end Go.Ab.J
