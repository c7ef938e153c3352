/- For every book, whatever was written and whichever sums are false, the function SalesAsked answers true, whatever other goroutines do, and leaves its arguments as they were. Conditions: those of the given row. -/
import Derived.Test.YtdhnjafnodoeiaaGreatDoorHKd
import Derived.Calls
import Derived.Conc.AtomicLaws2
import Derived.Conc.Beside
import Derived.Conc.ClockLaws
import Derived.Conc.CompanyMem
import Derived.Conc.HoldsTime
import Derived.Conc.LockJoin
import Derived.Conc.MarkLaws
import Derived.Conc.MuStops
import Derived.Conc.Own
import Derived.Conc.Starve
import Derived.Laws.Sem
import Derived.MapKept
import Derived.OwnWalkIn
import Derived.RangeFuncBound
import Derived.RangeFuncCalls
import Derived.RangeFuncLeaves
import Derived.RangeFuncNested
import Derived.RangeFuncRecord
import Derived.Shelf.Abstract
import Derived.TacticsInMore
import Derived.WalkKit
namespace Go.Ab.J
open Go Go.Proofs Go.Kp
section
variable{G:zbf}
attribute [local irreducible] AOp AW ADr AFn ze1 AFt AOpJ
set_option maxRecDepth 20000
set_option maxHeartbeats 8000000
def zfu(f:Nat→Int):Nat→Int×Int
 | 0=>(f 0,f 0)
 | n+1=>(min (zfu f n).1 (f (n+1)),max (zfu f n).2 (f (n+1)))
end
section
variable{G:zbf}
attribute [local irreducible] AOp AW ADr AFn ze1 AFt AOpJ
set_option maxRecDepth 20000
set_option maxHeartbeats 8000000
theorem yjm(l:List Int):∀n,mostU l n≤l.length
 | 0=>by simp [mostU]
 | n+1=>by have:=yjm l n;have:=zjz (za0 l n) l.length;simp only [mostU];omega
def zql(ss:List Slip)(ps:List zfo)(slip:Nat):List Int:=ps.map fun p=>(zc7 ss p).getD slip 0
def zst(most:Int)(ss:List Slip)(ms:List SumR)(i:Nat):Nat:=mostU (zql ss (zaj most ss ms) i) (zql ss (zaj most ss ms) i).length
def znr(most:Int)(ss:List Slip)(ms:List SumR):(Int×Int)×Int :=
 if zcl most ss ms 0≠0 then ((0,0),zcl most ss ms 0) else (((zhj (zst most ss ms) (zaj most ss ms).length ss.length).1,((zhj (zst most ss ms) (zaj most ss ms).length ss.length).2:Int)),0)
end
end Go.Ab.J
