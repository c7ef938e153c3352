/- For every book, whatever was written and whichever sums are false, the function SalesAsked answers true, whatever other goroutines do, and leaves its arguments as they were. Conditions: those of the given row. -/
import Derived.Test.YtdhnjafnodoeiaaGreatDoorHKf
import Derived.Calls
import Derived.Conc.AtomicLaws2
import Derived.Conc.Beside
import Derived.Conc.ClockLaws
import Derived.Conc.CompanyMem
import Derived.Conc.HoldsTime
import Derived.Conc.LockJoin
import Derived.Conc.MarkLaws
import Derived.Conc.MuStops
import Derived.Conc.Own
import Derived.Conc.Starve
import Derived.Laws.CopyRow
import Derived.Laws.MakeOwn
import Derived.Laws.OwnMore
import Derived.Laws.Sem
import Derived.MapKept
import Derived.OwnWalkIn
import Derived.RangeFuncBound
import Derived.RangeFuncCalls
import Derived.RangeFuncLeaves
import Derived.RangeFuncNested
import Derived.RangeFuncRecord
import Derived.Shelf.Abstract
import Derived.TacticsInMore
import Derived.WalkKit
namespace Go.Ab.J
open Go Go.Proofs Go.Kp
theorem yf7(ms:List SumR)(xs:List Int):ybf ms xs=true↔∀x∈xs,(ms.getD x.toNat d5).firm=false:=by simp only [ybf,kb7,List.any_eq_false];exact⟨fun h x hx=>by simpa using h x hx,fun h x hx=>by simpa using h x hx⟩
section
variable{G:zbf}{u:Nat→ByteArray}
theorem yhc(ss:List Slip)(ps:List Nat){i n:Nat}(hi:i<n):(ygy ss ps n)[i]?=some (yhh (ss.getD i d7) (ygr ps i)):=by
 induction n with
 | zero=>omega
 | succ n ih =>
   simp only [ygy];rcases kae i n with h|h
   ·rw [kam (by rw [ygw];exact h)];exact ih h
   ·have:i=n:=by omega
    subst this;rw [kao (by rw [ygw];exact kac _),ygw];simp
theorem yht{most:Int}{ss:List Slip}{ms:List SumR}(hg:Good most ss ms)(ps:List Nat):zhn (ygy ss ps ss.length):=fun i=>by
 rcases kae i ss.length with h|h
 ·rw [kai,yhc ss ps h];have ha:=(zld hg h).amt;obtain⟨a,b⟩:=yhp (ygr ps i) ((ss.getD i d7).hi-(ss.getD i d7).lo+1) (by omega);simp only [kcp,yhh];omega
 ·rw [kai,kay (by rw [ygw];exact h)];simp
attribute [local irreducible] AOp AW ADr AFn ze1 AFt AOpJ
set_option maxRecDepth 20000
set_option maxHeartbeats 16000000
end
end Go.Ab.J
namespace Go.Ab.J
open Go
theorem rNil{E:Env}{w:World}:yf1 E w [] []:=yf1.nil _ _
end Go.Ab.J
