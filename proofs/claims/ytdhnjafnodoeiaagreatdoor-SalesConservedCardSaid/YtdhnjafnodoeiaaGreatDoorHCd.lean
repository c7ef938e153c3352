/- For every book, and whatever was written, the function SalesConserved answers true, whatever other goroutines do, and leaves its arguments as they were. Conditions: those of the given row. -/
import Derived.Test.YtdhnjafnodoeiaaGreatDoorHCc
import Derived.AtR
import Derived.Calls
import Derived.ChangeKeysEq
import Derived.Conc.AtomicLaws2
import Derived.Conc.Beside
import Derived.Conc.ClockLaws
import Derived.Conc.CompanyDraw
import Derived.Conc.CompanyMem
import Derived.Conc.HoldsTime
import Derived.Conc.LockJoin
import Derived.Conc.MarkLaws
import Derived.Conc.MuStops
import Derived.Conc.Own
import Derived.Conc.Starve
import Derived.Conc.WgArith
import Derived.Great.BuildSlice
import Derived.Great.FillDense
import Derived.Laws.OwnMore
import Derived.Laws.Sem
import Derived.Laws.StructEq
import Derived.LoopNIn
import Derived.MapKept
import Derived.Maps.AppendAt
import Derived.OwnWalkIn
import Derived.RangeFuncBound
import Derived.RangeFuncCalls
import Derived.RangeFuncLeaves
import Derived.RangeFuncNested
import Derived.RangeFuncRecord
import Derived.Shelf.Abstract
import Derived.TacticsInMore
import Derived.Test.YtdhnjafnodoeiaaGreatDoorProg
import Derived.WalkKit
namespace Go.Ab.J
open Go Go.Proofs Go.Kp
section
variable{G:zbf}
attribute [local irreducible] AOp AW ADr AFn ze1 AFt AOpJ
set_option maxRecDepth 20000
set_option maxHeartbeats 8000000
abbrev zfo:=List Int×List Bool
def zhu(ss:List Slip):Nat→Nat→List Int→List Bool→List zfo
 | 0,_,wr,sg=>[(wr,sg)]
 | m+1,i,wr,sg=>(zbr (ss.getD i d7).lo (ss.getD i d7).hi).flatMap fun n =>
   if (ss.getD i d7).kind≠5 then zhu ss m (i+1) (wr++[n]) sg
   else (if (ss.getD i d7).signed≠1 then zhu ss m (i+1) (wr++[n]) (sg++[false]) else [])++(if (ss.getD i d7).signed≠2 then zhu ss m (i+1) (wr++[n]) (sg++[true]) else [])
end
section
variable{G:zbf}
attribute [local irreducible] AOp AW ADr AFn ze1 AFt AOpJ
set_option maxRecDepth 20000
set_option maxHeartbeats 8000000
def zse(ms:List SumR)(l:List Int):Bool:=(List.range l.length).any fun i=>(ms.getD (l.getD i 0).toNat d5).firm
theorem zwh(ms:List SumR)(l:List Int):ybf ms l=!zse ms l:=by
 unfold ybf zse;congr 1;rw [Bool.eq_iff_iff,kaz,kaz];constructor
 ·rintro⟨x,hx,h⟩;obtain⟨i,hi⟩:=kba hx;exact⟨i,ka3.2 (kab.1 hi).1,by simpa [hi] using h⟩
 ·rintro⟨i,hi,h⟩;have hi:=ka3.1 hi;exact⟨l[i],kbf hi,by simpa [hi] using h⟩
def zrm(ss:List Slip)(wr:List Int)(sg:List Bool)(i:Nat):Bool :=
 decide ((ss.getD i d7).lo≤wr.getD i 0∧wr.getD i 0≤(ss.getD i d7).hi)&&(!decide ((ss.getD i d7).kind=5)||decide ((ss.getD i d7).signed=0)||decide ((ss.getD i d7).signed=1) == sg.getD (zae ss i).length false)
def zxr(ss:List Slip)(wr:List Int)(sg:List Bool):Bool:=(List.range ss.length).all (zrm ss wr sg)
end
section
variable{G:zbf}
attribute [local irreducible] AOp AW ADr AFn ze1 AFt AOpJ
set_option maxRecDepth 20000
set_option maxHeartbeats 8000000
theorem zw4{l:List Int}(h:zhn l){x:Int}(hx:0≤x∧x≤999):zhn (l++[x]):=fun i=>by
 rcases kdd i l.length with h1|h1|h1
 ·have:=h i;simpa [kai,kam h1] using this
 ·subst h1;simpa using hx
 ·have:(l++[x])[i]?=none:=kay (by simp;omega);simp [this]
def zc7(ss:List Slip)(p:zfo):List Int:=(zdv ss p.1 p.2 ss.length).1
theorem zb6(ss:List Slip)(p:zfo):(zc7 ss p).length=ss.length:=zk3 _ _ _ _
theorem zma(ss:List Slip)(wr:List Int)(sg:List Bool)(h:zhn wr):∀n,zhn (zdv ss wr sg n).1
 | 0=>fun i=>by simp [zdv]
 | n+1=>by
   have ih:=zma ss wr sg h n;have h1:=zw4 ih (h n);simp only [zdv];split
   ·split
    ·exact zm8 (zm8 h1 (by decide) n) (h n) _
    ·exact zm8 h1 (by decide) n
   ·exact h1
def zdk(most:Int)(ss:List Slip)(ms:List SumR)(p:zfo):Bool:=zxr ss p.1 p.2&&zf9 ss (zc7 ss p)&&decide (((zan ss ms (zc7 ss p)).length:Int)≤most)&&!zse ms (zan ss ms (zc7 ss p))
def allR(ss:List Slip):List zfo:=zhu ss ss.length 0 [] []
def zaj(most:Int)(ss:List Slip)(ms:List SumR):List zfo:=(allR ss).filter (zdk most ss ms)
theorem Good.k0{most:Int}{ss:List Slip}{ms:List SumR}(h:Good most ss ms):∀m∈ms,0≤m.kind:=fun m hm=>(h.sum m hm).1.1
def zcl(most:Int)(ss:List Slip)(ms:List SumR)(own:Int):Int:=if zak most ss ms≠0 then zak most ss ms else if own≠0 then own else if zaj most ss ms=[] then 9 else 0
end
end Go.Ab.J
