/- For every book, whatever was written and whichever sums are false, the function SalesAsked answers true, whatever other goroutines do, and leaves its arguments as they were. Conditions: those of the given row. -/
import Derived.Test.YtdhnjafnodoeiaaGreatDoorHKa
import Derived.Calls
import Derived.Conc.AtomicLaws2
import Derived.Conc.Beside
import Derived.Conc.ClockLaws
import Derived.Conc.CompanyMem
import Derived.Conc.HoldsTime
import Derived.Conc.LockJoin
import Derived.Conc.MarkLaws
import Derived.Conc.MuStops
import Derived.Conc.Own
import Derived.Conc.Starve
import Derived.Great.BuildSlice
import Derived.Great.FillDense
import Derived.Laws.OwnMore
import Derived.Laws.Sem
import Derived.LoopNIn
import Derived.MapKept
import Derived.Maps.AppendAt
import Derived.OwnWalkIn
import Derived.RangeFuncBound
import Derived.RangeFuncCalls
import Derived.RangeFuncLeaves
import Derived.RangeFuncNested
import Derived.RangeFuncRecord
import Derived.Shelf.Abstract
import Derived.TacticsInMore
import Derived.Test.YtdhnjafnodoeiaaGreatDoorProg
import Derived.WalkKit
namespace Go.Ab.J
open Go Go.Proofs Go.Kp
section
variable{G:zbf}
attribute [local irreducible] AOp AW ADr AFn ze1 AFt AOpJ
theorem zv8(n lo hi:Int):AFn (cx G) 27 [vi n,vi lo,vi hi] (vb (decide (lo≤n∧n≤hi))):=by
 refine zag Tryz.func27 rfl Tryz.ntmps27 rfl rfl rfl ?_ rfl;(repeat' (first|refine sx ?_|refine aS fun P9 h9=>?_|refine aB fun P9 _ _ _ _=>?_|refine w0 ?_|(refine s2 ?_ ?_<;>intro h7<;>try omega)));all_goals refine fe ?_
 all_goals simp [*]
set_option maxRecDepth 20000 in
theorem zel(x y lo hi:Int):AFn (cx G) 98 [.agg [vi x,vi y],vi lo,vi hi] (vb (decide (lo≤x∧x≤y∧y≤hi))):=by
 refine zag Tryz.func98 rfl Tryz.ntmps98 rfl rfl rfl ?_ rfl;(repeat' (first|refine sx ?_|refine aS fun P9 h9=>?_|refine aB fun P9 _ _ _ _=>?_|refine w0 ?_|(refine s2 ?_ ?_<;>intro h7<;>try omega)));all_goals refine fe ?_
 all_goals simp [*]
set_option maxRecDepth 20000 in
theorem zjr(k:Int):AFn (cx G) 166 [vi k] (vb (decide (k=0∨k=1))):=by
 refine zag Tryz.func166 rfl Tryz.ntmps166 rfl rfl rfl ?_ rfl;(repeat' (first|refine sx ?_|refine aS fun P9 h9=>?_|refine aB fun P9 _ _ _ _=>?_|refine w0 ?_|(refine s2 ?_ ?_<;>intro h7<;>try omega)));all_goals refine fe ?_
 all_goals simp [*]
theorem cra0{P G:Prop}(n:P)(h:Go.Kp.Wr P→G:=by(intro n;first|((with_reducible apply kC);first|exact gB ⟨_,zv8 _ _ _,.mk rfl n.p⟩|exact gB ⟨_,zel _ _ _ _,.mk rfl n.p⟩|exact gB ⟨_,zjr _,.mk rfl n.p⟩|exact gK n.p|exact gS n.p)|exact⟨_,zv8 _ _ _,n.p⟩|exact⟨_,zel _ _ _ _,n.p⟩|exact⟨_,zjr _,n.p⟩|exact sk n.p|exact ap n.p)):G:=h ⟨n⟩
set_option maxRecDepth 20000 in
set_option maxHeartbeats 8000000 in
theorem zm5(most:Int)(ss:List Slip)(ms:List SumR)(i:Nat)(s:Slip)(hs:ss[i]?=some s)(hn:ss.length≤20):AFn (cx G) 151 [bk most ss ms,vi i] (vi (ze6 ss i s)):=by
 have hrow:(ss.map Slip.row)[i]?=some s.row:=by simp [hs]
 have hil:i<(ss.map Slip.row).length:=by simpa using (kab.1 hs).1
 have hi20:i<20:=by have:=(kab.1 hs).1;omega
 refine zag Tryz.func151 rfl Tryz.ntmps151 rfl rfl rfl ?_ rfl;by_cases hfo:0≤s.for_∧s.for_≤(i:Int)-1
 ·obtain⟨f,hf⟩:∃f:Nat,s.for_=(f:Int):=⟨s.for_.toNat,by omega⟩;have hfi:f<i:=by omega
  have hfl:f<(ss.map Slip.row).length:=by omega
  obtain⟨t,ht⟩:∃t,ss[f]?=some t:=⟨_,kaa (by simpa using hfl)⟩;have hrow2:(ss.map Slip.row)[f]?=some t.row:=by simp [ht]
  have hg:ss.getD s.for_.toNat ⟨0,0,0,0,0,0,0⟩=t:=by simp [hf,ht]
  (repeat' (first|refine sx ?_|refine aS fun P9 h9=>?_|refine aB fun P9 _ _ _ _=>?_|refine cra0 ?_|(refine s2 ?_ ?_<;>intro h7<;>try omega)));all_goals try refine fe ?_
  all_goals refine congrArg vi ?_
  all_goals unfold ze6 zpl
  all_goals rw [hg]
  all_goals grind
 ·(repeat' (first|refine sx ?_|refine aS fun P9 h9=>?_|refine aB fun P9 _ _ _ _=>?_|refine cra0 ?_|(refine s2 ?_ ?_<;>intro h7<;>try omega)));all_goals try refine fe ?_
  all_goals refine congrArg vi ?_
  all_goals unfold ze6 zpl
  all_goals grind
end
end Go.Ab.J
