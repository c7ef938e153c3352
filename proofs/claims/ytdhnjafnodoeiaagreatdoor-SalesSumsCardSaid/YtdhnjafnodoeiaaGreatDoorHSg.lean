/- For every book, kind, number and index the function SalesSums answers true, whatever other goroutines do, and leaves its arguments as they were. Conditions: those of the given row. -/
import Derived.Test.YtdhnjafnodoeiaaGreatDoorHSf
import Derived.AtR
import Derived.Calls
import Derived.Conc.AtomicLaws2
import Derived.Conc.Beside
import Derived.Conc.ClockLaws
import Derived.Conc.CompanyDraw
import Derived.Conc.CompanyMem
import Derived.Conc.HoldsTime
import Derived.Conc.LockJoin
import Derived.Conc.MarkLaws
import Derived.Conc.MuSpec
import Derived.Conc.MuStops
import Derived.Conc.Own
import Derived.Conc.Starve
import Derived.Conc.WgArith
import Derived.Great.BuildSlice
import Derived.Great.FillDense
import Derived.Laws.OwnMore
import Derived.Laws.Sem
import Derived.LoopNIn
import Derived.MapKept
import Derived.Maps.AppendAt
import Derived.OwnWalkIn
import Derived.RangeFuncBound
import Derived.RangeFuncCalls
import Derived.RangeFuncLeaves
import Derived.RangeFuncNested
import Derived.RangeFuncRecord
import Derived.Shelf.Abstract
import Derived.TacticsInMore
import Derived.WalkKit
namespace Go.Ab.J
open Go Go.Proofs Go.Kp
section
variable{G:zbf}{u:Nat→ByteArray}
attribute [local irreducible] AOp AW ADr AFn ze1 AFt AOpJ
set_option maxRecDepth 20000
set_option maxHeartbeats 8000000
theorem yi9{P G:Prop}(n:P)(h:Go.Kp.Wr P→G:=by(intro n;first|((with_reducible apply kC);first|exact gB ⟨_,z1f _ _ _,.mk rfl n.p⟩|exact gB ⟨_,hsum,.mk rfl n.p⟩|exact gB ⟨_,hca,.mk rfl n.p⟩|exact gB ⟨_,hcb,.mk rfl n.p⟩|exact gB ⟨_,hcc,.mk rfl n.p⟩|exact gB ⟨_,hcd,.mk rfl n.p⟩|exact gB ⟨_,hfa,.mk rfl n.p⟩|exact gB ⟨_,hfb,.mk rfl n.p⟩|exact gB ⟨_,hsame,.mk rfl n.p⟩|exact gB ⟨_,hce,.mk rfl n.p⟩|exact gB ⟨_,hcf,.mk rfl n.p⟩|exact gK n.p|exact gS n.p)|exact⟨_,z1f _ _ _,n.p⟩|exact⟨_,hsum,n.p⟩|exact⟨_,hca,n.p⟩|exact⟨_,hcb,n.p⟩|exact⟨_,hcc,n.p⟩|exact⟨_,hcd,n.p⟩|exact⟨_,hfa,n.p⟩|exact⟨_,hfb,n.p⟩|exact⟨_,hsame,n.p⟩|exact⟨_,hce,n.p⟩|exact⟨_,hcf,n.p⟩|exact sk n.p|exact ap n.p)):G:=h ⟨n⟩
theorem law_a(most:Int)(ss:List Slip)(ms:List SumR)(k a sum:Int)(hsum:AFn (cx (zch u)) 10 [] (vb true))
  (hS:ss.length≤20→ms.length≤20→zyr most ss ms k a=znn most ss ms k a) (hF:ss.length≤20→ms.length≤20→zge most ss ms sum=zf7 most ss ms sum)
  (hW:ss.length≤20→ms.length≤20→zjw most ss ms=zcf most ss ms) (hA:ss.length≤20→ms.length≤20→zyu most ss ms=znr most ss ms)
  (hW0:(zjw most ss ms).2≠0↔zcf most ss ms=([],9)∨zak most ss ms≠0) (hWl:(zjw most ss ms).1.length≤100000) :
  Top (cx (zch u)) 3 [bk most ss ms,vi k,vi a,vi sum] (vb true):=by
 refine top_by Tryz.func3 (by kernel_rfl) rfl Tryz.ntmps3 rfl rfl ?_ rfl
 refine zab fun Q hQ=>?_
 by_cases hg:20<ss.length∨20<ms.length
 ·have hd1:decide (20<ss.length∨20<ms.length)=true:=by simpa using hg
  (repeat' (first|refine sx ?_|refine aS fun P9 h9=>?_|refine aB fun P9 _ _ _ _=>?_|refine yi9 ?_|(refine s2 ?_ ?_<;>intro h7<;>try omega)));refine fe ?_;rfl
 have hd1:decide (20<ss.length∨20<ms.length)=false:=by simpa using hg
 have hn:ss.length≤20:=by omega
 have hm:ms.length≤20:=by omega
 have hca:=sum_a (u:=u) most ss ms k a hn hm
 have hcb:=z4a (G:=zch u) most ss ms k a hn hm
 have hcc:=zuj (u:=u) most ss ms sum hn hm
 have hcd:=zyf (G:=zch u) most ss ms sum hn hm
 have hce:=ask_a (u:=u) most ss ms hn hm
 have hcf:=z6t (G:=zch u) most ss ms hn hm
 have hfa:=zwk (u:=u) most ss ms hn hm
 have hfb:=zui (G:=zch u) most ss ms hn hm
 rw [←hS hn hm] at hcb
 rw [←hF hn hm] at hcd
 rw [←hA hn hm] at hcf
 generalize zyr most ss ms k a=z1 at hca hcb
 generalize zge most ss ms sum=z2 at hcc hcd
 generalize zyu most ss ms=z3 at hce hcf
 have hb1:(!decide (z1.2=z1.2))=false:=by simp
 have hb2:(!decide (z2.1=z2.1))=false:=by simp
 have hb3:(!decide (z2.2=z2.2))=false:=by simp
 have hb4:decide (z3.1.1=z3.1.1)=true:=by simp
 have hb5:decide (z3.1.2=z3.1.2)=true:=by simp
 have hb6:decide (z3.2=z3.2)=true:=by simp
 by_cases hz:(zjw most ss ms).2≠0
 ·rw [if_pos hz] at hfa;rw [if_pos (hW0.1 hz),←hW hn hm] at hfb;generalize (zjw most ss ms).2=z4 at hfa hfb;have hb7:(!decide (z4=z4))=false:=by simp
  have hsame:AFn (cx (zch u)) 17 [.val (.slice none 0 0),.val (.slice none 0 0)] (vb true):=zsx (zg5 [] [] (by simp) (by simp)) fun I w vs _ h=>by obtain⟨v1,vs1,rfl,h1,h2⟩:=h.inv;obtain⟨v2,vs2,rfl,h3,h4⟩:=h2.inv;have e1:=h1.val_eq;have e2:=h3.val_eq;subst e1 e2;exact(h4.cons (.nil 1)).cons (.nil 1)
  (repeat' (first|refine sx ?_|refine aS fun P9 h9=>?_|refine aB fun P9 _ _ _ _=>?_|refine yi9 ?_|(refine s2 ?_ ?_<;>intro h7<;>try omega)));refine g1 ?_ (by first|exact gdN rfl|exact gdT rfl rfl rfl) ⟨z27 (by decide) rfl rfl,z1y rfl rfl rfl⟩;(repeat' (first|refine sx ?_|refine aS fun P9 h9=>?_|refine aB fun P9 _ _ _ _=>?_|refine yi9 ?_|(refine s2 ?_ ?_<;>intro h7<;>try omega)));refine fe ?_;rfl
 ·rw [if_neg hz] at hfa;rw [if_neg (fun h=>hz (hW0.2 h)),←hW hn hm] at hfb;have hsame:=zg5 (G:=zch u) (zjw most ss ms).1 (zjw most ss ms).1 hWl hWl;rw [decide_eq_true rfl] at hsame;generalize (zjw most ss ms).1=z4 at hfa hfb hsame;have hb7:(!decide ((0:Int)=0))=false:=by simp
  (repeat' (first|refine sx ?_|refine aS fun P9 h9=>?_|refine aB fun P9 _ _ _ _=>?_|refine yi9 ?_|(refine s2 ?_ ?_<;>intro h7<;>try omega)));refine g1 ?_ (by first|exact gdN rfl|exact gdT rfl rfl rfl) ⟨z27 (by decide) rfl rfl,z1y rfl rfl rfl⟩;(repeat' (first|refine sx ?_|refine aS fun P9 h9=>?_|refine aB fun P9 _ _ _ _=>?_|refine yi9 ?_|(refine s2 ?_ ?_<;>intro h7<;>try omega)));refine fe ?_;rfl
theorem yac(u:Nat→ByteArray)(hsum:AFn (cx (zch u)) 10 [] (vb true))(most:Int)(ss:List Slip)(ms:List SumR)(k a sum:Int) :
  Top (cx (zch u)) 3 [bk most ss ms,vi k,vi a,vi sum] (vb true) :=
 law_a most ss ms k a sum hsum (fun _ _=>yc6 most ss ms k a) (fun _ _=>z52 most ss ms sum) (fun _ _=>z8a most ss ms) (fun _ _=>yeu most ss ms) (z50 most ss ms) (ya2 most ss ms)
end
end Go.Ab.J
namespace Go.Ab.J
open Go
theorem rNil{E:Env}{w:World}:yf1 E w [] []:=yf1.nil _ _
end Go.Ab.J
