/- For every book and number the function SalesAllowed answers true, whatever other goroutines do, and leaves its arguments as they were. Conditions: those of the given row. -/
import Derived.Test.YtdhnjafnodoeiaaGreatDoorHAe
import Derived.AtR
import Derived.Calls
import Derived.ChangeKeysEq
import Derived.Conc.AtomicLaws2
import Derived.Conc.Beside
import Derived.Conc.ClockLaws
import Derived.Conc.CompanyDraw
import Derived.Conc.CompanyMem
import Derived.Conc.HoldsTime
import Derived.Conc.LockJoin
import Derived.Conc.MarkLaws
import Derived.Conc.MuStops
import Derived.Conc.Own
import Derived.Conc.Starve
import Derived.Conc.WgArith
import Derived.Great.BuildSlice
import Derived.Great.FillDense
import Derived.Laws.CopyRow
import Derived.Laws.MakeOwn
import Derived.Laws.OwnMore
import Derived.Laws.Sem
import Derived.Laws.StructEq
import Derived.LoopNIn
import Derived.MapKept
import Derived.Maps.AppendAt
import Derived.OwnWalkIn
import Derived.RangeFuncBound
import Derived.RangeFuncCalls
import Derived.RangeFuncLeaves
import Derived.RangeFuncNested
import Derived.RangeFuncRecord
import Derived.Shelf.Abstract
import Derived.TacticsInMore
import Derived.Test.YtdhnjafnodoeiaaGreatDoorProg
import Derived.WalkKit
namespace Go.Ab.J
open Go Go.Proofs Go.Kp
section
variable{G:zbf}{u:Nat→ByteArray}
attribute [local irreducible] AOp AW ADr AFn ze1 AFt AOpJ
set_option maxRecDepth 20000
set_option maxHeartbeats 16000000
theorem yi4{most:Int}{ss:List Slip}{ms:List SumR}{k:Nat}(hg:Good most ss ms)(hk:k<ms.length):zbt most ss (trM ms k) 0=if (zah most ss (trM ms k)).length=0 then 9 else 0:=by have hc:=(za2 most ss (trM ms k)).2 (yir hg hk);simp [zbt,hc]
theorem yi7{P G:Prop}(n:P)(h:Go.Kp.Wr P→G:=by(intro n;first|((with_reducible apply kC);first|exact gB ⟨_,ygp _ _ _,.mk rfl n.p⟩|exact gB ⟨_,hsum,.mk rfl n.p⟩|exact gB ⟨_,hh1,.mk rfl n.p⟩|exact gB ⟨_,hf1,.mk rfl n.p⟩|exact gB ⟨_,htr,.mk rfl n.p⟩|exact gB ⟨_,hh2,.mk rfl n.p⟩|exact gB ⟨_,hs0,.mk rfl n.p⟩|exact gB ⟨_,hh3,.mk rfl n.p⟩|exact gB ⟨_,hf3,.mk rfl n.p⟩|exact gB ⟨_,htd,.mk rfl n.p⟩|exact gB ⟨_,hsm,.mk rfl n.p⟩|exact gB ⟨_,zv8 _ _ _,.mk rfl n.p⟩|exact gK n.p|exact gS n.p)|exact⟨_,ygp _ _ _,n.p⟩|exact⟨_,hsum,n.p⟩|exact⟨_,hh1,n.p⟩|exact⟨_,hf1,n.p⟩|exact⟨_,htr,n.p⟩|exact⟨_,hh2,n.p⟩|exact⟨_,hs0,n.p⟩|exact⟨_,hh3,n.p⟩|exact⟨_,hf3,n.p⟩|exact⟨_,htd,n.p⟩|exact⟨_,hsm,n.p⟩|exact⟨_,zv8 _ _ _,n.p⟩|exact sk n.p|exact ap n.p)):G:=h ⟨n⟩
theorem yik(u:Nat→ByteArray)(hsum:AFn (cx (zch u)) 10 [] (vb true))(most:Int)(ss:List Slip)(ms:List SumR)(q:Int)(hq0:0≤q)(hq1:q<256):Top (cx (zch u)) 7 [bk most ss ms,.val (.int .u8 q)] (vb true):=by
 refine top_by Tryz.func7 (by kernel_rfl) rfl Tryz.ntmps7 rfl rfl ?_ rfl;refine zab fun Q hQ=>?_;have hlm:((ms.map SumR.row).length:Int)=(ms.length:Int):=by simp
 by_cases hfit:(ss.length≤20∧ms.length≤20)∧zak most ss ms=0;case neg =>have hd1:decide ((ss.length≤20∧ms.length≤20)∧zak most ss ms=0)=false:=decide_eq_false hfit;(repeat' (first|(with_reducible refine gED ?_ (by kernel_rfl)) |refine sy ?_|refine aS fun P9 h9=>?_|refine aB fun P9 _ _ _ _=>?_|refine yi7 ?_|(refine s2 ?_ ?_<;>intro h7<;>try omega)));refine fe ?_;rfl
 have hd1:decide ((ss.length≤20∧ms.length≤20)∧zak most ss ms=0)=true:=decide_eq_true hfit;obtain⟨⟨hn,hm⟩,hc⟩:=hfit;have hg:=(za2 most ss ms).1 hc;by_cases hne:ms.length=0
 ·have hd2:decide (((ms.map SumR.row).length:Int)=0)=true:=decide_eq_true (by omega);(repeat' (first|(with_reducible refine gED ?_ (by kernel_rfl)) |refine sy ?_|refine aS fun P9 h9=>?_|refine aB fun P9 _ _ _ _=>?_|refine yi7 ?_|(refine s2 ?_ ?_<;>intro h7<;>try omega)));refine fe ?_;rfl
 have hd2:decide (((ms.map SumR.row).length:Int)=0)=false:=decide_eq_false (by omega);have hr:0≤q % ((ms.map SumR.row).length:Int)∧q % ((ms.map SumR.row).length:Int)<((ms.map SumR.row).length:Int):=⟨Int.emod_nonneg _ (by omega),Int.emod_lt_of_pos _ (by omega)⟩;obtain⟨k,hk⟩:∃k:Nat,q % ((ms.map SumR.row).length:Int)=(k:Int):=⟨(q % ((ms.map SumR.row).length:Int)).toNat,by omega⟩
 have hkl:k<ms.length:=by omega
 have hmod:0≤q∧0<((ms.map SumR.row).length:Int):=⟨hq0,by omega⟩;have hmo:=hg.most;have hh1:=zkg (u:=u) most ss ms hn hm;have hN:zr3 most ss ms=(((zah most ss ms).length:Int),0):=by simp [zr3,hc]
 rw [hN] at hh1;have hg2:=yiv hg (show 0≤min (most+1) 2∧min (most+1) 2≤2 by omega);have hh2:=zkg (u:=u) (min (most+1) 2) ss ms hn hm;have hN2:zr3 (min (most+1) 2) ss ms=(((zah (min (most+1) 2) ss ms).length:Int),0):=by simp [zr3,(za2 _ ss ms).2 hg2]
 rw [hN2] at hh2;have hmore:=yiu ss ms (show most≤min (most+1) 2 by omega);generalize (zah (min (most+1) 2) ss ms).length=H2 at hh2 hmore;have hf1:=zuj (u:=u) most ss ms (q % ((ms.map SumR.row).length:Int)) hn hm
 have hF1:zge most ss ms (q % ((ms.map SumR.row).length:Int))=if (zah most ss ms).length=0 then (0,9) else (zpe (zcg (zwn most ss ms k) (zah most ss ms).length) (zah most ss ms).length,0):=by rw [hk];exact yii hg hkl
 rw [hF1] at hf1;have htr:=yix (u:=u) most ss ms (q % ((ms.map SumR.row).length:Int)) hn hm;have hcount:=yiz (most:=most) (ss:=ss) hkl;have hO:yig most ss ms (q % ((ms.map SumR.row).length:Int))=0:=by rw [yig,if_neg (by simp [hc]),if_pos (by omega)]
 have hL:trL most ss ms (q % ((ms.map SumR.row).length:Int))=if (zah most ss (trM ms k)).length=0 then 9 else 0:=by rw [trL,if_neg (by rw [hO];simp),hk,kb9,yi4 hg hkl]
 have hV:trV most ss ms (q % ((ms.map SumR.row).length:Int))=if (zah most ss (trM ms k)).length=0 then bk 0 [] [] else bk most ss (trM ms k):=by
  rw [trV,hL,hk,kb9];by_cases h:(zah most ss (trM ms k)).length=0
  ·rw [if_pos h,if_pos h,if_neg (by decide)]
  ·rw [if_neg h,if_neg h,if_pos rfl]
 rw [hL,hV] at htr;have hs0:AFn (cx (zch u)) 31 [bk 0 [] [],.agg [vi 0,.val (.slice none 0 0),.val (.slice none 0 0)]] (vb true):=zsx (yi2 0 [] [] (by simp) (by simp)) fun I w vs _ h=>by obtain⟨v1,vs1,rfl,h1,h2⟩:=h.inv;obtain⟨v2,vs2,rfl,h3,h4⟩:=h2.inv;exact(h4.cons (yi6 h3)).cons h1
 by_cases hH:(zah most ss ms).length=0
 ·have hT:(zah most ss (trM ms k)).length=0:=by omega
  rw [if_pos hH] at hf1;rw [if_pos hT,if_pos hT] at htr;have e0:((zah most ss ms).length:Int)=0:=by rw [hH];rfl
  rw [e0] at hh1;have hlt:decide ((H2:Int)<0)=false:=decide_eq_false (by omega);(repeat' (first|(with_reducible refine gED ?_ (by kernel_rfl)) |refine sy ?_|refine aS fun P9 h9=>?_|refine aB fun P9 _ _ _ _=>?_|refine yi7 ?_|(refine s2 ?_ ?_<;>intro h7<;>try omega)));refine fe ?_;rfl
 rw [if_neg hH] at hf1;have htn:=yi3 (most:=most) (ss:=ss) hkl;have hm3:(trM ms k).length≤20:=by rw [yie];exact hm
 have hg3:=yir hg hkl;have hh3:=zkg (u:=u) most ss (trM ms k) hn hm3;have hN3:zr3 most ss (trM ms k)=(((zah most ss (trM ms k)).length:Int),0):=by simp [zr3,(za2 most ss (trM ms k)).2 hg3]
 rw [hN3] at hh3;have hf3:=zuj (u:=u) most ss (trM ms k) (q % ((ms.map SumR.row).length:Int)) hn hm3;have hF3:zge most ss (trM ms k) (q % ((ms.map SumR.row).length:Int))=if (zah most ss (trM ms k)).length=0 then (0,9) else (zpe 0 (zah most ss (trM ms k)).length,0):=by rw [hk,yii hg3 (by rw [yie];exact hkl),htn]
 rw [hF3] at hf3;have htd:=yiq (G:=zch u) most ss ms k hm hkl;rw [←hk] at htd;have hsm:=yi2 (G:=zch u) most ss (trM ms k) hn hm3;generalize (zah most ss (trM ms k)).length=T at hcount htr hh3 hf3;generalize (zah most ss ms).length=H at hcount hf1 hh1 hmore hH;generalize zcg (zwn most ss ms k) H=C at hcount hf1;have hlt:decide ((H2:Int)<(H:Int))=false:=decide_eq_false (by omega)
 have hlt2:decide ((H:Int)<0)=false:=decide_eq_false (by omega);have heq:decide ((H:Int)=0)=false:=decide_eq_false (by omega);by_cases hT:T=0
 ·have hC:C=H:=by omega
  have hF:zpe C H=1:=by rw [zpe,if_neg (by omega),if_pos hC]
  rw [hF] at hf1;rw [if_pos hT,if_pos hT] at htr;(repeat' (first|(with_reducible refine gED ?_ (by kernel_rfl)) |refine sy ?_|refine aS fun P9 h9=>?_|refine aB fun P9 _ _ _ _=>?_|refine yi7 ?_|(refine s2 ?_ ?_<;>intro h7<;>try omega)));refine fe ?_;rfl
 ·rw [if_neg hT,if_neg hT] at htr;rw [if_neg hT] at hf3;have hF3':zpe 0 T=2:=by rw [zpe,if_pos rfl]
  rw [hF3'] at hf3;have hin:decide ((1:Int)≤(T:Int)∧(T:Int)≤(H:Int))=true:=decide_eq_true (by omega);by_cases hC:C=0
  ·have hF:zpe C H=2:=by rw [zpe,if_pos hC]
   rw [hF] at hf1;have hTH:(decide ((2:Int)=2) == decide ((T:Int)=(H:Int)))=true:=by rw [decide_eq_true (show(T:Int)=(H:Int) by omega)];rfl
   (repeat' (first|(with_reducible refine gED ?_ (by kernel_rfl)) |refine sy ?_|refine aS fun P9 h9=>?_|refine aB fun P9 _ _ _ _=>?_|refine yi7 ?_|(refine s2 ?_ ?_<;>intro h7<;>try omega)));refine fe ?_;rfl
  ·have hF:zpe C H=0:=by rw [zpe,if_neg hC,if_neg (by omega)]
   rw [hF] at hf1;have hTH:(decide ((0:Int)=2) == decide ((T:Int)=(H:Int)))=true:=by rw [decide_eq_false (show ¬(T:Int)=(H:Int) by omega)];rfl
   (repeat' (first|(with_reducible refine gED ?_ (by kernel_rfl)) |refine sy ?_|refine aS fun P9 h9=>?_|refine aB fun P9 _ _ _ _=>?_|refine yi7 ?_|(refine s2 ?_ ?_<;>intro h7<;>try omega)));refine fe ?_;rfl
end
end Go.Ab.J
