/- Pieces of a law about sales. Conditions: none. -/
import Derived.Test.YtbghfeeibnmlbaaGreatDoorHNd
import Derived.AtR
import Derived.Calls
import Derived.ChangeKeysEq
import Derived.Conc.AtomicLaws2
import Derived.Conc.Beside
import Derived.Conc.ClockLaws
import Derived.Conc.CompanyDraw
import Derived.Conc.CompanyMem
import Derived.Conc.HoldsTime
import Derived.Conc.LockJoin
import Derived.Conc.MarkLaws
import Derived.Conc.MuSpec
import Derived.Conc.MuStops
import Derived.Conc.Own
import Derived.Conc.Starve
import Derived.Conc.WgArith
import Derived.Great.BuildSlice
import Derived.Great.FillDense
import Derived.Laws.Bits64b
import Derived.Laws.CopyRow
import Derived.Laws.MakeOwn
import Derived.Laws.OwnMore
import Derived.Laws.Sem
import Derived.Laws.Shifts
import Derived.Laws.StructEq
import Derived.LoopNIn
import Derived.MapKept
import Derived.Maps.AppendAt
import Derived.OwnWalkIn
import Derived.RangeFuncBound
import Derived.RangeFuncCalls
import Derived.RangeFuncLeaves
import Derived.RangeFuncNested
import Derived.RangeFuncRecord
import Derived.Shelf.Abstract
import Derived.Sort.AssemblyPlain
import Derived.Sort.LotD4
import Derived.Sort.LotD5
import Derived.TacticsInMore
import Derived.Test.YtbghfeeibnmlbaaGreatDoorProg
import Derived.WalkKit
namespace Go.Ab.J
open Go Go.Proofs Go.Kp
section
variable{G:zbf}{u:Nat→ByteArray}
attribute [local irreducible] AOp AW ADr AFn ze1 AFt AOpJ
set_option maxRecDepth 20000
set_option maxHeartbeats 8000000
theorem yph(most:Int)(ss:List Slip)(ms:List SumR)(m:SumR)(hm:ms.length≤20):AFn (cx G) 44 [bk most ss ms,.agg m.row] (bk most ss (ms++[m])):=by
 refine aby Tryz.func44 Tryz.ntmps44 fun Q hQ=>?_;have hb:(ms.map SumR.row).length+1≤1000000000:=by simp;omega
 have hX:ms.map SumR.row++[m.row]=(ms++[m]).map SumR.row:=by simp
 (repeat' (first  |refine sy ?_|(refine aZ ?_;intros)|refine w0 ?_|(refine s2 ?_ ?_<;>intro h7<;>try omega)));refine fe ?_;unfold bk;rw [←hX];rfl
end
section
variable{G:zbf}{u:Nat→ByteArray}
def ymx(own most:Int)(ss:List Slip)(ms:List SumR):Int:=if own≠0 then own else zbt most ss ms 0
def ymi(own most:Int)(ss:List Slip)(ms:List SumR):AV:=if ymx own most ss ms=0 then bk most ss ms else bk 0 [] []
theorem yne(own most:Int)(ss:List Slip)(ms:List SumR)(l:Int):(AV.tup [ymi own most ss ms,vi l]).ids=[]:=by unfold ymi;split<;>rfl
theorem ykg{own most:Int}{ss:List Slip}{ms:List SumR}(h:own≠0):ymi own most ss ms=bk 0 [] []∧ymx own most ss ms=own:=by have e:ymx own most ss ms=own:=if_pos h;exact⟨by rw [ymi,e,if_neg h],e⟩
attribute [local irreducible] AOp AW ADr AFn ze1 AFt AOpJ
set_option maxRecDepth 20000
set_option maxHeartbeats 8000000
end
section
variable{G:zbf}{u:Nat→ByteArray}
theorem ynz(u:Nat→ByteArray):AFn (cx (zch u)) 38 [bk 0 [] [],.agg [vi 0,.val (.slice none 0 0),.val (.slice none 0 0)]] (vb true):=zsx (yi2 0 [] [] (by simp) (by simp)) fun I w vs _ h=>by obtain⟨v1,vs1,rfl,h1,h2⟩:=h.inv;obtain⟨v2,vs2,rfl,h3,h4⟩:=h2.inv;exact(h4.cons (yi6 h3)).cons h1
attribute [local irreducible] AOp AW ADr AFn ze1 AFt AOpJ
set_option maxRecDepth 20000
set_option maxHeartbeats 16000000
end
section
variable{G:zbf}{u:Nat→ByteArray}
attribute [local irreducible] AOp AW ADr AFn ze1 AFt AOpJ
set_option maxRecDepth 20000
set_option maxHeartbeats 8000000
theorem ypj{most:Int}{ss:List Slip}{ms:List SumR}(hm:ms.length≤20)(m:SumR):zu1 (cx G) 128 ([]++[.ptr 6 0]++[.elt 5 [m.row] 0 0]) (bkM 6 most ss ms) (.tup []) (bkM 6 most ss (ms++[m])) [2001,2002]:=by
 refine zeu [(6,0)] Tryz.func128 rfl Tryz.ntmps128 rfl rfl rfl fun Q hQ=>?_;have hb:(ms.map SumR.row).length+1≤1000000000:=by simp;omega
 have hX:ms.map SumR.row++[m.row]=(ms++[m]).map SumR.row:=by simp
 (repeat' (first  |refine sy ?_|(refine aZ ?_;intros)|refine w0 ?_|(refine s2 ?_ ?_<;>intro h7<;>try omega)))
 refine hQ.go _ _ [(2*0,.av (.ptr 6 0)),(2*6+1,.cells 25 [vi most,.own 2001,.own 2002]),(2*2001+1,.buf 7 67 (ss.map Slip.row)),(2*2002+1,.buf 5 76 ((ms++[m]).map SumR.row))] (zbg (rn1 2002 10) ?_ rfl rfl) (.inl rfl) rfl ⟨rfl,rfl,rfl,trivial⟩ (fun p hp=>by cases hp with|head=>rfl|tail _ h=>cases h);rw [←hX];exact sr
end
section
variable{G:zbf}{u:Nat→ByteArray}
attribute [local irreducible] AOp AW ADr AFn ze1 AFt AOpJ
set_option maxRecDepth 20000
set_option maxHeartbeats 8000000
theorem cyu0{P G:Prop}(n:P)(h:Wr P→G:=by(intro n;first|((with_reducible apply kC);first|exact gB ⟨_,zbh _ _ _ hn hm,.mk rfl n.p⟩|exact gB ⟨_,hT,.mk rfl n.p⟩|exact gK n.p|exact gS n.p)|exact⟨_,zbh _ _ _ hn hm,n.p⟩|exact⟨_,hT,n.p⟩|exact sk n.p|exact ap n.p)):G:=h ⟨n⟩
theorem eyu0{G:Prop}(h:G:=by((repeat' (first|refine zbx (zcj 3 3 rfl rfl rfl (by decide)) ?_ |refine sy ?_|(refine aZ ?_;intros)|refine cyu0 ?_|(refine s2 ?_ ?_<;>intro h7<;>try omega)));exact hQ.go _ _ _ zcz (.inr rfl) rfl)):G:=h
theorem eyu1{G:Prop}(h:G:=by((repeat' (first|refine zbx (zcj 3 3 rfl rfl rfl (by decide)) ?_ |refine sy ?_|(refine aZ ?_;intros)|refine cyu0 ?_|(refine s2 ?_ ?_<;>intro h7<;>try omega)));exact hQ.go _ _ _ ((zdn 4 1 3001 7 67 rfl rfl rfl).trans (zdn 4 2 3002 5 76 rfl rfl rfl)) (.inr rfl) rfl)):G:=h
theorem ypi(most:Int)(ss:List Slip)(ms:List SumR)(m:SumR)(hn:ss.length≤20)(hm:ms.length≤20) :
  AFn (cx (zch u)) 45 [bk most ss ms,.agg m.row] (.tup [ymi (zak most ss ms) most ss (ms++[m]),vi (ymx (zak most ss ms) most ss (ms++[m]))]):=by
 refine zg1 Tryz.func45 rfl Tryz.ntmps45 rfl rfl rfl (fun Q hQ=>?_) (yne _ _ _ _ _)
 by_cases hc:zak most ss ms=0
 ·have hdc:decide (zak most ss ms=0)=true:=by simpa using hc
  have h6:=((za2 most ss ms).1 hc).nms;have hm2:(ms++[m]).length≤20:=by simp;omega
  have hT:=yc2 (u:=u) (caps:=[.elt 5 [m.row] 0 0]) rfl hn hm hn hm2 (ypj (G:=zch u) (most:=most) (ss:=ss) hm m);have e:ymx 0 most ss (ms++[m])=zbt most ss (ms++[m]) 0:=if_neg (by simp);rw [hc] at hQ;rw [ymi,e] at hQ;unfold ztd at hT;by_cases hl:zbt most ss (ms++[m]) 0=0
  ·rw [if_pos hl] at hT hQ;exact eyu0
  ·rw [if_neg hl] at hT hQ;exact eyu0
 ·have hdc:decide (zak most ss ms=0)=false:=by simpa using hc
  rw [(ykg hc).1,(ykg hc).2] at hQ;exact eyu1
end
end Go.Ab.J
