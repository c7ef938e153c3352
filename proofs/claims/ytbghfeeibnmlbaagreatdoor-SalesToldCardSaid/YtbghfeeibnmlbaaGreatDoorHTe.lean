/- Pieces of a law about sales. Conditions: none. -/
import Derived.Test.YtbghfeeibnmlbaaGreatDoorHTd
import Derived.AtR
import Derived.Calls
import Derived.Conc.AtomicLaws2
import Derived.Conc.Beside
import Derived.Conc.ClockLaws
import Derived.Conc.CompanyDraw
import Derived.Conc.CompanyMem
import Derived.Conc.HoldsTime
import Derived.Conc.LockJoin
import Derived.Conc.MarkLaws
import Derived.Conc.MuSpec
import Derived.Conc.MuStops
import Derived.Conc.Own
import Derived.Conc.Starve
import Derived.Conc.WgArith
import Derived.Great.BuildSlice
import Derived.Great.FillDense
import Derived.Laws.OwnMore
import Derived.Laws.Sem
import Derived.LoopNIn
import Derived.MapKept
import Derived.Maps.AppendAt
import Derived.OwnWalkIn
import Derived.RangeFuncBound
import Derived.RangeFuncCalls
import Derived.RangeFuncLeaves
import Derived.RangeFuncNested
import Derived.RangeFuncRecord
import Derived.Shelf.Abstract
import Derived.TacticsInMore
import Derived.WalkKit
namespace Go.Ab.J
open Go Go.Proofs Go.Kp
section
variable{G:zbf}{u:Nat→ByteArray}
def ykk(x y:Int)(s:Slip):Slip:=⟨s.kind,s.dept,s.clerk,s.for_,max s.lo x,min s.hi y,s.signed⟩
attribute [local irreducible] AOp AW ADr AFn ze1 AFt AOpJ
set_option maxRecDepth 20000
set_option maxHeartbeats 8000000
theorem ymq(a b c d:Int):AFn (cx G) 141 [.agg [vi a,vi b],.agg [vi c,vi d]] (.agg [vi (max a c),vi (min b d)]):=by refine aby Tryz.func141 Tryz.ntmps141 fun Q hQ=>?_;(repeat' (first|refine sx ?_|(refine aZ ?_;intros)|refine w0 ?_|(refine s2 ?_ ?_<;>intro h7<;>try omega)));refine fe ?_;rfl
theorem put_a(most:Int)(ss:List Slip)(ms:List SumR)(k:Nat)(s:Slip)(hn:ss.length≤20)(hk:k<ss.length):AFn (cx G) 119 [bk most ss ms,vi k,.agg s.row] (bk most (ss.set k s) ms):=by
 refine aby Tryz.func119 Tryz.ntmps119 fun Q hQ=>?_;obtain⟨t,hs⟩:∃t,ss[k]?=some t:=⟨_,kaa hk⟩;have hrow:(ss.map Slip.row)[k]?=some t.row:=by simp [hs]
 have hil:k<(ss.map Slip.row).length:=by simpa using hk
 have hb:(ss.map Slip.row).length≤1000000000:=by simp;omega
 have hX:(ss.map Slip.row).set k (spl t.row 0 s.row)=(ss.set k s).map Slip.row:=by rw [keg];rfl
 (repeat' (first  |refine sy ?_|(refine aZ ?_;intros)|refine w0 ?_|(refine s2 ?_ ?_<;>intro h7<;>try omega)));refine fe ?_;unfold bk;rw [←hX];rfl
theorem cym0{P G:Prop}(n:P)(h:Wr P→G:=by(intro n;first|((with_reducible apply kC);first|exact gB ⟨_,ymq _ _ _ _,.mk rfl n.p⟩|exact gB ⟨_,hp,.mk rfl n.p⟩|exact gK n.p|exact gS n.p)|exact⟨_,ymq _ _ _ _,n.p⟩|exact⟨_,hp,n.p⟩|exact sk n.p|exact ap n.p)):G:=h ⟨n⟩
theorem yok(most:Int)(ss:List Slip)(ms:List SumR)(k:Nat)(s:Slip)(x y:Int)(hn:ss.length≤20)(hs:ss[k]?=some s):AFn (cx G) 62 [bk most ss ms,vi k,.agg [vi x,vi y]] (bk most (ss.set k (ykk x y s)) ms):=by
 refine aby Tryz.func62 Tryz.ntmps62 fun Q hQ=>?_;have hk:=(kab.1 hs).1;have hrow:(ss.map Slip.row)[k]?=some s.row:=by simp [hs]
 have hil:k<(ss.map Slip.row).length:=by simpa using hk
 have hp:=put_a (G:=G) most ss ms k (ykk x y s) hn hk;(repeat' (first  |refine sy ?_|(refine aZ ?_;intros)|refine cym0 ?_|(refine s2 ?_ ?_<;>intro h7<;>try omega)));refine fe ?_;rfl
end
section
variable{G:zbf}{u:Nat→ByteArray}
def ymx(own most:Int)(ss:List Slip)(ms:List SumR):Int:=if own≠0 then own else zbt most ss ms 0
def ymi(own most:Int)(ss:List Slip)(ms:List SumR):AV:=if ymx own most ss ms=0 then bk most ss ms else bk 0 [] []
theorem yne(own most:Int)(ss:List Slip)(ms:List SumR)(l:Int):(AV.tup [ymi own most ss ms,vi l]).ids=[]:=by unfold ymi;split<;>rfl
theorem ykg{own most:Int}{ss:List Slip}{ms:List SumR}(h:own≠0):ymi own most ss ms=bk 0 [] []∧ymx own most ss ms=own:=by have e:ymx own most ss ms=own:=if_pos h;exact⟨by rw [ymi,e,if_neg h],e⟩
attribute [local irreducible] AOp AW ADr AFn ze1 AFt AOpJ
set_option maxRecDepth 20000
set_option maxHeartbeats 8000000
end
section
variable{G:zbf}{u:Nat→ByteArray}
def yll(ss:List Slip)(slip x y:Int):List Slip:=ss.set slip.toNat (ykk x y (ss.getD slip.toNat d7))
def ykh(most:Int)(ss:List Slip)(ms:List SumR)(slip x y:Int):Int :=
 if zak most ss ms≠0 then zak most ss ms else if ¬(0≤slip∧slip≤(ss.length:Int)-1) then 6 else if ¬(0≤x∧x≤y∧y≤999) then 1 else
  if max (ss.getD slip.toNat d7).lo x > min (ss.getD slip.toNat d7).hi y then 9 else 0
attribute [local irreducible] AOp AW ADr AFn ze1 AFt AOpJ
set_option maxRecDepth 20000
set_option maxHeartbeats 8000000
end
section
variable{G:zbf}{u:Nat→ByteArray}
attribute [local irreducible] AOp AW ADr AFn ze1 AFt AOpJ
set_option maxRecDepth 20000
set_option maxHeartbeats 8000000
theorem yom{most:Int}{ss:List Slip}{ms:List SumR}{k:Nat}{s:Slip}(hs:ss[k]?=some s)(x y:Int):zu1 (cx G) 140 ([]++[.ptr 6 0]++[.elt 2 [[vi (max s.lo x),vi (min s.hi y)]] 0 0,.elt 1 [[vi k]] 0 0]) (bkM 6 most ss ms) (.tup []) (bkM 6 most (ss.set k (ykk x y s)) ms) [2001,2002]:=by
 refine zeu [(6,0)] Tryz.func140 rfl Tryz.ntmps140 rfl rfl rfl fun Q hQ=>?_;have hrow:(ss.map Slip.row)[k]?=some s.row:=by simp [hs]
 have hil:k<(ss.map Slip.row).length:=by simpa using (kab.1 hs).1
 have hX:(ss.map Slip.row).set k (spl s.row (0+4) [vi (max s.lo x),vi (min s.hi y)])=(ss.set k (ykk x y s)).map Slip.row:=by rw [keg];rfl
 (repeat' (first  |refine sy ?_|(refine aZ ?_;intros)|refine w0 ?_|(refine s2 ?_ ?_<;>intro h7<;>try omega)));exact hQ.go _ _ _ zcz (.inl rfl) rfl ⟨rfl,congrArg (fun z=>some (za7.buf 7 67 z)) hX,rfl,trivial⟩ (fun p hp=>by cases hp with|head=>rfl|tail _ h=>cases h)
theorem cyq0{P G:Prop}(n:P)(h:Wr P→G:=by(intro n;first|((with_reducible apply kC);first|exact gB ⟨_,zbh _ _ _ hn hm,.mk rfl n.p⟩|exact gB ⟨_,zla _ _ _ _ hn,.mk rfl n.p⟩|exact gB ⟨_,zpj _ _ _ _,.mk rfl n.p⟩|exact gB ⟨_,hT,.mk rfl n.p⟩|exact gK n.p|exact gS n.p)|exact⟨_,zbh _ _ _ hn hm,n.p⟩|exact⟨_,zla _ _ _ _ hn,n.p⟩|exact⟨_,zpj _ _ _ _,n.p⟩|exact⟨_,hT,n.p⟩|exact sk n.p|exact ap n.p)):G:=h ⟨n⟩
theorem eyq0{G:Prop}(h:G:=by((repeat' (first|refine zbx (zcj 4 4 rfl rfl rfl (by decide)) ?_|refine zbx (zcj 10 10 rfl rfl rfl (by decide)) ?_ |refine sy ?_|(refine aZ ?_;intros)|refine cyq0 ?_|(refine s2 ?_ ?_<;>intro h7<;>try omega)));exact hQ.go _ _ _ ((zdn 6 1 3001 7 67 rfl rfl rfl).trans (zdn 6 2 3002 5 76 rfl rfl rfl)) (.inr rfl) rfl)):G:=h
theorem eyq1{G:Prop}(h:G:=by((repeat' (first|refine zbx (zcj 4 4 rfl rfl rfl (by decide)) ?_|refine zbx (zcj 10 10 rfl rfl rfl (by decide)) ?_ |refine sy ?_|(refine aZ ?_;intros)|refine cyq0 ?_|(refine s2 ?_ ?_<;>intro h7<;>try omega)));exact hQ.go _ _ _ zcz (.inr rfl) rfl)):G:=h
theorem yol(most:Int)(ss:List Slip)(ms:List SumR)(slip x y:Int)(hn:ss.length≤20)(hm:ms.length≤20) :
  AFn (cx (zch u)) 60 [bk most ss ms,vi slip,.agg [vi x,vi y]] (.tup [ymi (ykh most ss ms slip x y) most (yll ss slip x y) ms,vi (ymx (ykh most ss ms slip x y) most (yll ss slip x y) ms)]):=by
 refine zg1 Tryz.func60 rfl Tryz.ntmps60 rfl rfl rfl (fun Q hQ=>?_) (yne _ _ _ _ _)
 by_cases hc:zak most ss ms=0
 ·have hdc:decide (zak most ss ms=0)=true:=by simpa using hc
  by_cases hf:0≤slip∧slip≤(ss.length:Int)-1
  ·have hdf:decide (0≤slip∧slip≤(ss.length:Int)-1)=true:=decide_eq_true hf;by_cases hx:0≤x∧x≤y∧y≤999
   ·have hdx:decide (0≤x∧x≤y∧y≤999)=true:=decide_eq_true hx;obtain⟨k,rfl⟩:∃k:Nat,slip=(k:Int):=⟨slip.toNat,by omega⟩;obtain⟨s,hs⟩:∃s,ss[k]?=some s:=⟨_,kaa (by omega)⟩;have hg:ss.getD k d7=s:=by simp [hs]
    have hrow:(ss.map Slip.row)[k]?=some s.row:=by simp [hs]
    have hil:k<(ss.map Slip.row).length:=by simp;omega
    have hSS:yll ss k x y=ss.set k (ykk x y s):=by rw [yll,kb9,hg]
    by_cases h9:max s.lo x > min s.hi y
    ·have hd9:decide (max s.lo x > min s.hi y)=true:=decide_eq_true h9;have hO:ykh most ss ms k x y=9:=by rw [ykh,if_neg (by simp [hc]),if_neg (by simpa using hf),if_neg (by simpa using hx),kb9,hg,if_pos h9]
     rw [hO,(ykg (by decide)).1,(ykg (by decide)).2] at hQ;exact eyq0
    ·have hd9:decide (max s.lo x > min s.hi y)=false:=decide_eq_false h9;have hO:ykh most ss ms k x y=0:=by rw [ykh,if_neg (by simp [hc]),if_neg (by simpa using hf),if_neg (by simpa using hx),kb9,hg,if_neg h9]
     have hn2:(ss.set k (ykk x y s)).length≤20:=by simpa using hn
     have hT:=yc2 (u:=u) (caps:=[.elt 2 [[vi (max s.lo x),vi (min s.hi y)]] 0 0,.elt 1 [[vi k]] 0 0]) rfl hn hm hn2 hm (yom (G:=zch u) (most:=most) (ms:=ms) hs x y);have e:ymx 0 most (ss.set k (ykk x y s)) ms=zbt most (ss.set k (ykk x y s)) ms 0:=if_neg (by simp);rw [hO,hSS,ymi,e] at hQ;unfold ztd at hT;by_cases hl:zbt most (ss.set k (ykk x y s)) ms 0=0
     ·rw [if_pos hl] at hT hQ;exact eyq1
     ·rw [if_neg hl] at hT hQ;exact eyq1
   ·have hdx:decide (0≤x∧x≤y∧y≤999)=false:=decide_eq_false hx;have hO:ykh most ss ms slip x y=1:=by rw [ykh,if_neg (by simp [hc]),if_neg (by simpa using hf),if_pos hx]
    rw [hO,(ykg (by decide)).1,(ykg (by decide)).2] at hQ;exact eyq0
  ·have hdf:decide (0≤slip∧slip≤(ss.length:Int)-1)=false:=decide_eq_false hf;have hO:ykh most ss ms slip x y=6:=by rw [ykh,if_neg (by simp [hc]),if_pos hf]
   rw [hO,(ykg (by decide)).1,(ykg (by decide)).2] at hQ;exact eyq0
 ·have hdc:decide (zak most ss ms=0)=false:=by simpa using hc
  have hO:ykh most ss ms slip x y=zak most ss ms:=if_pos hc;rw [hO,(ykg hc).1,(ykg hc).2] at hQ;exact eyq0
end
end Go.Ab.J
