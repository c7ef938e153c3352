/- Pieces of a law about sales. Conditions: none. -/
import Derived.Test.YtbghfeeibnmlbaaGreatDoorZJ
import Derived.Test.YtbghfeeibnmlbaaGreatDoorZu
import Derived.AtR
import Derived.Calls
import Derived.ChangeKeysEq
import Derived.Conc.AtomicLaws2
import Derived.Conc.Beside
import Derived.Conc.ClockLaws
import Derived.Conc.CompanyDraw
import Derived.Conc.CompanyMem
import Derived.Conc.HoldsTime
import Derived.Conc.LockJoin
import Derived.Conc.MarkLaws
import Derived.Conc.MuSpec
import Derived.Conc.MuStops
import Derived.Conc.Own
import Derived.Conc.Starve
import Derived.Conc.WgArith
import Derived.Great.BuildSlice
import Derived.Great.FillDense
import Derived.Laws.OwnMore
import Derived.Laws.Sem
import Derived.Laws.StructEq
import Derived.LoopNIn
import Derived.MapKept
import Derived.Maps.AppendAt
import Derived.OwnWalkIn
import Derived.RangeFuncBound
import Derived.RangeFuncCalls
import Derived.RangeFuncLeaves
import Derived.RangeFuncNested
import Derived.RangeFuncRecord
import Derived.Shelf.Abstract
import Derived.TacticsInMore
import Derived.Test.YtbghfeeibnmlbaaGreatDoorProg
import Derived.WalkKit
namespace Go.Ab.J
open Go Go.Proofs Go.Kp
section
variable{G:zbf}
attribute [local irreducible] AOp AW ADr AFn ze1 AFt AOpJ
set_option maxRecDepth 20000
set_option maxHeartbeats 8000000
theorem crk0{P G:Prop}(n:P)(h:Wr P→G:=by(intro n;first|((with_reducible apply kC);first|exact gB ⟨_,zv8 _ _ _,.mk rfl n.p⟩|exact gK n.p|exact gS n.p)|exact⟨_,zv8 _ _ _,n.p⟩|exact sk n.p|exact ap n.p)):G:=h ⟨n⟩
theorem erk0{G:Prop}(h:G:=by((repeat' (first|refine sx ?_|(refine aZ ?_;intros)|refine crk0 ?_|(refine s2 ?_ ?_<;>intro h7<;>try omega)));refine fe ?_;rw [hF])):G:=h
theorem z75(l:List Int)(x:Int)(hl:l.length≤100000):AFn (cx G) 31 [.sl 1 (il l),vi x] (vb (decide (x∈l))):=by
 refine aby Tryz.func31 Tryz.ntmps31 fun Q hQ=>?_;(repeat' (first|refine sx ?_|(refine aZ ?_;intros)|refine crk0 ?_|(refine s2 ?_ ?_<;>intro h7<;>try omega)));refine zbe l.length (fun i=>∀j,j<i→l.getD j 0≠x) (fun i=>[(2*0,.av (.sl 1 (il l))),(2*1,.av (vi x)),(2*5,.av (vi i))]) (fun j hj=>by omega) ?_ ?_
 ·exact si
 ·intro i hi hP;rcases kae i l.length with hlt|hge
  ·obtain⟨z,hz⟩:∃z,l[i]?=some z:=⟨_,kaa hlt⟩;have hzr:(il l)[i]?=some [vi z]:=zcm hz;have hzl:i<(il l).length:=by simp;omega
   have hgz:l.getD i 0=z:=by simp [hz]
   have hd:decide ((i:Int)<((il l).length:Int))=true:=by simp;omega
   by_cases hx:z=x
   ·have hdx:decide (z=x)=true:=by simpa using hx
    have hF:decide (x∈l)=true:=by subst hx;simpa using kag hz
    exact erk0
   ·have hdx:decide (z=x)=false:=by simpa using hx
    (repeat' (first|refine sx ?_|(refine aZ ?_;intros)|refine crk0 ?_|(refine s2 ?_ ?_<;>intro h7<;>try omega)));refine⟨hlt,fun j hj=>?_,?_⟩
    ·rcases kae j i with h|h
     ·exact hP j h
     ·have:j=i:=by omega
      subst this;rw [hgz];exact hx
    ·exact si
  ·have he:i=l.length:=by omega
   subst he;have hd:decide ((l.length:Int)<((il l).length:Int))=false:=by simp
   have hF:decide (x∈l)=false:=decide_eq_false fun hm=>by obtain⟨j,hj⟩:=kba hm;exact hP j (kab.1 hj).1 (by simp [hj])
   exact erk0
end
end Go.Ab.J
